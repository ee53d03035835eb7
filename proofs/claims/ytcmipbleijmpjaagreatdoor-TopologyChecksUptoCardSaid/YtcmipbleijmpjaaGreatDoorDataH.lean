/- What the functions of this program give, on the abstract machine. -/
import Derived.Test.YtcmipbleijmpjaaGreatDoorDataG
set_option linter.unusedVariables false
set_option linter.unusedSimpArgs false
set_option maxHeartbeats 4000000
set_option maxRecDepth 20000
namespace Go.AM.IR
theorem yY (t:Topo) (e:LEnd) (ht:t.routers.length<2^40) (hf: ∀c∈t.routers,c.ls.ifs.length<2^40):aq G 426 [.agg t.enc,.agg e.enc] [] (pc (dA t e)):=by
 have hll:(t.routers.map RConf.enc).length=t.routers.length:=by simp
 by_cases h1:e.router<0
 ·rw[dA,if_pos h1]
  refine ab (F:=vj) rfl rfl (am 300 _ _ _ _ ?_)
  repeat' (first|refine ae ?_|(refine aa ?_ ?_<;>intro h))
  refine ag ?_;(conv=>whnf);refine Go.AM.finC ?_;rfl
 rw[dA,if_neg h1]
 by_cases h2:t.routers.length≤e.router.toNat
 ·rw[List.getElem?_eq_none h2]
  refine ab (F:=vj) rfl rfl (am 300 _ _ _ _ ?_)
  repeat' (first|refine ae ?_|(refine aa ?_ ?_<;>intro h))
  refine ag ?_;(conv=>whnf);refine Go.AM.finC ?_;rfl
 obtain ⟨c,hc⟩: ∃c,t.routers[e.router.toNat]? =some c:=⟨_,List.getElem?_eq_getElem (by omega)⟩
 rw[hc]
 have hx:(t.routers.map RConf.enc)[e.router.toNat]? =some c.enc:=by simp[hc]
 have hcl:=hf c (List.mem_of_getElem? hc)
 have hl2:(c.ls.ifs.map Ifc.enc).length=c.ls.ifs.length:=by simp
 show aq G 426 [.agg t.enc,.agg e.enc] [] (pc (if e.ifc<0 then none else c.ls.ifs[e.ifc.toNat]?))
 by_cases h3:e.ifc<0
 ·rw[if_pos h3]
  refine ab (F:=vj) rfl rfl (am 300 _ _ _ _ ?_)
  repeat' (first|refine ae ?_|(refine aa ?_ ?_<;>intro h))
  refine ag ?_;(conv=>whnf);refine Go.AM.finC ?_;rfl
 rw[if_neg h3]
 by_cases h4:c.ls.ifs.length≤e.ifc.toNat
 ·rw[List.getElem?_eq_none h4]
  refine ab (F:=vj) rfl rfl (am 300 _ _ _ _ ?_)
  repeat' (first|refine ae ?_|(refine aa ?_ ?_<;>intro h))
  refine ag ?_;(conv=>whnf);refine Go.AM.finC ?_;rfl
 obtain ⟨f,hf'⟩: ∃f,c.ls.ifs[e.ifc.toNat]? =some f:=⟨_,List.getElem?_eq_getElem (by omega)⟩
 rw[hf']
 have hy:(c.ls.ifs.map Ifc.enc)[e.ifc.toNat]? =some f.enc:=by simp[hf']
 refine ab (F:=vj) rfl rfl (am 300 _ _ _ _ ?_)
 repeat' (first|refine ae ?_|(refine aa ?_ ?_<;>intro h))
 refine ag ?_;(conv=>whnf);refine Go.AM.finC ?_;rfl
end Go.AM.IR
namespace Go.AM.IR
deriving instance DecidableEq for LEnd
def jv (t:Topo) (prev:List Lnk):List LEnd→List LEnd→Int
 |_,[]=>0
 |d,x::r=>if dA t x=none then 5 else if∃y∈prev,x∈y.ends then 7 else if x∈d then 7 else if∃y∈d,y.router=x.router then 1 else jv t prev (d++[x]) r
theorem en33 (t:Topo) (l:List LEnd) (hl:l.length<2^40) (i:Nat) (hi:i<2^40) (ln:Int) (d:Nat) (x:LEnd) (hd:d<l.length) (hx:l[d]? =some x) (R:Ret)
  (go: ¬(∃y∈l.take d,y.router=x.router)→ ∀(T:List (Nat×AV)) (H:ax) (c:Nat),Ev G ⟨BQ,⟨(21,.int .i64 ((d:Int)+1))::(5,.sl 2 (l.map LEnd.enc))::(2,.ref 66 1 0)::(1,.int .i64 (i:Int))::(20,.int .i64 ln)::T,(66,some (1,.cells t.enc))::H,c⟩,[.t 4],0⟩ R)
  (hR:(∃y∈l.take d,y.router=x.router)→R=⟨.int .i64 1,[]⟩): ∀(f k:Nat) (T:List (Nat×AV)) (H:ax) (c:Nat) (hk:k+f=d) (hP: ¬(∃y∈l.take k,y.router=x.router)),
  Ev G ⟨BR,⟨(80,.int .i64 (k:Int))::(79,.int .i64 (d:Int))::(5,.sl 2 (l.map LEnd.enc))::(2,.ref 66 1 0)::(1,.int .i64 (i:Int))::(20,.int .i64 ln)::(21,.int .i64 (d:Int))::(6,.int .i64 (d:Int))::T,(66,some (1,.cells t.enc))::H,c⟩,[.t 4],0⟩ R
 |0,k,T,H,c,hk,hP=>by
  obtain rfl:k=d:=by omega
  refine evl ?_
  repeat' (first|refine ae ?_|(refine aa ?_ ?_<;>intro h))
  refine ah [21,5,2,1,20] [66] ?_
  exact go hP _ _ _
 |f+1,k,T,H,c,hk,hP=>by
  have hkl:k<l.length:=by omega
  obtain ⟨y,hy⟩: ∃y,l[k]? =some y:=⟨l[k],List.getElem?_eq_getElem hkl⟩
  have ht:l.take (k+1)=l.take k++[y]:=by rw[List.take_add_one,hy];rfl
  have hsub: ∀z,z∈l.take (k+1)→z∈l.take d:=fun z hz=>List.mem_of_mem_take (i:=k+1) (by rw[List.take_take,Nat.min_eq_left (by omega)];exact hz)
  have hx1:(l.map LEnd.enc)[((d:Nat):Int).toNat]? =some x.enc:=by simp[hx]
  have hy1:(l.map LEnd.enc)[((k:Nat):Int).toNat]? =some y.enc:=by simp[hy]
  have hll:(l.map LEnd.enc).length=l.length:=by simp
  by_cases h:y.router=x.router
  ·rw[hR ⟨y,hsub y (by rw[ht];simp),h⟩]
   refine evl ?_
   repeat' (first|refine ae ?_|(refine aa ?_ ?_<;>intro h))
   refine ag ?_;rfl
  ·refine evl ?_
   repeat' (first|refine ae ?_|(refine aa ?_ ?_<;>intro h))
   refine ah [80,79,5,2,1,20,21,6] [66] ?_
   exact en33 t l hl i hi ln d x hd hx R go hR f (k+1) _ _ _ (by omega) (by
    rw[ht];rintro ⟨z,hz,e⟩
    rcases List.mem_append.1 hz with hz|hz
    ·exact hP ⟨z,hz,e⟩
    ·simp only[List.mem_singleton] at hz;subst hz;exact h e)
theorem Y9 (t:Topo) (l:List LEnd) (hl:l.length<2^40) (i:Nat) (hi:i<2^40) (ln:Int) (d:Nat) (x:LEnd) (hd:d<l.length) (hx:l[d]? =some x) (R:Ret)
  (go: ¬(x∈l.take d)→ ∀(T:List (Nat×AV)) (H:ax) (c:Nat),Ev G ⟨BR,⟨(80,.int .i64 0)::(79,.int .i64 (d:Int))::(5,.sl 2 (l.map LEnd.enc))::(2,.ref 66 1 0)::(1,.int .i64 (i:Int))::(20,.int .i64 ln)::(21,.int .i64 (d:Int))::(6,.int .i64 (d:Int))::T,(66,some (1,.cells t.enc))::H,c⟩,[.t 4],0⟩ R)
  (hR:(x∈l.take d)→R=⟨.int .i64 7,[]⟩): ∀(f k:Nat) (T:List (Nat×AV)) (H:ax) (c:Nat) (hk:k+f=d) (hP: ¬(x∈l.take k)),
  Ev G ⟨BT,⟨(66,.int .i64 (k:Int))::(65,.int .i64 (d:Int))::(5,.sl 2 (l.map LEnd.enc))::(2,.ref 66 1 0)::(1,.int .i64 (i:Int))::(20,.int .i64 ln)::(21,.int .i64 (d:Int))::(6,.int .i64 (d:Int))::T,(66,some (1,.cells t.enc))::H,c⟩,[.t 4],0⟩ R
 |0,k,T,H,c,hk,hP=>by
  obtain rfl:k=d:=by omega
  refine evl ?_
  repeat' (first|refine ae ?_|(refine aa ?_ ?_<;>intro h))
  refine ah [80,79,5,2,1,20,21,6] [66] ?_
  exact go hP _ _ _
 |f+1,k,T,H,c,hk,hP=>by
  have hkl:k<l.length:=by omega
  obtain ⟨y,hy⟩: ∃y,l[k]? =some y:=⟨l[k],List.getElem?_eq_getElem hkl⟩
  have ht:l.take (k+1)=l.take k++[y]:=by rw[List.take_add_one,hy];rfl
  have hsub: ∀z,z∈l.take (k+1)→z∈l.take d:=fun z hz=>List.mem_of_mem_take (i:=k+1) (by rw[List.take_take,Nat.min_eq_left (by omega)];exact hz)
  have hx1:(l.map LEnd.enc)[((d:Nat):Int).toNat]? =some x.enc:=by simp[hx]
  have hy1:(l.map LEnd.enc)[((k:Nat):Int).toNat]? =some y.enc:=by simp[hy]
  have hll:(l.map LEnd.enc).length=l.length:=by simp
  by_cases h:y=x
  ·subst h
   rw[hR (hsub y (by rw[ht];simp))]
   refine evl ?_
   repeat' (first|refine ae ?_|(refine aa ?_ ?_<;>intro h))
   refine ag ?_;rfl
  ·have hP': ¬x∈l.take (k+1):=by
    rw[ht];intro hz
    rcases List.mem_append.1 hz with hz|hz
    ·exact hP hz
    ·simp only[List.mem_singleton] at hz;exact h hz.symm
   have h': ¬(y.router=x.router∧y.ifc=x.ifc):=by
    rintro ⟨e1,e2⟩;apply h;cases y;cases x;simp_all
   by_cases h1:y.router=x.router
   ·have h2: ¬y.ifc=x.ifc:=fun e=>h' ⟨h1,e⟩
    refine evl ?_
    repeat' (first|refine ae ?_|(refine aa ?_ ?_<;>intro h))
    refine ah [66,65,5,2,1,20,21,6] [66] ?_
    exact Y9 t l hl i hi ln d x hd hx R go hR f (k+1) _ _ _ (by omega) hP'
   ·refine evl ?_
    repeat' (first|refine ae ?_|(refine aa ?_ ?_<;>intro h))
    refine ah [66,65,5,2,1,20,21,6] [66] ?_
    exact Y9 t l hl i hi ln d x hd hx R go hR f (k+1) _ _ _ (by omega) hP'
theorem Zc (l2:List LEnd) (t:Topo) (htl:t.links.length<2^40) (l:List LEnd) (hl0:l.length<2^40) (i:Nat) (hi:i<t.links.length) (ln0:Int) (d:Nat) (w:LEnd) (hd0:d<l.length) (hx0:l[d]? =some w) (R:Ret) (j:Nat) (hj:j<i) (lk:Lnk) (hlk:t.links[j]? =some lk) (hl2:lk.ends=l2) (go: ¬w∈l2→ ∀(T:List (Nat×AV)) (H:ax) (c:Nat),Ev G ⟨BU,⟨(36,.int .i64 ((j:Int)+1))::(35,.int .i64 (i:Int))::(5,.sl 2 (l.map LEnd.enc))::(2,.ref 66 1 0)::(1,.int .i64 (i:Int))::(20,.int .i64 ln0)::(21,.int .i64 (d:Int))::(6,.int .i64 (d:Int))::T,(66,some (1,.cells t.enc))::H,c⟩,[.t 4],0⟩ R) (hR:w∈l2→R=⟨.int .i64 7,[]⟩) (hl:l2.length<2^40) (ln:Int) (hln:ln=l2.length): ∀(rest done:List LEnd)  (T:List (Nat×AV)) (H:ax) (c:Nat) (n:Int) (e:l2=done++rest) (hn:n=done.length) (hP: ¬w∈done),Ev G ⟨Ta,⟨(44,.sl 2 (l2.map LEnd.enc))::(45,.int .i64 ln)::(46,.int .i64 n)::(36,.int .i64 (j:Int))::(35,.int .i64 (i:Int))::(9,.int .i64 (j:Int))::(5,.sl 2 (l.map LEnd.enc))::(2,.ref 66 1 0)::(1,.int .i64 (i:Int))::(20,.int .i64 ln0)::(21,.int .i64 (d:Int))::(6,.int .i64 (d:Int))::T,(66,some (1,.cells t.enc))::H,c⟩,[.t 4],0⟩ R
 | [],done,  T,H,c,n,e,hn,hP=>by
  have hd:l2.length=done.length:=by simp[e]
  have hll:(l2.map LEnd.enc).length=l2.length:=by simp
  obtain rfl:l2=done:=by simp[e]
  refine evl ?_
  repeat' (first|refine ae ?_|(refine aa ?_ ?_<;>intro h))
  refine ah [36,35,5,2,1,20,21,6] [66] ?_
  exact go hP _ _ _
 |x::r,done,  T,H,c,n,e,hn,hP=>by
  have hd:l2.length=done.length+(r.length+1):=by simp[e]
  have hll:(l2.map LEnd.enc).length=l2.length:=by simp
  have hx:(l2.map LEnd.enc)[n.toNat]? =some (LEnd.enc x):=by simp[e,hn]
  have hx1:(l.map LEnd.enc)[((d:Nat):Int).toNat]? =some w.enc:=by simp[hx0]
  have hl1:(l.map LEnd.enc).length=l.length:=by simp
  have hy1:(t.links.map Lnk.enc)[((j:Nat):Int).toNat]? =some lk.enc:=by simp[hlk]
  have hy2:(t.links.map Lnk.enc).length=t.links.length:=by simp
  have hz1:(lk.ends.map LEnd.enc)[n.toNat]? =some x.enc:=by rw[hl2];exact hx
  have hz2:(lk.ends.map LEnd.enc).length=l2.length:=by simp[hl2]
  by_cases h:x=w
  ·subst h
   rw[hR (by rw[e];simp)]
   refine evl ?_
   repeat' (first|refine ae ?_|(refine aa ?_ ?_<;>intro h))
   refine ag ?_;rfl
  ·have hP': ¬w∈done++[x]:=by
    intro hz
    rcases List.mem_append.1 hz with hz|hz
    ·exact hP hz
    ·simp only[List.mem_singleton] at hz;exact h hz.symm
   have h': ¬(x.router=w.router∧x.ifc=w.ifc):=by
    rintro ⟨e1,e2⟩;apply h;cases x;cases w;simp_all
   by_cases h1:x.router=w.router
   ·have h2: ¬x.ifc=w.ifc:=fun e=>h' ⟨h1,e⟩
    refine evl ?_
    repeat' (first|refine ae ?_|(refine aa ?_ ?_<;>intro h))
    refine ah [44,45,46,36,35,9,5,2,1,20,21,6] [66] ?_;exact Zc l2 t htl l hl0 i hi ln0 d w hd0 hx0 R j hj lk hlk hl2 go hR hl ln hln r (done++[x])  _ _ _ (n+1) (by simp[e]) (by simp[hn]<;>omega) hP'
   ·refine evl ?_
    repeat' (first|refine ae ?_|(refine aa ?_ ?_<;>intro h))
    refine ah [44,45,46,36,35,9,5,2,1,20,21,6] [66] ?_;exact Zc l2 t htl l hl0 i hi ln0 d w hd0 hx0 R j hj lk hlk hl2 go hR hl ln hln r (done++[x])  _ _ _ (n+1) (by simp[e]) (by simp[hn]<;>omega) hP'
theorem en19 (t:Topo) (htl:t.links.length<2^40) (l:List LEnd) (hl0:l.length<2^40) (i:Nat) (hi:i<t.links.length) (ln0:Int) (d:Nat) (w:LEnd) (hd0:d<l.length) (hx0:l[d]? =some w) (R:Ret)
  (go: ¬(∃y∈t.links.take i,w∈y.ends)→ ∀(T:List (Nat×AV)) (H:ax) (c:Nat),Ev G ⟨BT,⟨(66,.int .i64 0)::(65,.int .i64 (d:Int))::(5,.sl 2 (l.map LEnd.enc))::(2,.ref 66 1 0)::(1,.int .i64 (i:Int))::(20,.int .i64 ln0)::(21,.int .i64 (d:Int))::(6,.int .i64 (d:Int))::T,(66,some (1,.cells t.enc))::H,c⟩,[.t 4],0⟩ R)
  (hR:(∃y∈t.links.take i,w∈y.ends)→R=⟨.int .i64 7,[]⟩) (hel: ∀y∈t.links,y.ends.length<2^40): ∀(f k:Nat) (T:List (Nat×AV)) (H:ax) (c:Nat) (hk:k+f=i) (hP: ¬(∃y∈t.links.take k,w∈y.ends)),
  Ev G ⟨BU,⟨(36,.int .i64 (k:Int))::(35,.int .i64 (i:Int))::(5,.sl 2 (l.map LEnd.enc))::(2,.ref 66 1 0)::(1,.int .i64 (i:Int))::(20,.int .i64 ln0)::(21,.int .i64 (d:Int))::(6,.int .i64 (d:Int))::T,(66,some (1,.cells t.enc))::H,c⟩,[.t 4],0⟩ R
 |0,k,T,H,c,hk,hP=>by
  obtain rfl:k=i:=by omega
  refine evl ?_
  repeat' (first|refine ae ?_|(refine aa ?_ ?_<;>intro h))
  refine ah [66,65,5,2,1,20,21,6] [66] ?_
  exact go hP _ _ _
 |f+1,k,T,H,c,hk,hP=>by
  have hkl:k<t.links.length:=by omega
  obtain ⟨y,hy⟩: ∃y,t.links[k]? =some y:=⟨t.links[k],List.getElem?_eq_getElem hkl⟩
  have ht:t.links.take (k+1)=t.links.take k++[y]:=by rw[List.take_add_one,hy];rfl
  have hsub: ∀z,z∈t.links.take (k+1)→z∈t.links.take i:=fun z hz=>List.mem_of_mem_take (i:=k+1) (by rw[List.take_take,Nat.min_eq_left (by omega)];exact hz)
  have hy1:(t.links.map Lnk.enc)[((k:Nat):Int).toNat]? =some y.enc:=by simp[hy]
  have hy2:(t.links.map Lnk.enc).length=t.links.length:=by simp
  have hy3:(y.ends.map LEnd.enc).length=y.ends.length:=by simp
  refine evl ?_
  repeat' (first|refine ae ?_|(refine aa ?_ ?_<;>intro h))
  refine ah [44,45,46,36,35,9,5,2,1,20,21,6] [66] ?_
  rw[hy3]
  exact Zc y.ends t htl l hl0 i hi ln0 d w hd0 hx0 R k (by omega) y hy rfl (fun h T H c=>en19 t htl l hl0 i hi ln0 d w hd0 hx0 R go hR hel f (k+1) T H c (by omega) (by
   rw[ht];rintro ⟨z,hz,hw⟩
   rcases List.mem_append.1 hz with hz|hz
   ·exact hP ⟨z,hz,hw⟩
   ·simp only[List.mem_singleton] at hz;subst hz;exact h hw)) (fun h=>hR ⟨y,hsub y (by rw[ht];simp),h⟩) (hel y (List.mem_of_getElem? hy)) _ rfl y.ends [] _ _ _ 0 rfl rfl (by simp)
theorem en35 (l:List LEnd) (t:Topo) (hrl:t.routers.length<2^40) (hif: ∀c∈t.routers,c.ls.ifs.length<2^40) (htl:t.links.length<2^40) (hel: ∀y∈t.links,y.ends.length<2^40) (i:Nat) (hi:i<t.links.length) (hl:l.length<2^40) (ln:Int) (hln:ln=l.length): ∀(rest done:List LEnd)  (T:List (Nat×AV)) (H:ax) (c:Nat) (n:Int) (e:l=done++rest) (hn:n=done.length),Ev G ⟨BQ,⟨(5,.sl 2 (l.map LEnd.enc))::(20,.int .i64 ln)::(21,.int .i64 n)::(2,.ref 66 1 0)::(1,.int .i64 (i:Int))::T,(66,some (1,.cells t.enc))::H,c⟩,[.t 4],0⟩ (⟨.int .i64 (jv t (t.links.take i) done rest),[]⟩)
 | [],done,  T,H,c,n,e,hn=>by
  have hd:l.length=done.length:=by simp[e]
  have hll:(l.map LEnd.enc).length=l.length:=by simp
  refine evl ?_
  repeat' (first|refine ae ?_|(refine aa ?_ ?_<;>intro h))
  refine ag ?_;rfl
 |x::r,done,  T,H,c,n,e,hn=>by
  have hd:l.length=done.length+(r.length+1):=by simp[e]
  have hll:(l.map LEnd.enc).length=l.length:=by simp
  have hx:(l.map LEnd.enc)[n.toNat]? =some (LEnd.enc x):=by simp[e,hn]
  have h1:=pb t x hrl hif
  have hg:l[done.length]? =some x:=by simp[e]
  have ht:l.take done.length=done:=by simp[e]
  rw[hn]
  rw[hn] at hx
  rcases ho:dA t x with _|f
  ·rw[ho] at h1
   rw[jv,if_pos ho]
   simp only[pc] at h1
   refine evl ?_
   repeat' (first|refine ae ?_|(refine aa ?_ ?_<;>intro h))
   refine ag ?_;rfl
  ·rw[ho] at h1
   simp only[pc] at h1
   rw[jv,if_neg (by simp[ho])]
   refine evl ?_
   repeat' (first|refine ae ?_|(refine aa ?_ ?_<;>intro h))
   refine ah [36,35,5,2,1,20,21,6] [66] ?_
   refine en19 t htl l hl i hi ln done.length x (by omega) hg _ (fun g1 T H c=>?_) (fun g1=>by rw[if_pos g1]) hel i 0 _ _ _ (by omega) (by simp)
   refine Y9 t l hl i (by omega) ln done.length x (by omega) hg _ (fun g2 T H c=>?_) (fun g2=>by rw[if_neg g1,if_pos (by rw[←ht];exact g2)]) done.length 0 _ _ _ (by omega) (by simp)
   refine en33 t l hl i (by omega) ln done.length x (by omega) hg _ (fun g3 T H c=>?_) (fun g3=>by rw[if_neg g1,if_neg (by rw[←ht];exact g2),if_pos (by rw[←ht];exact g3)]) done.length 0 _ _ _ (by omega) (by simp)
   rw[ht] at g2 g3
   rw[if_neg g1,if_neg g2,if_neg g3]
   refine ah [5,20,21,2,1] [66] ?_
   exact en35 l t hrl hif htl hel i hi hl ln hln r (done++[x]) _ _ _ (done.length+1) (by simp[e]) (by simp)
theorem DJ (t:Topo) (hrl:t.routers.length<2^40) (hif: ∀c∈t.routers,c.ls.ifs.length<2^40) (htl:t.links.length<2^40) (hel: ∀y∈t.links,y.ends.length<2^40) (i:Nat) (y:Lnk) (hy:t.links[i]? =some y):aq G 447 [.agg t.enc,.int .i64 (i:Int)] [] ⟨.int .i64 (jv t (t.links.take i) [] y.ends),[]⟩:=by
 have hi:i<t.links.length:=(List.getElem?_eq_some_iff.1 hy).1
 have hy1:(t.links.map Lnk.enc)[((i:Nat):Int).toNat]? =some y.enc:=by simp[hy]
 have hy2:(t.links.map Lnk.enc).length=t.links.length:=by simp
 have hy3:(y.ends.map LEnd.enc).length=y.ends.length:=by simp
 refine ab (F:=Yv) rfl rfl (am 300 _ _ _ _ ?_)
 repeat' (first|refine ae ?_|(refine aa ?_ ?_<;>intro h))
 refine ah [5,20,21,2,1] [66] ?_
 rw[hy3]
 exact en35 y.ends t hrl hif htl hel i hi (hel y (List.mem_of_getElem? hy)) _ rfl y.ends [] _ _ _ 0 rfl rfl
end Go.AM.IR
namespace Go.AM.IR
def bG (t:Topo) (e:LEnd):Ifc:=(dA t e).getD ifcZ
theorem j7 (t:Topo) (e:LEnd) (ht:t.routers.length<2^40) (hf: ∀c∈t.routers,c.ls.ifs.length<2^40):aq G 429 [.agg t.enc,.agg e.enc] [] ⟨.tup [.agg (bG t e).enc,.bool (dA t e).isSome],[]⟩:=by
 have h:=pb t e ht hf
 unfold bG
 cases ho:dA t e<;>rw[ho] at h<;>exact h
def ob (t:Topo) (a:Ifc):List LEnd→Int
 | []=>0
 |x::r=>if a.kind≠(bG t x).kind then 14 else if¬(a.pfx.addr=(bG t x).pfx.addr∧a.pfx.len=(bG t x).pfx.len) then 14 else if a.area≠(bG t x).area then 14 else if a.hello≠(bG t x).hello then 14 else if a.dead≠(bG t x).dead then 14 else ob t a r
def j4 (t:Topo) (y:Lnk) (a:Ifc):List LEnd→Int
 | []=>ob t a y.ends
 |x::r=>if (bG t x).kind≠2∧2<y.ends.length then 15 else j4 t y a r
def lr (t:Topo) (i:Nat) (y:Lnk):Int:=
 if y.ends.length<2 then 1 else if y.delay<1 then 5 else if 60<y.delay then 5 else if jv t (t.links.take i) [] y.ends≠0 then jv t (t.links.take i) [] y.ends else
 match y.ends with
 | []=>0
 |x::_=>j4 t y (bG t x) y.ends
theorem lk25 (l:List LEnd) (t:Topo) (hrl:t.routers.length<2^40) (hif: ∀c∈t.routers,c.ls.ifs.length<2^40) (y:Lnk) (hy:y.ends=l) (a:Ifc) (g5 g7:Nat) (hl:l.length<2^40) (ln:Int) (hln:ln=l.length): ∀(rest done:List LEnd)  (T:List (Nat×AV)) (H:ax) (c:Nat) (n:Int) (e:l=done++rest) (hn:n=done.length),Ev G ⟨Tz,⟨(74,.sl 2 (l.map LEnd.enc))::(75,.int .i64 ln)::(76,.int .i64 n)::(5,.ref 69 g5 0)::(2,.ref 66 1 0)::(7,.ref 71 g7 0)::T,(66,some (1,.cells t.enc))::(69,some (g5,.cells y.enc))::(71,some (g7,.cells a.enc))::H,c⟩,[.t 4],0⟩ (⟨.int .i64 (ob t a rest),[]⟩)
 | [],done,  T,H,c,n,e,hn=>by
  have hd:l.length=done.length:=by simp[e]
  have hll:(l.map LEnd.enc).length=l.length:=by simp
  refine evl ?_
  repeat' (first|refine ae ?_|(refine aa ?_ ?_<;>intro h))
  refine ag ?_;rfl
 |x::r,done,  T,H,c,n,e,hn=>by
  have hd:l.length=done.length+(r.length+1):=by simp[e]
  have hll:(l.map LEnd.enc).length=l.length:=by simp
  have hx:(l.map LEnd.enc)[n.toNat]? =some (LEnd.enc x):=by simp[e,hn]
  have h1:=j7 t x hrl hif
  have hz1:(y.ends.map LEnd.enc)[n.toNat]? =some x.enc:=by rw[hy];exact hx
  have hz2:(y.ends.map LEnd.enc).length=l.length:=by simp[hy]
  rw[ob]
  generalize bG t x=b at*
  generalize (dA t x).isSome=s at*
  by_cases c1:a.kind=b.kind
  ·by_cases c2:a.pfx.addr=b.pfx.addr
   ·by_cases c3:a.pfx.len=b.pfx.len
    ·by_cases c4:a.area=b.area
     ·by_cases c5:a.hello=b.hello
      ·by_cases c6:a.dead=b.dead
       ·rw[if_neg (by simp[c1]),if_neg (by simp[c2,c3]),if_neg (by simp[c4]),if_neg (by simp[c5]),if_neg (by simp[c6])]
        refine evl ?_
        repeat' (first|refine ae ?_|(refine aa ?_ ?_<;>intro h))
        refine ah [74,75,76,5,2,7] [66,69,71] ?_;exact lk25 l t hrl hif y hy a g5 g7 hl ln hln r (done++[x])  _ _ _ (n+1) (by simp[e]) (by simp[hn]<;>omega)
       ·rw[if_neg (by simp[c1]),if_neg (by simp[c2,c3]),if_neg (by simp[c4]),if_neg (by simp[c5]),if_pos c6]
        refine evl ?_
        repeat' (first|refine ae ?_|(refine aa ?_ ?_<;>intro h))
        refine ag ?_;rfl
      ·rw[if_neg (by simp[c1]),if_neg (by simp[c2,c3]),if_neg (by simp[c4]),if_pos c5]
       refine evl ?_
       repeat' (first|refine ae ?_|(refine aa ?_ ?_<;>intro h))
       refine ag ?_;rfl
     ·rw[if_neg (by simp[c1]),if_neg (by simp[c2,c3]),if_pos c4]
      refine evl ?_
      repeat' (first|refine ae ?_|(refine aa ?_ ?_<;>intro h))
      refine ag ?_;rfl
    ·rw[if_neg (by simp[c1]),if_pos (by simp[c3])]
     refine evl ?_
     repeat' (first|refine ae ?_|(refine aa ?_ ?_<;>intro h))
     refine ag ?_;rfl
   ·rw[if_neg (by simp[c1]),if_pos (by simp[c2])]
    refine evl ?_
    repeat' (first|refine ae ?_|(refine aa ?_ ?_<;>intro h))
    refine ag ?_;rfl
  ·rw[if_pos c1]
   refine evl ?_
   repeat' (first|refine ae ?_|(refine aa ?_ ?_<;>intro h))
   refine ag ?_;rfl
theorem WC (l:List LEnd) (t:Topo) (hrl:t.routers.length<2^40) (hif: ∀c∈t.routers,c.ls.ifs.length<2^40) (y:Lnk) (hy:y.ends=l) (a:Ifc) (g5 g7:Nat) (hl:l.length<2^40) (ln:Int) (hln:ln=l.length): ∀(rest done:List LEnd)  (T:List (Nat×AV)) (H:ax) (c:Nat) (n:Int) (e:l=done++rest) (hn:n=done.length),Ev G ⟨TD,⟨(48,.sl 2 (l.map LEnd.enc))::(49,.int .i64 ln)::(50,.int .i64 n)::(5,.ref 69 g5 0)::(2,.ref 66 1 0)::(7,.ref 71 g7 0)::T,(66,some (1,.cells t.enc))::(69,some (g5,.cells y.enc))::(71,some (g7,.cells a.enc))::H,c⟩,[.t 4],0⟩ (⟨.int .i64 (j4 t y a rest),[]⟩)
 | [],done,  T,H,c,n,e,hn=>by
  have hd:l.length=done.length:=by simp[e]
  have hll:(l.map LEnd.enc).length=l.length:=by simp
  have hz2:(y.ends.map LEnd.enc).length=l.length:=by simp[hy]
  have hy':y.ends.map LEnd.enc=l.map LEnd.enc:=by rw[hy]
  rw[j4,hy]
  refine evl ?_
  repeat' (first|refine ae ?_|(refine aa ?_ ?_<;>intro h))
  refine ah [74,75,76,5,2,7] [66,69,71] ?_
  rw[hy']
  exact lk25 l t hrl hif y hy a g5 g7 hl _ (by simp) l [] _ _ _ 0 rfl rfl
 |x::r,done,  T,H,c,n,e,hn=>by
  have hd:l.length=done.length+(r.length+1):=by simp[e]
  have hll:(l.map LEnd.enc).length=l.length:=by simp
  have hx:(l.map LEnd.enc)[n.toNat]? =some (LEnd.enc x):=by simp[e,hn]
  have h1:=j7 t x hrl hif
  have hz1:(y.ends.map LEnd.enc)[n.toNat]? =some x.enc:=by rw[hy];exact hx
  have hz2:(y.ends.map LEnd.enc).length=l.length:=by simp[hy]
  have hz3:y.ends.length=l.length:=by simp[hy]
  rw[j4]
  generalize bG t x=b at*
  generalize (dA t x).isSome=s at*
  by_cases c1:b.kind=2
  ·rw[if_neg (by simp[c1])]
   refine evl ?_
   repeat' (first|refine ae ?_|(refine aa ?_ ?_<;>intro h))
   refine ah [48,49,50,5,2,7] [66,69,71] ?_;exact WC l t hrl hif y hy a g5 g7 hl ln hln r (done++[x])  _ _ _ (n+1) (by simp[e]) (by simp[hn]<;>omega)
  ·by_cases c2:2<y.ends.length
   ·rw[if_pos ⟨c1,c2⟩]
    refine evl ?_
    repeat' (first|refine ae ?_|(refine aa ?_ ?_<;>intro h))
    refine ag ?_;rfl
   ·rw[if_neg (fun h=>c2 h.2)]
    refine evl ?_
    repeat' (first|refine ae ?_|(refine aa ?_ ?_<;>intro h))
    refine ah [48,49,50,5,2,7] [66,69,71] ?_;exact WC l t hrl hif y hy a g5 g7 hl ln hln r (done++[x])  _ _ _ (n+1) (by simp[e]) (by simp[hn]<;>omega)
theorem Dy (t:Topo) (hrl:t.routers.length<2^40) (hif: ∀c∈t.routers,c.ls.ifs.length<2^40) (htl:t.links.length<2^40) (hel: ∀y∈t.links,y.ends.length<2^40) (i:Nat) (y:Lnk) (hy:t.links[i]? =some y):aq G 401 [.agg t.enc,.int .i64 (i:Int)] [] ⟨.int .i64 (lr t i y),[]⟩:=by
 have hi:i<t.links.length:=(List.getElem?_eq_some_iff.1 hy).1
 have hy1:(t.links.map Lnk.enc)[((i:Nat):Int).toNat]? =some y.enc:=by simp[hy]
 have hy2:(t.links.map Lnk.enc).length=t.links.length:=by simp
 have hy3:(y.ends.map LEnd.enc).length=y.ends.length:=by simp
 have h0:=DJ t hrl hif htl hel i y hy
 have hye:=hel y (List.mem_of_getElem? hy)
 rw[lr]
 generalize hE:jv t (t.links.take i) [] y.ends=E at*
 by_cases c1:y.ends.length<2
 ·rw[if_pos c1]
  exact gvA (F:=vl)
 rw[if_neg c1]
 by_cases c2:y.delay<1
 ·rw[if_pos c2]
  exact gvA (F:=vl)
 rw[if_neg c2]
 by_cases c3:60<y.delay
 ·rw[if_pos c3]
  exact gvA (F:=vl)
 rw[if_neg c3]
 by_cases c4:E=0
 ·rw[if_neg (by simp[c4])]
  rcases hq:y.ends with _|⟨x,q⟩
  ·rw[hq] at c1;simp at c1
  ·have h1:=j7 t x hrl hif
   have hx0:(y.ends.map LEnd.enc)[(0:Int).toNat]? =some x.enc:=by rw[hq];rfl
   show aq G 401 [.agg t.enc,.int .i64 (i:Int)] [] ⟨.int .i64 (j4 t y (bG t x) (x::q)),[]⟩
   rw[←hq]
   subst c4
   refine ab (F:=vl) rfl rfl (am 300 _ _ _ _ ?_)
   repeat' (first|refine ae ?_|(refine aa ?_ ?_<;>intro h))
   refine ah [48,49,50,5,2,7] [66,69,71] ?_
   rw[hy3]
   exact WC y.ends t hrl hif y rfl (bG t x) _ _ hye _ rfl y.ends [] _ _ _ 0 rfl rfl
 ·rw[if_pos c4]
  exact gvA (F:=vl)
end Go.AM.IR
namespace Go.AM.IR
structure Sess where
 a:Int
 b:Int
 x:Int
 y:Int
 z:Bool
def Sess.enc (s:Sess):List AV:=[.int .i64 s.a,.int .i64 s.b,.int .i64 s.x,.int .i64 s.y,.bool s.z]
def yj (l:List Sess) (r p:Int):Bool:=l.any fun s=>(decide (s.a=r)&&decide (s.x=p))||(decide (s.b=r)&&decide (s.y=p))
end Go.AM.IR
namespace Go.AM.IR
@[simp] theorem Sj: ∀l:List Sess,aG (l.map Sess.enc)=true
 | []=>rfl
 |x::r=>by simp only[List.map_cons,aG,Sj r];simp[Sess.enc,aW,AV.pure]
end Go.AM.IR
namespace Go.AM.IR
end Go.AM.IR
namespace Go.AM.IR
end Go.AM.IR
namespace Go.AM.IR
end Go.AM.IR
namespace Go.AM.IR
def dp (r p:Int):AV:=.agg [.int .i64 r,.int .i64 p]
theorem jM (ks:List LK) (h: ∀a b c d:Int,eqL ks [.int .i64 a,.int .i64 b] [.int .i64 c,.int .i64 d]=some (decide (a=c∧b=d))) (a b c d:Int):eqK true ks (dp a b) (dp c d)=some (decide (a=c∧b=d)):=h a b c d
def gZ (es:List (AV×AV)):Prop:= ∀e∈es,∃r p:Int,e.1=dp r p
section
variable {ks:List LK} (h: ∀a b c d:Int,eqL ks [.int .i64 a,.int .i64 b] [.int .i64 c,.int .i64 d]=some (decide (a=c∧b=d)))
include h
theorem uw (r p:Int): ∀es,gZ es→jf true ks (dp r p) es=true
 | [],_=>by rw[jf,jM ks h];rfl
 |e::es,he=>by
  obtain ⟨u,v,q⟩:=he e (by simp)
  rw[jf,q,jM ks h,uw r p es (fun x hx=>he x (by simp[hx]))];rfl
theorem kJ (r p u v:Int): ∀es,gZ es→cp true ks (.bool false) (dp r p) (df true ks (dp u v) (.bool true) es)=if r=u∧p=v then .bool true else cp true ks (.bool false) (dp r p) es
 | [],_=>by
  show (bif eqK true ks (dp r p) (dp u v)==some true then AV.bool true else AV.bool false)=_
  rw[jM ks h]
  by_cases w:r=u∧p=v
  ·rw[decide_eq_true w,if_pos w];rfl
  ·rw[decide_eq_false w,if_neg w];rfl
 |e::es,he=>by
  obtain ⟨a,b,q⟩:=he e (by simp)
  have ih:=kJ r p u v es (fun x hx=>he x (by simp[hx]))
  rw[df,q,jM ks h]
  by_cases x:u=a∧v=b
  ·rw[decide_eq_true x]
   show cp true ks (.bool false) (dp r p) ((dp u v,.bool true)::es)=_
   show (bif eqK true ks (dp r p) (dp u v)==some true then AV.bool true else cp true ks (.bool false) (dp r p) es)=_
   rw[cp,q,jM ks h,jM ks h]
   by_cases w:r=u∧p=v
   ·rw[decide_eq_true w,if_pos w];rfl
   ·rw[decide_eq_false w,if_neg w,decide_eq_false (by rw[←x.1,←x.2];exact w)];rfl
  ·rw[decide_eq_false x]
   show cp true ks (.bool false) (dp r p) (e::df true ks (dp u v) (.bool true) es)=_
   rw[cp,cp,q,jM ks h,ih]
   by_cases w:r=u∧p=v
   ·rw[if_pos w,if_pos w,decide_eq_false (by rw[w.1,w.2];exact x)];rfl
   ·rw[if_neg w,if_neg w]
theorem jI (u v:Int): ∀es,gZ es→gZ (df true ks (dp u v) (.bool true) es)
 | [],_=>by intro e he;simp only[df,List.mem_singleton] at he;exact ⟨u,v,by rw[he]⟩
 |e::es,he=>by
  obtain ⟨a,b,q⟩:=he e (by simp)
  have ih:=jI u v es (fun x hx=>he x (by simp[hx]))
  rw[df,q,jM ks h]
  by_cases x:u=a∧v=b
  ·rw[decide_eq_true x]
   intro y hy
   rcases List.mem_cons.1 hy with w|w
   ·exact ⟨u,v,by rw[w]⟩
   ·exact he y (by simp[w])
  ·rw[decide_eq_false x]
   intro y hy
   rcases List.mem_cons.1 hy with w|w
   ·exact he y (by simp[w])
   ·exact ih y w
end
end Go.AM.IR
namespace Go.AM.IR
theorem e8 (a b c d:Int):eqL [.int,.int] [.int .i64 a,.int .i64 b] [.int .i64 c,.int .i64 d]=some (decide (a=c∧b=d)):=by
 show some ((a==c)&&((b==d)&&true))=_
 by_cases x:a=c<;>by_cases y:b=d<;>simp[x,y]
theorem Vo (o:List Sess) (s:Sess) (u v:Int):yj (o++[s]) u v=(yj o u v||((decide (s.a=u)&&decide (s.x=v))||(decide (s.b=u)&&decide (s.y=v)))):=by simp[yj,List.any_append]
structure EndsOf (es:List (AV×AV)) (o:List Sess):Prop where
 e:gZ es
 m: ∀u v:Int,cp true [.int,.int] (.bool false) (dp u v) es= .bool (yj o u v)
theorem EndsOf.put {es:List (AV×AV)} {o:List Sess} (h:EndsOf es o) (i j k n:Int):EndsOf (df true [.int,.int] (dp j n) (.bool true) (df true [.int,.int] (dp i k) (.bool true) es)) (o++[⟨i,j,k,n,false⟩]):=by
 refine ⟨jI e8 j n _ (jI e8 i k _ h.e),fun u v=>?_⟩
 rw[kJ e8 u v j n _ (jI e8 i k _ h.e),kJ e8 u v i k _ h.e,h.m u v,Vo]
 by_cases x:u=j∧v=n
 ·rw[if_pos x,decide_eq_true x.1.symm,decide_eq_true x.2.symm];simp
 ·rw[if_neg x]
  by_cases y:u=i∧v=k
  ·rw[if_pos y,decide_eq_true y.1.symm,decide_eq_true y.2.symm];simp
  ·rw[if_neg y]
   have x':(decide (j=u)&&decide (n=v))=false:=by
    simp only[Bool.and_eq_false_iff,decide_eq_false_iff_not]
    rcases Decidable.em (j=u) with h1|h1
    ·right;intro h2;exact x ⟨h1.symm,h2.symm⟩
    ·exact .inl h1
   have y':(decide (i=u)&&decide (k=v))=false:=by
    simp only[Bool.and_eq_false_iff,decide_eq_false_iff_not]
    rcases Decidable.em (i=u) with h1|h1
    ·right;intro h2;exact y ⟨h1.symm,h2.symm⟩
    ·exact .inl h1
   simp only[x',y',Bool.or_false]
end Go.AM.IR
namespace Go.AM.IR
def isT:AV→Bool
 | .bool b=>b
 |_=>false
def ceM (t:Topo):List (AV×AV)→List LEnd→List LEnd→Int×List (AV×AV)
 |es,_,[]=>(0,es)
 |es,d,x::r=>if (dA t x).isSome=false then (5,es) else if isT (cp true [.int,.int] (.bool false) (dp x.router x.ifc) es)=true then (7,es) else if d.any (fun y=>decide (y.router=x.router))=true then (1,es) else ceM t (df true [.int,.int] (dp x.router x.ifc) (.bool true) es) (d++[x]) r
def ceR (p:Int×List (AV×AV)):Ret:=⟨.int .i64 p.1,[(true,.mp p.2)]⟩
theorem CQ (t:Topo) (y:Lnk) (x:LEnd) (l:List LEnd) (hl:l.length<2^40) (es:List (AV×AV)) (hE:gZ es) (g8:Nat) (d:Int) (hd0:0≤d) (hd1:d<2^40) (ln:Int) (R:Ret)
  (go: ¬l.any (fun y=>decide (y.router=x.router))=true→ ∀(T:List (Nat×AV)) (H:ax) (c:Nat),Ev G ⟨BX,⟨(16,.int .i64 (d+1))::(2,.mp 0 0)::(4,.ref 68 2 0)::(3,.ref 67 1 0)::(14,.sl 2 (y.ends.map LEnd.enc))::(15,.int .i64 ln)::T,(0,some (0,.mp (df true [.int,.int] (dp x.router x.ifc) (.bool true) es)))::(68,some (2,.cells y.enc))::(67,some (1,.cells t.enc))::H,c⟩,[.t 6],1⟩ R)
  (hR:l.any (fun y=>decide (y.router=x.router))=true→R=ceR (1,es)): ∀(rest done:List LEnd) (T:List (Nat×AV)) (H:ax) (c:Nat) (n:Int) (e:l=done++rest) (hn:n=done.length) (hP:done.any (fun y=>decide (y.router=x.router))=false),
  Ev G ⟨Tl,⟨(37,.int .i64 n)::(8,.ref 72 g8 0)::(35,.sl 2 (l.map LEnd.enc))::(2,.mp 0 0)::(4,.ref 68 2 0)::(3,.ref 67 1 0)::(14,.sl 2 (y.ends.map LEnd.enc))::(15,.int .i64 ln)::(16,.int .i64 d)::(36,.int .i64 l.length)::T,(72,some (g8,.cells x.enc))::(0,some (0,.mp es))::(68,some (2,.cells y.enc))::(67,some (1,.cells t.enc))::H,c⟩,[.t 6],1⟩ R
 | [],done,T,H,c,n,e,hn,hP=>by
  obtain rfl:done=l:=by simp[e]
  have k1:=uw e8 x.router x.ifc es hE
  refine evl ?_
  repeat' (first|refine ae ?_|(refine aa ?_ ?_<;>intro h))
  refine ah [16,2,4,3,14,15] [0,68,67] ?_
  exact go (by rw[hP];simp) _ _ _
 |z::r,done,T,H,c,n,e,hn,hP=>by
  have hd:l.length=done.length+(r.length+1):=by simp[e]
  have m1:(l.map LEnd.enc).length=l.length:=by simp
  have hx:(l.map LEnd.enc)[n.toNat]? =some z.enc:=by simp[e,hn]
  by_cases h:z.router=x.router
  ·rw[hR (by rw[e];simp[h]),ceR]
   refine evl ?_
   repeat' ((conv=>whnf);first|refine bp h ?_|refine ay ?_|(refine aa ?_ ?_<;>intro h))
   (conv=>whnf);first|refine bg [(0,_,_)] [] [true] ?_|refine bh [(0,_,_)] [] [true] ?_
   rfl
  ·refine evl ?_
   repeat' ((conv=>whnf);first|refine aY h ?_|refine ay ?_|(refine aa ?_ ?_<;>intro h))
   refine ah [37,8,35,2,4,3,14,15,16,36] [72,0,68,67] ?_
   exact CQ t y x l hl es hE g8 d hd0 hd1 ln R go hR r (done++[z]) _ _ _ (n+1) (by simp[e]) (by simp[hn]) (by simp[hP,h])
theorem nU (t:Topo) (e:LEnd) (ht:t.routers.length<2^40) (hf: ∀c∈t.routers,c.ls.ifs.length<2^40):aq G 426 [.agg t.enc,.agg e.enc] [] ⟨.tup [.agg (bG t e).enc,.bool (dA t e).isSome],[]⟩:=by
 have h:=yY t e ht hf
 unfold bG
 cases ho:dA t e<;>rw[ho] at h<;>exact h
theorem CP (t:Topo) (ht:t.routers.length<2^40) (hf: ∀c∈t.routers,c.ls.ifs.length<2^40) (y:Lnk) (hl:y.ends.length<2^40): ∀(rest done:List LEnd) (es:List (AV×AV)) (hE:gZ es) (hB: ∀u v,∃b:Bool,cp true [.int,.int] (.bool false) (dp u v) es= .bool b) (T:List (Nat×AV)) (H:ax) (c:Nat) (n:Int) (e:y.ends=done++rest) (hn:n=done.length),
  Ev G ⟨BX,⟨(16,.int .i64 n)::(2,.mp 0 0)::(4,.ref 68 2 0)::(3,.ref 67 1 0)::(14,.sl 2 (y.ends.map LEnd.enc))::(15,.int .i64 y.ends.length)::T,(0,some (0,.mp es))::(68,some (2,.cells y.enc))::(67,some (1,.cells t.enc))::H,c⟩,[.t 6],1⟩ (ceR (ceM t es done rest))
 | [],done,es,hE,hB,T,H,c,n,e,hn=>by
  have hd:y.ends.length=done.length:=by simp[e]
  rw[ceM,ceR]
  refine evl ?_
  repeat' (first|refine ae ?_|(refine aa ?_ ?_<;>intro h))
  (conv=>whnf);first|refine bg [(0,_,_)] [] [true] ?_|refine bh [(0,_,_)] [] [true] ?_
  rfl
 |x::r,done,es,hE,hB,T,H,c,n,e,hn=>by
  have hd:y.ends.length=done.length+(r.length+1):=by simp[e]
  have m1:(y.ends.map LEnd.enc).length=y.ends.length:=by simp
  have hx:(y.ends.map LEnd.enc)[n.toNat]? =some x.enc:=by simp[e,hn]
  have h1:=nU t x ht hf
  have k1:=uw e8 x.router x.ifc es hE
  obtain ⟨b,v1⟩:=hB x.router x.ifc
  have hE2:=jI e8 x.router x.ifc es hE
  have hB2: ∀u v,∃b:Bool,cp true [.int,.int] (.bool false) (dp u v) (df true [.int,.int] (dp x.router x.ifc) (.bool true) es)= .bool b:=fun u v=>by
   rw[kJ e8 u v x.router x.ifc es hE]
   split
   ·exact ⟨true,rfl⟩
   ·exact hB u v
  have ih:=fun T H c=>CP t ht hf y hl r (done++[x]) _ hE2 hB2 T H c (n+1) (by simp[e]) (by simp[hn])
  rw[ceM]
  generalize bG t x=D at*
  cases ho:(dA t x).isSome with
  |false=>
   rw[ho] at h1
   rw[if_pos rfl,ceR]
   refine evl ?_
   repeat' (first|refine ae ?_|(refine aa ?_ ?_<;>intro h))
   (conv=>whnf);first|refine bg [(0,_,_)] [] [true] ?_|refine bh [(0,_,_)] [] [true] ?_
   rfl
  |true=>
  rw[ho] at h1
  rw[if_neg (by decide),show isT (cp true [.int,.int] (.bool false) (dp x.router x.ifc) es)=b from by rw[v1];rfl]
  cases b with
  |true=>
   rw[if_pos rfl,ceR]
   refine evl ?_
   repeat' (first|refine ae ?_|(refine aa ?_ ?_<;>intro h))
   dsimp only
   erw[v1]
   repeat' (first|refine ae ?_|(refine aa ?_ ?_<;>intro h))
   (conv=>whnf);first|refine bg [(0,_,_)] [] [true] ?_|refine bh [(0,_,_)] [] [true] ?_
   rfl
  |false=>
  rw[if_neg (by decide)]
  refine evl ?_
  repeat' (first|refine ae ?_|(refine aa ?_ ?_<;>intro h))
  dsimp only
  erw[v1]
  repeat' (first|refine ae ?_|(refine aa ?_ ?_<;>intro h))
  refine ah [37,8,35,2,4,3,14,15,16,36] [72,0,68,67] ?_
  rw[show List.take (n.toNat-0) (List.drop 0 (List.map LEnd.enc y.ends))=List.map LEnd.enc done from by simp[e,hn],List.length_map]
  refine CQ t y x done (by omega) es hE _ n (by omega) (by omega) _ _ (fun hn' T H c=>?_) (fun hp=>?_) done [] _ _ _ 0 rfl rfl rfl
  ·rw[if_neg hn']
   exact ih T H c
  ·rw[if_pos hp]
end Go.AM.IR
namespace Go.AM.IR
theorem Ni (t:Topo) (ht:t.routers.length<2^40) (hf: ∀c∈t.routers,c.ls.ifs.length<2^40) (y:Lnk) (hl:y.ends.length<2^40) (es:List (AV×AV)) (hE:gZ es) (hB: ∀u v,∃b:Bool,cp true [.int,.int] (.bool false) (dp u v) es= .bool b):aq G 441 [.agg t.enc,.agg y.enc,.mp 0 0] [.mp es] (ceR (ceM t es [] y.ends)):=by
 have m1:(y.ends.map LEnd.enc).length=y.ends.length:=by simp
 refine ab (F:=Yy) rfl rfl (am 300 _ _ _ _ ?_)
 repeat' (first|refine ae ?_|(refine aa ?_ ?_<;>intro h))
 refine ah [16,2,4,3,14,15] [0,68,67] ?_
 rw[m1]
 exact CP t ht hf y hl y.ends [] es hE hB _ _ _ 0 rfl rfl
def vI (a b:Ifc):Bool:=if b.kind=a.kind then if b.pfx.addr=a.pfx.addr then if b.pfx.len=a.pfx.len then if b.area=a.area then if b.hello=a.hello then (b.dead !=a.dead) else true else true else true else true else true
def lkP (t:Topo) (y:Lnk) (a:Ifc):Bool→List LEnd→Int
 |w,[]=>if w=true then 14 else 0
 |w,x::r=>if (bG t x).kind=2 then lkP t y a (w||vI a (bG t x)) r else if 2<y.ends.length then 15 else lkP t y a (w||vI a (bG t x)) r
theorem Bu (t:Topo) (ht:t.routers.length<2^40) (hf: ∀c∈t.routers,c.ls.ifs.length<2^40) (y:Lnk) (hl:y.ends.length<2^40) (a:Ifc) (g8:Nat) (es:List (AV×AV)): ∀(rest done:List LEnd) (w:Bool) (T:List (Nat×AV)) (H:ax) (c:Nat) (n:Int) (e:y.ends=done++rest) (hn:n=done.length),
  Ev G ⟨TW,⟨(46,.int .i64 n)::(8,.ref 72 g8 0)::(10,.bool w)::(4,.ref 68 2 0)::(3,.ref 67 1 0)::(44,.sl 2 (y.ends.map LEnd.enc))::(45,.int .i64 y.ends.length)::T,(72,some (g8,.cells a.enc))::(68,some (2,.cells y.enc))::(67,some (1,.cells t.enc))::(0,some (0,.mp es))::H,c⟩,[.t 6],1⟩ (ceR (lkP t y a w rest,es))
 | [],done,w,T,H,c,n,e,hn=>by
  have hd:y.ends.length=done.length:=by simp[e]
  rw[lkP]
  cases w with
  |true=>
   rw[if_pos rfl,ceR]
   refine evl ?_
   repeat' (first|refine ae ?_|(refine aa ?_ ?_<;>intro h))
   (conv=>whnf);first|refine bg [(0,_,_)] [] [true] ?_|refine bh [(0,_,_)] [] [true] ?_
   rfl
  |false=>
   rw[if_neg (by decide),ceR]
   refine evl ?_
   repeat' (first|refine ae ?_|(refine aa ?_ ?_<;>intro h))
   (conv=>whnf);first|refine bg [(0,_,_)] [] [true] ?_|refine bh [(0,_,_)] [] [true] ?_
   rfl
 |x::r,done,w,T,H,c,n,e,hn=>by
  have hd:y.ends.length=done.length+(r.length+1):=by simp[e]
  have m1:(y.ends.map LEnd.enc).length=y.ends.length:=by simp
  have hx:(y.ends.map LEnd.enc)[n.toNat]? =some x.enc:=by simp[e,hn]
  have h1:=nU t x ht hf
  have ih:=fun w T H c=>Bu t ht hf y hl a g8 es r (done++[x]) w T H c (n+1) (by simp[e]) (by simp[hn])
  rw[lkP]
  generalize bG t x=b at*
  generalize (dA t x).isSome=s at*
  by_cases k2:b.kind=2
  ·rw[if_pos k2]
   cases w with
   |true=>
    rw[Bool.true_or]
    refine evl ?_
    repeat' ((conv=>whnf);first|refine bc k2 ?_|refine ay ?_|(refine aa ?_ ?_<;>intro h))
    refine ah [46,8,10,4,3,44,45] [72,68,67,0] ?_
    exact ih _ _ _ _
   |false=>
   rw[Bool.false_or,vI]
   by_cases c1: ¬b.kind=a.kind
   ·rw[if_neg c1]
    refine evl ?_
    repeat' ((conv=>whnf);first|refine bc k2 ?_|refine bj c1 ?_|refine ay ?_|(refine aa ?_ ?_<;>intro h))
    refine ah [46,8,10,4,3,44,45] [72,68,67,0] ?_
    exact ih _ _ _ _
   rw[Classical.not_not] at c1
   rw[if_pos c1]
   by_cases c2: ¬b.pfx.addr=a.pfx.addr
   ·rw[if_neg c2]
    refine evl ?_
    repeat' ((conv=>whnf);first|refine bc k2 ?_|refine bc c1 ?_|refine bj c2 ?_|refine ay ?_|(refine aa ?_ ?_<;>intro h))
    refine ah [46,8,10,4,3,44,45] [72,68,67,0] ?_
    exact ih _ _ _ _
   rw[Classical.not_not] at c2
   rw[if_pos c2]
   by_cases c3: ¬b.pfx.len=a.pfx.len
   ·rw[if_neg c3]
    refine evl ?_
    repeat' ((conv=>whnf);first|refine bc k2 ?_|refine bc c1 ?_|refine bc c2 ?_|refine bj c3 ?_|refine ay ?_|(refine aa ?_ ?_<;>intro h))
    refine ah [46,8,10,4,3,44,45] [72,68,67,0] ?_
    exact ih _ _ _ _
   rw[Classical.not_not] at c3
   rw[if_pos c3]
   by_cases c4: ¬b.area=a.area
   ·rw[if_neg c4]
    refine evl ?_
    repeat' ((conv=>whnf);first|refine bc k2 ?_|refine bc c1 ?_|refine bc c2 ?_|refine bc c3 ?_|refine bj c4 ?_|refine ay ?_|(refine aa ?_ ?_<;>intro h))
    refine ah [46,8,10,4,3,44,45] [72,68,67,0] ?_
    exact ih _ _ _ _
   rw[Classical.not_not] at c4
   rw[if_pos c4]
   by_cases c5: ¬b.hello=a.hello
   ·rw[if_neg c5]
    refine evl ?_
    repeat' ((conv=>whnf);first|refine bc k2 ?_|refine bc c1 ?_|refine bc c2 ?_|refine bc c3 ?_|refine bc c4 ?_|refine bj c5 ?_|refine ay ?_|(refine aa ?_ ?_<;>intro h))
    refine ah [46,8,10,4,3,44,45] [72,68,67,0] ?_
    exact ih _ _ _ _
   rw[Classical.not_not] at c5
   rw[if_pos c5]
   refine evl ?_
   repeat' ((conv=>whnf);first|refine bc k2 ?_|refine bc c1 ?_|refine bc c2 ?_|refine bc c3 ?_|refine bc c4 ?_|refine bc c5 ?_|refine ay ?_|(refine aa ?_ ?_<;>intro h))
   refine ah [46,8,10,4,3,44,45] [72,68,67,0] ?_
   exact ih _ _ _ _
  rw[if_neg k2]
  by_cases k3:2<y.ends.length
  ·rw[if_pos k3,ceR]
   have k4:(y.ends.length:Int)>2:=by omega
   refine evl ?_
   repeat' ((conv=>whnf);first|refine bj k2 ?_|refine ay ?_|(refine aa ?_ ?_<;>intro h))
   (conv=>whnf);first|refine bg [(0,_,_)] [] [true] ?_|refine bh [(0,_,_)] [] [true] ?_
   rfl
  rw[if_neg k3]
  have k4: ¬(y.ends.length:Int)>2:=by omega
  cases w with
  |true=>
   rw[Bool.true_or]
   refine evl ?_
   repeat' ((conv=>whnf);first|refine bj k2 ?_|refine ay ?_|(refine aa ?_ ?_<;>intro h))
   refine ah [46,8,10,4,3,44,45] [72,68,67,0] ?_
   exact ih _ _ _ _
  |false=>
  rw[Bool.false_or,vI]
  by_cases c1: ¬b.kind=a.kind
  ·rw[if_neg c1]
   refine evl ?_
   repeat' ((conv=>whnf);first|refine bj k2 ?_|refine bj c1 ?_|refine ay ?_|(refine aa ?_ ?_<;>intro h))
   refine ah [46,8,10,4,3,44,45] [72,68,67,0] ?_
   exact ih _ _ _ _
  rw[Classical.not_not] at c1
  rw[if_pos c1]
  by_cases c2: ¬b.pfx.addr=a.pfx.addr
  ·rw[if_neg c2]
   refine evl ?_
   repeat' ((conv=>whnf);first|refine bj k2 ?_|refine bc c1 ?_|refine bj c2 ?_|refine ay ?_|(refine aa ?_ ?_<;>intro h))
   refine ah [46,8,10,4,3,44,45] [72,68,67,0] ?_
   exact ih _ _ _ _
  rw[Classical.not_not] at c2
  rw[if_pos c2]
  by_cases c3: ¬b.pfx.len=a.pfx.len
  ·rw[if_neg c3]
   refine evl ?_
   repeat' ((conv=>whnf);first|refine bj k2 ?_|refine bc c1 ?_|refine bc c2 ?_|refine bj c3 ?_|refine ay ?_|(refine aa ?_ ?_<;>intro h))
   refine ah [46,8,10,4,3,44,45] [72,68,67,0] ?_
   exact ih _ _ _ _
  rw[Classical.not_not] at c3
  rw[if_pos c3]
  by_cases c4: ¬b.area=a.area
  ·rw[if_neg c4]
   refine evl ?_
   repeat' ((conv=>whnf);first|refine bj k2 ?_|refine bc c1 ?_|refine bc c2 ?_|refine bc c3 ?_|refine bj c4 ?_|refine ay ?_|(refine aa ?_ ?_<;>intro h))
   refine ah [46,8,10,4,3,44,45] [72,68,67,0] ?_
   exact ih _ _ _ _
  rw[Classical.not_not] at c4
  rw[if_pos c4]
  by_cases c5: ¬b.hello=a.hello
  ·rw[if_neg c5]
   refine evl ?_
   repeat' ((conv=>whnf);first|refine bj k2 ?_|refine bc c1 ?_|refine bc c2 ?_|refine bc c3 ?_|refine bc c4 ?_|refine bj c5 ?_|refine ay ?_|(refine aa ?_ ?_<;>intro h))
   refine ah [46,8,10,4,3,44,45] [72,68,67,0] ?_
   exact ih _ _ _ _
  rw[Classical.not_not] at c5
  rw[if_pos c5]
  refine evl ?_
  repeat' ((conv=>whnf);first|refine bj k2 ?_|refine bc c1 ?_|refine bc c2 ?_|refine bc c3 ?_|refine bc c4 ?_|refine bc c5 ?_|refine ay ?_|(refine aa ?_ ?_<;>intro h))
  refine ah [46,8,10,4,3,44,45] [72,68,67,0] ?_
  exact ih _ _ _ _
end Go.AM.IR
namespace Go.AM.IR
def lkR (t:Topo) (es:List (AV×AV)) (y:Lnk):Int×List (AV×AV):=
 if y.ends.length<2 then (1,es) else if y.delay<1 then (5,es) else if 60<y.delay then (5,es) else
 if (ceM t es [] y.ends).1=0 then (match y.ends with| []=>0|x::_=>lkP t y (bG t x) false y.ends,(ceM t es [] y.ends).2) else ceM t es [] y.ends
theorem MC (t:Topo) (ht:t.routers.length<2^40) (hf: ∀c∈t.routers,c.ls.ifs.length<2^40) (y:Lnk) (hl:y.ends.length<2^40) (es:List (AV×AV)) (hE:gZ es) (hB: ∀u v,∃b:Bool,cp true [.int,.int] (.bool false) (dp u v) es= .bool b):aq G 397 [.agg t.enc,.agg y.enc,.mp 0 0] [.mp es] (ceR (lkR t es y)):=by
 have m1:(y.ends.map LEnd.enc).length=y.ends.length:=by simp
 have h1:=Ni t ht hf y hl es hE hB
 rw[lkR]
 by_cases a1:y.ends.length<2
 ·rw[if_pos a1,ceR]
  have a1':(y.ends.length:Int)<2:=by omega
  refine ab (F:=vr) rfl rfl (am 300 _ _ _ _ ?_)
  repeat' (first|refine ae ?_|(refine aa ?_ ?_<;>intro h))
  (conv=>whnf);first|refine bg [(0,_,_)] [] [true] ?_|refine bh [(0,_,_)] [] [true] ?_
  rfl
 rw[if_neg a1]
 have a1': ¬(y.ends.length:Int)<2:=by omega
 by_cases a2:y.delay<1
 ·rw[if_pos a2,ceR]
  refine ab (F:=vr) rfl rfl (am 300 _ _ _ _ ?_)
  repeat' (first|refine ae ?_|(refine aa ?_ ?_<;>intro h))
  (conv=>whnf);first|refine bg [(0,_,_)] [] [true] ?_|refine bh [(0,_,_)] [] [true] ?_
  rfl
 rw[if_neg a2]
 by_cases a3:60<y.delay
 ·rw[if_pos a3,ceR]
  refine ab (F:=vr) rfl rfl (am 300 _ _ _ _ ?_)
  repeat' (first|refine ae ?_|(refine aa ?_ ?_<;>intro h))
  (conv=>whnf);first|refine bg [(0,_,_)] [] [true] ?_|refine bh [(0,_,_)] [] [true] ?_
  rfl
 rw[if_neg a3]
 generalize hM:ceM t es [] y.ends=p at*
 obtain ⟨E,es'⟩:=p
 have h1:aq G 441 [.agg t.enc,.agg y.enc,.mp 0 0] [.mp es] ⟨.int .i64 E,[(true,.mp es')]⟩:=h1
 by_cases e0:E=0
 ·subst e0
  rw[if_pos (show ((0:Int),es').1=0 from rfl)]
  obtain ⟨x,r,hx⟩: ∃x r,y.ends=x::r:=by
   cases hy:y.ends with
   |nil=>rw[hy] at a1;exact absurd (by simp) a1
   |cons x r=>exact ⟨x,r,rfl⟩
  have h2:=nU t x ht hf
  have hx0:(y.ends.map LEnd.enc)[(0:Int).toNat]? =some x.enc:=by simp[hx]
  rw[show (match y.ends with| []=>(0:Int)|x::_=>lkP t y (bG t x) false y.ends)=lkP t y (bG t x) false y.ends from by rw[hx]]
  have hk:=Bu t ht hf y hl (bG t x)
  generalize bG t x=a at*
  generalize (dA t x).isSome=s at*
  refine ab (F:=vr) rfl rfl (am 300 _ _ _ _ ?_)
  repeat' ((conv=>whnf);first|refine bc rfl ?_|refine ay ?_|refine kX [(0,_,_)] [] ⟨rfl,trivial⟩ trivial (h1) ?_|(refine aa ?_ ?_<;>intro h))
  refine ah [46,8,10,4,3,44,45] [72,68,67,0] ?_
  rw[m1]
  exact hk _ es' y.ends [] false _ _ _ 0 rfl rfl
 ·rw[if_neg (show¬(E,es').1=0 from e0),ceR]
  refine ab (F:=vr) rfl rfl (am 300 _ _ _ _ ?_)
  repeat' ((conv=>whnf);first|refine bj e0 ?_|refine ay ?_|refine kX [(0,_,_)] [] ⟨rfl,trivial⟩ trivial (h1) ?_|(refine aa ?_ ?_<;>intro h))
  (conv=>whnf);first|refine bg [(0,_,_)] [] [true] ?_|refine bh [(0,_,_)] [] [true] ?_
  rfl
end Go.AM.IR
