/- What the functions of this program give, on the abstract machine. -/
import Derived.Test.YtcmipbleijmpjaaGreatDoorDataN
import Derived.Test.YtcmipbleijmpjaaGreatDoorDataK
set_option linter.unusedVariables false
set_option linter.unusedSimpArgs false
set_option maxHeartbeats 4000000
set_option maxRecDepth 20000
namespace Go.AM.IR
@[simp] theorem FG: ∀(n:Nat) (l:List (List AV)),aG l=true→aG (l.take n)=true
 |0,l,_=>by simp[aG]
 |n+1,[],_=>by simp[aG]
 |n+1,x::r,h=>by
  simp only[aG,Bool.and_eq_true] at h
  simp only[List.take_succ_cons,aG,h.1,FG n r h.2,Bool.and_self]
@[simp] theorem FX: ∀(n:Nat) (l:List (List AV)),aG l=true→aG (l.drop n)=true
 |0,l,h=>h
 |n+1,[],_=>by simp[aG]
 |n+1,x::r,h=>by
  simp only[aG,Bool.and_eq_true] at h
  exact FX n r h.2
def PW (k:Kn) (t:Trm):Int:=if 64<t.mats.length then 4 else if bb (mtE k) t.mats=0 then tE3 t else bb (mtE k) t.mats
def rj (k:Kn) (before:List Trm) (t:Trm):Int:=if nmB t.name=false then 1 else if before.any (fun u=>u.name==t.name) then 7 else PW k t
theorem Nw (l:List Actn) (t:Trm) (g5:Nat) (hl:l.length<2^40) (ln:Int) (hln:ln=l.length): ∀(rest done:List Actn)  (T:List (Nat×AV)) (H:ax) (c:Nat) (n:Int) (e:l=done++rest) (hn:n=done.length),Ev G ⟨SN,⟨(54,.sl 5 (l.map Actn.enc))::(55,.int .i64 ln)::(56,.int .i64 n)::(5,.ref 69 g5 0)::T,(69,some (g5,.cells t.enc))::H,c⟩,[.t 6],0⟩ (⟨.int .i64 (if bb mg rest=0 then vdE t.verdict else bb mg rest),[]⟩)
 | [],done,  T,H,c,n,e,hn=>by
  have hd:l.length=done.length:=by simp[e]
  have hll:(l.map Actn.enc).length=l.length:=by simp
  have h1:=iC t.verdict 1 3
  rw[bb,if_pos rfl,vdE]
  generalize hq:(decide (1≤t.verdict)&&decide (t.verdict≤3))=B at*
  cases B
  ·simp only[Bool.and_eq_false_iff,decide_eq_false_iff_not] at hq
   rw[if_pos (by omega)]
   refine evl ?_
   repeat' (first|refine ae ?_|(refine aa ?_ ?_<;>intro h))
   refine ag ?_;rfl
  ·simp only[Bool.and_eq_true,decide_eq_true_eq] at hq
   rw[if_neg (by omega)]
   refine evl ?_
   repeat' (first|refine ae ?_|(refine aa ?_ ?_<;>intro h))
   refine ag ?_;rfl
 |x::r,done,  T,H,c,n,e,hn=>by
  have hd:l.length=done.length+(r.length+1):=by simp[e]
  have hll:(l.map Actn.enc).length=l.length:=by simp
  have hx:(l.map Actn.enc)[n.toNat]? =some (Actn.enc x):=by simp[e,hn]
  have h1:=Nt x
  rw[bb]
  generalize mg x=E at*
  by_cases h0:E=0
  ·subst h0
   rw[if_pos rfl]
   refine evl ?_
   repeat' (first|refine ae ?_|(refine aa ?_ ?_<;>intro h))
   refine ah [54,55,56,5] [69] ?_;exact Nw l t g5 hl ln hln r (done++[x])  _ _ _ (n+1) (by simp[e]) (by simp[hn]<;>omega)
  ·rw[if_neg h0,if_neg h0]
   refine evl ?_
   repeat' (first|refine ae ?_|(refine aa ?_ ?_<;>intro h))
   refine ag ?_;rfl
theorem Nv (l:List Mat) (k:Kn) (hf:k.fit) (t:Trm) (g3 g5:Nat) (hk: ∀m∈l,m.pfx.ok) (ha:t.acts.length<2^40) (hl:l.length<2^40) (ln:Int) (hln:ln=l.length): ∀(rest done:List Mat)  (T:List (Nat×AV)) (H:ax) (c:Nat) (n:Int) (e:l=done++rest) (hn:n=done.length),Ev G ⟨SO,⟨(36,.sl 6 (l.map Mat.enc))::(37,.int .i64 ln)::(38,.int .i64 n)::(3,.ref 67 g3 0)::(5,.ref 69 g5 0)::T,(67,some (g3,.cells k.enc))::(69,some (g5,.cells t.enc))::H,c⟩,[.t 6],0⟩ (⟨.int .i64 (if bb (mtE k) rest=0 then tE3 t else bb (mtE k) rest),[]⟩)
 | [],done,  T,H,c,n,e,hn=>by
  have hd:l.length=done.length:=by simp[e]
  have hll:(l.map Mat.enc).length=l.length:=by simp
  have m1:(t.acts.map Actn.enc).length=t.acts.length:=by simp
  rw[bb,if_pos rfl,tE3]
  by_cases c:64<t.acts.length
  ·rw[if_pos c]
   have c':(t.acts.length:Int)>64:=by omega
   refine evl ?_
   repeat' (first|refine ae ?_|(refine aa ?_ ?_<;>intro h))
   refine ag ?_;rfl
  ·rw[if_neg c]
   refine evl ?_
   repeat' (first|refine ae ?_|(refine aa ?_ ?_<;>intro h))
   refine ah [54,55,56,5] [69] ?_
   rw[m1]
   exact Nw t.acts t _ ha _ rfl t.acts [] _ _ _ 0 rfl rfl
 |x::r,done,  T,H,c,n,e,hn=>by
  have hd:l.length=done.length+(r.length+1):=by simp[e]
  have hll:(l.map Mat.enc).length=l.length:=by simp
  have hx:(l.map Mat.enc)[n.toNat]? =some (Mat.enc x):=by simp[e,hn]
  have h1:=Mr k hf x (hk x (by simp[e]))
  rw[bb]
  generalize mtE k x=E at*
  by_cases h0:E=0
  ·subst h0
   rw[if_pos rfl]
   refine evl ?_
   repeat' (first|refine ae ?_|(refine aa ?_ ?_<;>intro h))
   refine ah [36,37,38,3,5] [67,69] ?_;exact Nv l k hf t g3 g5 hk ha hl ln hln r (done++[x])  _ _ _ (n+1) (by simp[e]) (by simp[hn]<;>omega)
  ·rw[if_neg h0,if_neg h0]
   refine evl ?_
   repeat' (first|refine ae ?_|(refine aa ?_ ?_<;>intro h))
   refine ag ?_;rfl
theorem R6 (l:List Trm) (k:Kn) (hf:k.fit) (t:Trm) (g3 g5:Nat) (hk: ∀m∈t.mats,m.pfx.ok) (ha:t.acts.length<2^40) (hm:t.mats.length<2^40) (hl:l.length<2^40) (ln:Int) (hln:ln=l.length): ∀(rest done:List Trm)  (T:List (Nat×AV)) (H:ax) (c:Nat) (n:Int) (e:l=done++rest) (hn:n=done.length),Ev G ⟨Xz,⟨(19,.sl 4 (l.map Trm.enc))::(20,.int .i64 ln)::(21,.int .i64 n)::(3,.ref 67 g3 0)::(5,.ref 69 g5 0)::T,(67,some (g3,.cells k.enc))::(69,some (g5,.cells t.enc))::H,c⟩,[.t 6],0⟩ (⟨.int .i64 (if rest.any (fun u=>u.name==t.name) then 7 else PW k t),[]⟩)
 | [],done,  T,H,c,n,e,hn=>by
  have hd:l.length=done.length:=by simp[e]
  have hll:(l.map Trm.enc).length=l.length:=by simp
  have m1:(t.mats.map Mat.enc).length=t.mats.length:=by simp
  rw[List.any_nil,if_neg (by simp),PW]
  by_cases c:64<t.mats.length
  ·rw[if_pos c]
   have c':(t.mats.length:Int)>64:=by omega
   refine evl ?_
   repeat' (first|refine ae ?_|(refine aa ?_ ?_<;>intro h))
   refine ag ?_;rfl
  ·rw[if_neg c]
   refine evl ?_
   repeat' (first|refine ae ?_|(refine aa ?_ ?_<;>intro h))
   refine ah [36,37,38,3,5] [67,69] ?_
   rw[m1]
   exact Nv t.mats k hf t _ _ hk ha hm _ rfl t.mats [] _ _ _ 0 rfl rfl
 |x::r,done,  T,H,c,n,e,hn=>by
  have hd:l.length=done.length+(r.length+1):=by simp[e]
  have hll:(l.map Trm.enc).length=l.length:=by simp
  have hx:(l.map Trm.enc)[n.toNat]? =some (Trm.enc x):=by simp[e,hn]
  rw[List.any_cons]
  by_cases hn:x.name=t.name
  ·rw[show (x.name==t.name)=true from by simp[hn],Bool.true_or,if_pos rfl]
   refine evl ?_
   repeat' ((conv=>whnf);first|refine Qj hn ?_|refine ay ?_|(refine aa ?_ ?_<;>intro h))
   refine ag ?_;rfl
  ·rw[show (x.name==t.name)=false from by simp[hn],Bool.false_or]
   refine evl ?_
   repeat' ((conv=>whnf);first|refine Fq hn ?_|refine ay ?_|(refine aa ?_ ?_<;>intro h))
   refine ah [19,20,21,3,5] [67,69] ?_;exact R6 l k hf t g3 g5 hk ha hm hl ln hln r (done++[x])  _ _ _ (n+1) (by simp[e]) (by simp[hn]<;>omega)
theorem LD (k:Kn) (hf:k.fit) (d:List Trm) (hd:d.length<2^40) (t:Trm) (g:t.goodT):aq G 582 [.agg k.enc,.sl 4 (d.map Trm.enc),.agg t.enc] [] ⟨.int .i64 (rj k d t),[]⟩:=by
 have m1:(d.map Trm.enc).length=d.length:=by simp
 have h1:=tH t.name g.nm
 rw[rj]
 cases hb:nmB t.name with
 |false=>
  rw[hb] at h1
  rw[if_pos rfl]
  exact gvA (F:=QX)
 |true=>
  rw[hb] at h1
  rw[if_neg (by simp)]
  refine ab (F:=QX) rfl rfl (am 300 _ _ _ _ ?_)
  repeat' (first|refine ae ?_|(refine aa ?_ ?_<;>intro h))
  refine ah [19,20,21,3,5] [67,69] ?_
  rw[m1]
  exact R6 d k hf t _ _ g.ok g.acz g.ms hd _ rfl d [] _ _ _ 0 rfl rfl
def mh (k:Kn):List Trm→List Trm→Int
 |_,[]=>0
 |d,t::r=>if rj k d t=0 then mh k (d++[t]) r else rj k d t
def plE (k:Kn) (p:Pol):Int:=if mh k [] p.terms=0 then dfE p.dflt else mh k [] p.terms
theorem wQ (l:List Trm) (k:Kn) (hf:k.fit) (p:Pol) (g2 g3:Nat) (hp:p.terms=l) (hk: ∀t∈l,t.goodT) (hl:l.length<2^40) (ln:Int) (hln:ln=l.length): ∀(rest done:List Trm)  (T:List (Nat×AV)) (H:ax) (c:Nat) (n:Int) (e:l=done++rest) (hn:n=done.length),Ev G ⟨XY,⟨(9,.sl 4 (l.map Trm.enc))::(10,.int .i64 ln)::(11,.int .i64 n)::(2,.ref 66 g2 0)::(3,.ref 67 g3 0)::T,(66,some (g2,.cells k.enc))::(67,some (g3,.cells p.enc))::H,c⟩,[.t 4],0⟩ (⟨.int .i64 (if mh k done rest=0 then dfE p.dflt else mh k done rest),[]⟩)
 | [],done,  T,H,c,n,e,hn=>by
  have hd:l.length=done.length:=by simp[e]
  have hll:(l.map Trm.enc).length=l.length:=by simp
  rw[mh,if_pos rfl,dfE]
  by_cases c1:p.dflt=1
  ·rw[if_neg (fun q=>q.1 c1)]
   refine evl ?_
   repeat' (first|refine ae ?_|(refine aa ?_ ?_<;>intro h))
   refine ag ?_;rfl
  by_cases c2:p.dflt=2
  ·rw[if_neg (fun q=>q.2 c2)]
   refine evl ?_
   repeat' (first|refine ae ?_|(refine aa ?_ ?_<;>intro h))
   refine ag ?_;rfl
  rw[if_pos ⟨c1,c2⟩]
  refine evl ?_
  repeat' (first|refine ae ?_|(refine aa ?_ ?_<;>intro h))
  refine ag ?_;rfl
 |x::r,done,  T,H,c,n,e,hn=>by
  have hd:l.length=done.length+(r.length+1):=by simp[e]
  have hll:(l.map Trm.enc).length=l.length:=by simp
  have hx:(l.map Trm.enc)[n.toNat]? =some (Trm.enc x):=by simp[e,hn]
  have m1:(p.terms.map Trm.enc).length=p.terms.length:=by simp
  have hlen:p.terms.length=l.length:=by rw[hp]
  have h1:aq G 582 [.agg k.enc,.sl 4 ((List.take (n.toNat-0) (List.drop 0 (p.terms.map Trm.enc)))),.agg x.enc] [] ⟨.int .i64 (rj k done x),[]⟩:=by
   have h:=LD k hf done (by omega) x (hk x (by simp[e]))
   have q:List.take (n.toNat-0) (List.drop 0 (p.terms.map Trm.enc))=done.map Trm.enc:=by
    rw[hp,e,hn];simp
   rw[q];exact h
  rw[mh]
  generalize rj k done x=E at*
  by_cases h0:E=0
  ·subst h0
   rw[if_pos rfl]
   refine evl ?_
   repeat' (first|refine ae ?_|(refine aa ?_ ?_<;>intro h))
   refine ah [9,10,11,2,3] [66,67] ?_;exact wQ l k hf p g2 g3 hp hk hl ln hln r (done++[x])  _ _ _ (n+1) (by simp[e]) (by simp[hn]<;>omega)
  ·rw[if_neg h0,if_neg h0]
   refine evl ?_
   repeat' (first|refine ae ?_|(refine aa ?_ ?_<;>intro h))
   refine ag ?_;rfl
theorem Mf (k:Kn) (hf:k.fit) (p:Pol) (hl:p.terms.length<2^40) (hk: ∀t∈p.terms,t.goodT):aq G 523 [.agg k.enc,.agg p.enc] [] ⟨.int .i64 (plE k p),[]⟩:=by
 have m1:(p.terms.map Trm.enc).length=p.terms.length:=by simp
 unfold plE
 refine ab (F:=XZ) rfl rfl (am 300 _ _ _ _ ?_)
 repeat' (first|refine ae ?_|(refine aa ?_ ?_<;>intro h))
 refine ah [9,10,11,2,3] [66,67] ?_
 rw[m1]
 exact wQ p.terms k hf p _ _ rfl hk hl _ rfl p.terms [] _ _ _ 0 rfl rfl
end Go.AM.IR
namespace Go.AM.IR
def dk:AV:=.con (.slice none 0 0)
def dv (s:PSet):Kn:=⟨s.prefixes.map PList.name,s.paths.map PathL.name,s.comms.map ComL.name,s.pols.map Pol.name⟩
theorem Bh (s:PSet) (g2 g3 a0 a1 a2:Nat) (B0 B1 B2:List NmL) (hl:s.pols.length<2^40) (R:Ret) (O:List NmL)
  (go:R=⟨.agg [.vs 0 0 B0.length,.vs 1 0 B1.length,.vs 2 0 B2.length,.vs 3 0 O.length],[(false,.vec 1 (B0.map bl)),(false,.vec 1 (B1.map bl)),(false,.vec 1 (B2.map bl)),(false,.vec 1 (O.map bl))]⟩): ∀(rest done:List Pol) (o:List NmL) (a3:Nat) (T:List (Nat×AV)) (H:ax) (c:Nat) (n:Int) (e:s.pols=done++rest) (hn:n=done.length) (hb:o.length+rest.length<2^30) (hO:o++rest.map Pol.name=O),
  Ev G ⟨BH,⟨(60,.int .i64 n)::(3,.ref 67 g3 0)::(58,.sl 3 (s.pols.map Pol.enc))::(2,.ref 66 g2 0)::(59,.int .i64 s.pols.length)::T,(67,some (g3,.cells [.vs 88 a0 B0.length,.vs 103 a1 B1.length,.vs 118 a2 B2.length,.vs 133 a3 o.length]))::(66,some (g2,.cells [dk,dk,dk,dk]))::(88,some (a0,.vec 1 (B0.map bl)))::(103,some (a1,.vec 1 (B1.map bl)))::(118,some (a2,.vec 1 (B2.map bl)))::(133,some (a3,.vec 1 (o.map bl)))::H,c⟩,[.cell 2 (some 4)],0⟩ R
 | [],done,o,a3,T,H,c,n,e,hn,hb,hO=>by
  have hd:s.pols.length=done.length:=by simp[e]
  rw[List.map_nil,List.append_nil] at hO
  subst hO
  rw[go]
  refine evl ?_
  repeat' (first|refine ae ?_|(refine aa ?_ ?_<;>intro h))
  refine aaP [(88,_,.vec 1 (B0.map bl)),(103,_,.vec 1 (B1.map bl)),(118,_,.vec 1 (B2.map bl)),(133,_,.vec 1 (o.map bl))] ⟨rfl,⟨rfl,puL,rfl,puL,rfl,puL,rfl,puL,trivial⟩,rfl,rfl,(by simp[dz]),?_⟩
  simp[AV.ren,cK,φR]
  exact ⟨rfl,rfl,rfl⟩
 |x::r,done,o,a3,T,H,c,n,e,hn,hb,hO=>by
  have hd:s.pols.length=done.length+(r.length+1):=by simp[e]
  have hll:(s.pols.map Pol.enc).length=s.pols.length:=by simp
  have hx:(s.pols.map Pol.enc)[n.toNat]? =some x.enc:=by simp[e,hn]
  have hb0:(x::r).length=r.length+1:=rfl
  have ih:=fun a3 T H c=>Bh s g2 g3 a0 a1 a2 B0 B1 B2 hl R O go r (done++[x]) (o++[x.name]) a3 T H c (n+1) (by simp[e]) (by simp[hn]) (by simp;omega) (by rw[←hO];simp)
  rw[List.map_append,List.length_append] at ih
  refine evl ?_
  repeat' (first|refine ae ?_|(refine aa ?_ ?_<;>intro h))
  refine ah [60,3,58,2,59] [67,66,88,103,118,133] ?_
  exact ih _ _ _ _
theorem Bj (s:PSet) (g2 g3 a0 a1 a3:Nat) (B0 B1 B3:List NmL) (hl:s.comms.length<2^40) (R:Ret) (O:List NmL)
  (go: ∀(a2:Nat) (T:List (Nat×AV)) (H:ax) (c:Nat),Ev G ⟨BH,⟨(60,.int .i64 0)::(3,.ref 67 g3 0)::(58,.sl 3 (s.pols.map Pol.enc))::(2,.ref 66 g2 0)::(59,.int .i64 s.pols.length)::T,(67,some (g3,.cells [.vs 88 a0 B0.length,.vs 103 a1 B1.length,.vs 118 a2 O.length,.vs 133 a3 B3.length]))::(66,some (g2,.cells [dk,dk,dk,dk]))::(88,some (a0,.vec 1 (B0.map bl)))::(103,some (a1,.vec 1 (B1.map bl)))::(118,some (a2,.vec 1 (O.map bl)))::(133,some (a3,.vec 1 (B3.map bl)))::H,c⟩,[.cell 2 (some 4)],0⟩ R): ∀(rest done:List ComL) (o:List NmL) (a2:Nat) (T:List (Nat×AV)) (H:ax) (c:Nat) (n:Int) (e:s.comms=done++rest) (hn:n=done.length) (hb:o.length+rest.length<2^30) (hO:o++rest.map ComL.name=O),
  Ev G ⟨BI,⟨(45,.int .i64 n)::(3,.ref 67 g3 0)::(43,.sl 2 (s.comms.map ComL.enc))::(2,.ref 66 g2 0)::(1,.ref 65 1 0)::(44,.int .i64 s.comms.length)::T,(67,some (g3,.cells [.vs 88 a0 B0.length,.vs 103 a1 B1.length,.vs 118 a2 o.length,.vs 133 a3 B3.length]))::(65,some (1,.cells s.enc))::(66,some (g2,.cells [dk,dk,dk,dk]))::(88,some (a0,.vec 1 (B0.map bl)))::(103,some (a1,.vec 1 (B1.map bl)))::(118,some (a2,.vec 1 (o.map bl)))::(133,some (a3,.vec 1 (B3.map bl)))::H,c⟩,[.cell 2 (some 4)],0⟩ R
 | [],done,o,a2,T,H,c,n,e,hn,hb,hO=>by
  have hd:s.comms.length=done.length:=by simp[e]
  rw[List.map_nil,List.append_nil] at hO
  subst hO
  have m1:(s.pols.map Pol.enc).length=s.pols.length:=by simp
  refine evl ?_
  repeat' (first|refine ae ?_|(refine aa ?_ ?_<;>intro h))
  refine ah [60,3,58,2,59] [67,66,88,103,118,133] ?_
  rw[m1]
  exact go _ _ _ _
 |x::r,done,o,a2,T,H,c,n,e,hn,hb,hO=>by
  have hd:s.comms.length=done.length+(r.length+1):=by simp[e]
  have hll:(s.comms.map ComL.enc).length=s.comms.length:=by simp
  have hx:(s.comms.map ComL.enc)[n.toNat]? =some x.enc:=by simp[e,hn]
  have hb0:(x::r).length=r.length+1:=rfl
  have ih:=fun a2 T H c=>Bj s g2 g3 a0 a1 a3 B0 B1 B3 hl R O go r (done++[x]) (o++[x.name]) a2 T H c (n+1) (by simp[e]) (by simp[hn]) (by simp;omega) (by rw[←hO];simp)
  rw[List.map_append,List.length_append] at ih
  refine evl ?_
  repeat' (first|refine ae ?_|(refine aa ?_ ?_<;>intro h))
  refine ah [45,3,43,2,1,44] [67,65,66,88,103,118,133] ?_
  exact ih _ _ _ _
theorem Bm (s:PSet) (g2 g3 a0 a2 a3:Nat) (B0 B2 B3:List NmL) (hl:s.paths.length<2^40) (R:Ret) (O:List NmL)
  (go: ∀(a1:Nat) (T:List (Nat×AV)) (H:ax) (c:Nat),Ev G ⟨BI,⟨(45,.int .i64 0)::(3,.ref 67 g3 0)::(43,.sl 2 (s.comms.map ComL.enc))::(2,.ref 66 g2 0)::(1,.ref 65 1 0)::(44,.int .i64 s.comms.length)::T,(67,some (g3,.cells [.vs 88 a0 B0.length,.vs 103 a1 O.length,.vs 118 a2 B2.length,.vs 133 a3 B3.length]))::(65,some (1,.cells s.enc))::(66,some (g2,.cells [dk,dk,dk,dk]))::(88,some (a0,.vec 1 (B0.map bl)))::(103,some (a1,.vec 1 (O.map bl)))::(118,some (a2,.vec 1 (B2.map bl)))::(133,some (a3,.vec 1 (B3.map bl)))::H,c⟩,[.cell 2 (some 4)],0⟩ R): ∀(rest done:List PathL) (o:List NmL) (a1:Nat) (T:List (Nat×AV)) (H:ax) (c:Nat) (n:Int) (e:s.paths=done++rest) (hn:n=done.length) (hb:o.length+rest.length<2^30) (hO:o++rest.map PathL.name=O),
  Ev G ⟨BJ,⟨(30,.int .i64 n)::(3,.ref 67 g3 0)::(28,.sl 2 (s.paths.map PathL.enc))::(2,.ref 66 g2 0)::(1,.ref 65 1 0)::(29,.int .i64 s.paths.length)::T,(67,some (g3,.cells [.vs 88 a0 B0.length,.vs 103 a1 o.length,.vs 118 a2 B2.length,.vs 133 a3 B3.length]))::(65,some (1,.cells s.enc))::(66,some (g2,.cells [dk,dk,dk,dk]))::(88,some (a0,.vec 1 (B0.map bl)))::(103,some (a1,.vec 1 (o.map bl)))::(118,some (a2,.vec 1 (B2.map bl)))::(133,some (a3,.vec 1 (B3.map bl)))::H,c⟩,[.cell 2 (some 4)],0⟩ R
 | [],done,o,a1,T,H,c,n,e,hn,hb,hO=>by
  have hd:s.paths.length=done.length:=by simp[e]
  rw[List.map_nil,List.append_nil] at hO
  subst hO
  have m1:(s.comms.map ComL.enc).length=s.comms.length:=by simp
  refine evl ?_
  repeat' (first|refine ae ?_|(refine aa ?_ ?_<;>intro h))
  refine ah [45,3,43,2,1,44] [67,65,66,88,103,118,133] ?_
  rw[m1]
  exact go _ _ _ _
 |x::r,done,o,a1,T,H,c,n,e,hn,hb,hO=>by
  have hd:s.paths.length=done.length+(r.length+1):=by simp[e]
  have hll:(s.paths.map PathL.enc).length=s.paths.length:=by simp
  have hx:(s.paths.map PathL.enc)[n.toNat]? =some x.enc:=by simp[e,hn]
  have hb0:(x::r).length=r.length+1:=rfl
  have ih:=fun a1 T H c=>Bm s g2 g3 a0 a2 a3 B0 B2 B3 hl R O go r (done++[x]) (o++[x.name]) a1 T H c (n+1) (by simp[e]) (by simp[hn]) (by simp;omega) (by rw[←hO];simp)
  rw[List.map_append,List.length_append] at ih
  refine evl ?_
  repeat' (first|refine ae ?_|(refine aa ?_ ?_<;>intro h))
  refine ah [30,3,28,2,1,29] [67,65,66,88,103,118,133] ?_
  exact ih _ _ _ _
theorem GA (s:PSet) (g2 g3 a1 a2 a3:Nat) (B1 B2 B3:List NmL) (hl:s.prefixes.length<2^40) (R:Ret) (O:List NmL)
  (go: ∀(a0:Nat) (T:List (Nat×AV)) (H:ax) (c:Nat),Ev G ⟨BJ,⟨(30,.int .i64 0)::(3,.ref 67 g3 0)::(28,.sl 2 (s.paths.map PathL.enc))::(2,.ref 66 g2 0)::(1,.ref 65 1 0)::(29,.int .i64 s.paths.length)::T,(67,some (g3,.cells [.vs 88 a0 O.length,.vs 103 a1 B1.length,.vs 118 a2 B2.length,.vs 133 a3 B3.length]))::(65,some (1,.cells s.enc))::(66,some (g2,.cells [dk,dk,dk,dk]))::(88,some (a0,.vec 1 (O.map bl)))::(103,some (a1,.vec 1 (B1.map bl)))::(118,some (a2,.vec 1 (B2.map bl)))::(133,some (a3,.vec 1 (B3.map bl)))::H,c⟩,[.cell 2 (some 4)],0⟩ R): ∀(rest done:List PList) (o:List NmL) (a0:Nat) (T:List (Nat×AV)) (H:ax) (c:Nat) (n:Int) (e:s.prefixes=done++rest) (hn:n=done.length) (hb:o.length+rest.length<2^30) (hO:o++rest.map PList.name=O),
  Ev G ⟨Yl,⟨(15,.int .i64 n)::(3,.ref 67 g3 0)::(13,.sl 2 (s.prefixes.map PList.enc))::(2,.ref 66 g2 0)::(1,.ref 65 1 0)::(14,.int .i64 s.prefixes.length)::T,(67,some (g3,.cells [.vs 88 a0 o.length,.vs 103 a1 B1.length,.vs 118 a2 B2.length,.vs 133 a3 B3.length]))::(65,some (1,.cells s.enc))::(66,some (g2,.cells [dk,dk,dk,dk]))::(88,some (a0,.vec 1 (o.map bl)))::(103,some (a1,.vec 1 (B1.map bl)))::(118,some (a2,.vec 1 (B2.map bl)))::(133,some (a3,.vec 1 (B3.map bl)))::H,c⟩,[.cell 2 (some 4)],0⟩ R
 | [],done,o,a0,T,H,c,n,e,hn,hb,hO=>by
  have hd:s.prefixes.length=done.length:=by simp[e]
  rw[List.map_nil,List.append_nil] at hO
  subst hO
  have m1:(s.paths.map PathL.enc).length=s.paths.length:=by simp
  refine evl ?_
  repeat' (first|refine ae ?_|(refine aa ?_ ?_<;>intro h))
  refine ah [30,3,28,2,1,29] [67,65,66,88,103,118,133] ?_
  rw[m1]
  exact go _ _ _ _
 |x::r,done,o,a0,T,H,c,n,e,hn,hb,hO=>by
  have hd:s.prefixes.length=done.length+(r.length+1):=by simp[e]
  have hll:(s.prefixes.map PList.enc).length=s.prefixes.length:=by simp
  have hx:(s.prefixes.map PList.enc)[n.toNat]? =some x.enc:=by simp[e,hn]
  have hb0:(x::r).length=r.length+1:=rfl
  have ih:=fun a0 T H c=>GA s g2 g3 a1 a2 a3 B1 B2 B3 hl R O go r (done++[x]) (o++[x.name]) a0 T H c (n+1) (by simp[e]) (by simp[hn]) (by simp;omega) (by rw[←hO];simp)
  rw[List.map_append,List.length_append] at ih
  refine evl ?_
  repeat' (first|refine ae ?_|(refine aa ?_ ?_<;>intro h))
  refine ah [15,3,13,2,1,14] [67,65,66,88,103,118,133] ?_
  exact ih _ _ _ _
theorem Gy (s:PSet) (g:s.good) (h0:s.prefixes.length<2^30) (h1:s.paths.length<2^30) (h2:s.comms.length<2^30) (h3:s.pols.length<2^30):aq G 507 [.agg s.enc] [] ⟨.agg [.vs 0 0 (dv s).a.length,.vs 1 0 (dv s).b.length,.vs 2 0 (dv s).c.length,.vs 3 0 (dv s).d.length],[(false,.vec 1 ((dv s).a.map bl)),(false,.vec 1 ((dv s).b.map bl)),(false,.vec 1 ((dv s).c.map bl)),(false,.vec 1 ((dv s).d.map bl))]⟩:=by
 have m1:(s.prefixes.map PList.enc).length=s.prefixes.length:=by simp
 refine ab (F:=Ym) rfl rfl (am 300 _ _ _ _ ?_)
 repeat' (first|refine ae ?_|(refine aa ?_ ?_<;>intro h))
 refine ka 88 1 [] [(67,some (_,.cells [.vs 88 _ 0,dk,dk,dk]))] trivial ⟨⟨rfl,⟨LeP.nilV _ _ _,.refl _,.refl _,.refl _,trivial⟩⟩,trivial⟩ ?_
 refine ka 103 1 [] [(67,some (_,.cells [.vs 88 _ 0,.vs 103 _ 0,dk,dk]))] trivial ⟨⟨rfl,⟨.refl _,LeP.nilV _ _ _,.refl _,.refl _,trivial⟩⟩,trivial⟩ ?_
 refine ka 118 1 [] [(67,some (_,.cells [.vs 88 _ 0,.vs 103 _ 0,.vs 118 _ 0,dk]))] trivial ⟨⟨rfl,⟨.refl _,.refl _,LeP.nilV _ _ _,.refl _,trivial⟩⟩,trivial⟩ ?_
 refine ka 133 1 [] [(67,some (_,.cells [.vs 88 _ 0,.vs 103 _ 0,.vs 118 _ 0,.vs 133 _ 0]))] trivial ⟨⟨rfl,⟨.refl _,.refl _,.refl _,LeP.nilV _ _ _,trivial⟩⟩,trivial⟩ ?_
 refine ah [15,3,13,2,1,14] [67,65,66,88,103,118,133] ?_
 rw[m1]
 refine GA s _ _ _ _ _ [] [] [] g.a _ (dv s).a (fun a0 T H c=>?_) s.prefixes [] [] _ _ _ _ 0 rfl rfl (by simpa using h0) (by simp[dv])
 refine Bm s _ _ _ _ _ (dv s).a [] [] g.b _ (dv s).b (fun a1 T H c=>?_) s.paths [] [] _ _ _ _ 0 rfl rfl (by simpa using h1) (by simp[dv])
 refine Bj s _ _ _ _ _ (dv s).a (dv s).b [] g.c _ (dv s).c (fun a2 T H c=>?_) s.comms [] [] _ _ _ _ 0 rfl rfl (by simpa using h2) (by simp[dv])
 exact Bh s _ _ _ _ _ (dv s).a (dv s).b (dv s).c g.d _ (dv s).d rfl s.pols [] [] _ _ _ _ 0 rfl rfl (by simpa using h3) (by simp[dv])
end Go.AM.IR
namespace Go.AM.IR
@[simp] theorem abN {α:Type} (g:α→List UInt8) (l:List α):aG (l.map (bl∘g))=true:=by rw[←List.map_map];exact tv _
theorem L9 (r:RuleP) (h:r.ok):aq G 325 [.agg r.enc] [] ⟨.int .i64 (ruE r),[]⟩:=by
 have hv:aq G 178 [.agg [.int .u32 r.pfx.addr,.int .i64 r.pfx.len]] [] ⟨.bool (ba r.pfx),[]⟩:=eW r.pfx h.1
 unfold ruE
 cases hvp:ba r.pfx
 ·rw[hvp] at hv
  rw[if_neg (by simp)]
  exact gvA (F:=JP)
 ·rw[hvp] at hv
  rw[if_pos rfl]
  by_cases h1:r.min<r.pfx.len∨r.max<r.min∨r.max>32
  ·rw[if_pos h1]
   refine ab (F:=JP) rfl rfl (am 300 _ _ _ _ ?_)
   repeat' (first|refine ae ?_|(refine aa ?_ ?_<;>intro h))
   all_goals try (exfalso;omega)
   all_goals (refine ag ?_;rfl)
  ·rw[if_neg h1]
   refine ab (F:=JP) rfl rfl (am 300 _ _ _ _ ?_)
   repeat' (first|refine ae ?_|(refine aa ?_ ?_<;>intro h))
   all_goals try (exfalso;omega)
   all_goals (refine ag ?_;rfl)
theorem L7 (s:List UInt8) (h:s.length<2^32):aq G 516 [.str s] [] (sU (mi s)):=by
 rw[←aah]
 show (if s.length<2^32 then some (sU (oY s)) else none)=_
 rw[if_pos h]
theorem abf (s:List UInt8) (h:s.length<2^32): ∃(k lo hi:Int) (l:List Rx),aq G 516 [.str s] [] ⟨.tup [.agg [.int .i64 k,.int .i64 lo,.int .i64 hi,.sl 4 (l.map Rx.enc)],.int .i64 (if (mi s).isSome then 0 else 2)],[]⟩:=by
 have h1:=L7 s (by omega)
 cases hq:mi s with
 |none=>
  rw[hq] at h1
  refine ⟨0,0,0,[],?_⟩
  have e:=bi 0 0 0 []
  have h2:aq G 516 [.str s] [] ⟨.tup [.agg rx0.enc,.int .i64 2],[]⟩:=h1
  unfold rx0 at h2
  rw[e] at h2
  exact h2
 |some x=>
  rw[hq] at h1
  obtain ⟨k,lo,hi,l⟩:=x
  refine ⟨k,lo,hi,l,?_⟩
  have h2:aq G 516 [.str s] [] ⟨.tup [.agg (Rx.mk k lo hi l).enc,.int .i64 0],[]⟩:=h1
  rw[bi] at h2
  exact h2
def eaE {α:Type} (nm:α→List UInt8) (sz:α→Nat) (chk:α→Int):List α→List α→Int
 |_,[]=>0
 |d,x::r=>if iP (d.map nm) (nm x)=0 then (if 64<sz x then 4 else if chk x=0 then eaE nm sz chk (d++[x]) r else chk x) else iP (d.map nm) (nm x)
theorem MG (l:List RuleP) (h: ∀r∈l,r.ok) (hl:l.length<2^40) (i:Nat) (x:RuleP) (hx:l[i]? =some x):aq G 512 [.int .i64 (i:Int),.ref 0 0 0] [.cells [.sl 5 (l.map RuleP.enc)]] ⟨.int .i64 (ruE x),[(true,.cells [.sl 5 (l.map RuleP.enc)])]⟩:=by
 have m1:(l.map RuleP.enc).length=l.length:=by simp
 have hx1:(l.map RuleP.enc)[((i:Nat):Int).toNat]? =some x.enc:=by simp[hx]
 have hi:i<l.length:=(List.getElem?_eq_some_iff.1 hx).1
 have h1:=L9 x (h x (List.mem_of_getElem? hx))
 generalize ruE x=E at*
 refine ab (F:=Yi) rfl rfl (am 300 _ _ _ _ ?_)
 repeat' (first|refine ae ?_|(refine aa ?_ ?_<;>intro h))
 (conv=>whnf);first|refine bg [(0,_,_)] [] [true] ?_|refine bh [(0,_,_)] [] [true] ?_
 rfl
theorem xC (l:List RuleP) (h: ∀r∈l,r.ok) (hl:l.length<2^40): ∀(rest done:List RuleP) (T:List (Nat×AV)) (H:ax) (c:Nat) (n:Int) (e:l=done++rest) (hn:n=done.length),
  Ev G ⟨uR,⟨(8,.int .i64 n)::(1,.fn 512 [.ref 0 0 0])::(7,.int .i64 l.length)::T,(0,some (0,.cells [.sl 5 (l.map RuleP.enc)]))::H,c⟩,[.t 4],1⟩ ⟨.int .i64 (bb ruE rest),[(true,.cells [.sl 5 (l.map RuleP.enc)])]⟩
 | [],done,T,H,c,n,e,hn=>by
  have hd:l.length=done.length:=by simp[e]
  refine evl ?_
  repeat' (first|refine ae ?_|(refine aa ?_ ?_<;>intro h))
  (conv=>whnf);first|refine bg [(0,_,_)] [] [true] ?_|refine bh [(0,_,_)] [] [true] ?_
  rfl
 |x::r,done,T,H,c,n,e,hn=>by
  have hd:l.length=done.length+(r.length+1):=by simp[e]
  have h1:=MG l h hl done.length x (by simp[e])
  rw[←hn] at h1
  have ih:=fun T H c=>xC l h hl r (done++[x]) T H c (n+1) (by simp[e]) (by simp[hn])
  rw[bb]
  generalize ruE x=E at*
  by_cases h0:E=0
  ·subst h0
   rw[if_pos rfl]
   refine evl ?_
   repeat' (first|refine ae ?_|refine kX [(0,_,_)] [] ⟨rfl,trivial⟩ trivial (h1) ?_|(refine aa ?_ ?_<;>intro h))
   refine ah [8,1,7] [0] ?_
   exact ih _ _ _
  ·rw[if_neg h0]
   refine evl ?_
   repeat' (first|refine ae ?_|refine kX [(0,_,_)] [] ⟨rfl,trivial⟩ trivial (h1) ?_|(refine aa ?_ ?_<;>intro h))
   (conv=>whnf);first|refine bg [(0,_,_)] [] [true] ?_|refine bh [(0,_,_)] [] [true] ?_
   rfl
theorem MO (l:List RuleP) (h: ∀r∈l,r.ok) (hl:l.length<2^40):aq G 511 [.int .i64 l.length,.fn 512 [.ref 0 0 0]] [.cells [.sl 5 (l.map RuleP.enc)]] ⟨.int .i64 (bb ruE l),[(true,.cells [.sl 5 (l.map RuleP.enc)])]⟩:=by
 refine ab (F:=IY) rfl rfl (am 300 _ _ _ _ ?_)
 repeat' (first|refine ae ?_|(refine aa ?_ ?_<;>intro h))
 refine ah [8,1,7] [0] ?_
 exact xC l h hl l [] _ _ _ 0 rfl rfl
theorem LU (s:PSet) (g:s.good) (i:Nat) (x:PList) (hx:s.prefixes[i]? =some x):aq G 509 [.int .i64 (i:Int),.ref 0 0 0] [.cells s.enc] ⟨.int .i64 x.rules.length,[(true,.cells s.enc)]⟩:=by
 have m1:(s.prefixes.map PList.enc).length=s.prefixes.length:=by simp
 have m2:(x.rules.map RuleP.enc).length=x.rules.length:=by simp
 have hx1:(s.prefixes.map PList.enc)[((i:Nat):Int).toNat]? =some x.enc:=by simp[hx]
 have hi:i<s.prefixes.length:=(List.getElem?_eq_some_iff.1 hx).1
 have gl:=g.a
 refine ab (F:=Yk) rfl rfl (am 300 _ _ _ _ ?_)
 repeat' (first|refine ae ?_|(refine aa ?_ ?_<;>intro h))
 (conv=>whnf);first|refine bg [(0,_,_)] [] [true] ?_|refine bh [(0,_,_)] [] [true] ?_
 rw[m2];rfl
theorem Ng (s:PSet) (g:s.good) (i:Nat) (x:PList) (hx:s.prefixes[i]? =some x):aq G 510 [.int .i64 (i:Int),.ref 0 0 0] [.cells s.enc] ⟨.int .i64 (bb ruE x.rules),[(true,.cells s.enc)]⟩:=by
 have m1:(s.prefixes.map PList.enc).length=s.prefixes.length:=by simp
 have m2:(x.rules.map RuleP.enc).length=x.rules.length:=by simp
 have hx1:(s.prefixes.map PList.enc)[((i:Nat):Int).toNat]? =some x.enc:=by simp[hx]
 have hi:i<s.prefixes.length:=(List.getElem?_eq_some_iff.1 hx).1
 have gl:=g.a
 obtain ⟨q1,q2,q3⟩:=g.pre x (List.mem_of_getElem? hx)
 have h1:=MO x.rules q3 q2
 rw[←m2] at h1
 generalize bb ruE x.rules=E at*
 refine ab (F:=Yj) rfl rfl (am 300 _ _ _ _ ?_)
 repeat' (first|refine ae ?_|refine kX [(68,_,_)] [] ⟨rfl,trivial⟩ trivial (h1) ?_|(refine aa ?_ ?_<;>intro h))
 (conv=>whnf);first|refine bg [(0,_,_)] [] [true] ?_|refine bh [(0,_,_)] [] [true] ?_
 rfl
theorem MF (l:List PathR) (h: ∀r∈l,r.pattern.length<2^32) (hl:l.length<2^40) (i:Nat) (x:PathR) (hx:l[i]? =some x):aq G 515 [.int .i64 (i:Int),.ref 0 0 0] [.cells [.sl 2 (l.map PathR.enc)]] ⟨.int .i64 (paE x),[(true,.cells [.sl 2 (l.map PathR.enc)])]⟩:=by
 have m1:(l.map PathR.enc).length=l.length:=by simp
 have hx1:(l.map PathR.enc)[((i:Nat):Int).toNat]? =some x.enc:=by simp[hx]
 have hi:i<l.length:=(List.getElem?_eq_some_iff.1 hx).1
 obtain ⟨k0,lo0,hi0,l0,h1⟩:=abf x.pattern (h x (List.mem_of_getElem? hx))
 change aq G 516 [.str x.pattern] [] ⟨.tup [_,.int .i64 (paE x)],[]⟩ at h1
 generalize paE x=E at*
 refine ab (F:=Yf) rfl rfl (am 300 _ _ _ _ ?_)
 repeat' (first|refine ae ?_|(refine aa ?_ ?_<;>intro h))
 (conv=>whnf);first|refine bg [(0,_,_)] [] [true] ?_|refine bh [(0,_,_)] [] [true] ?_
 rfl
theorem xB (l:List PathR) (h: ∀r∈l,r.pattern.length<2^32) (hl:l.length<2^40): ∀(rest done:List PathR) (T:List (Nat×AV)) (H:ax) (c:Nat) (n:Int) (e:l=done++rest) (hn:n=done.length),
  Ev G ⟨uR,⟨(8,.int .i64 n)::(1,.fn 515 [.ref 0 0 0])::(7,.int .i64 l.length)::T,(0,some (0,.cells [.sl 2 (l.map PathR.enc)]))::H,c⟩,[.t 4],1⟩ ⟨.int .i64 (bb paE rest),[(true,.cells [.sl 2 (l.map PathR.enc)])]⟩
 | [],done,T,H,c,n,e,hn=>by
  have hd:l.length=done.length:=by simp[e]
  refine evl ?_
  repeat' (first|refine ae ?_|(refine aa ?_ ?_<;>intro h))
  (conv=>whnf);first|refine bg [(0,_,_)] [] [true] ?_|refine bh [(0,_,_)] [] [true] ?_
  rfl
 |x::r,done,T,H,c,n,e,hn=>by
  have hd:l.length=done.length+(r.length+1):=by simp[e]
  have h1:=MF l h hl done.length x (by simp[e])
  rw[←hn] at h1
  have ih:=fun T H c=>xB l h hl r (done++[x]) T H c (n+1) (by simp[e]) (by simp[hn])
  rw[bb]
  generalize paE x=E at*
  by_cases h0:E=0
  ·subst h0
   rw[if_pos rfl]
   refine evl ?_
   repeat' (first|refine ae ?_|refine kX [(0,_,_)] [] ⟨rfl,trivial⟩ trivial (h1) ?_|(refine aa ?_ ?_<;>intro h))
   refine ah [8,1,7] [0] ?_
   exact ih _ _ _
  ·rw[if_neg h0]
   refine evl ?_
   repeat' (first|refine ae ?_|refine kX [(0,_,_)] [] ⟨rfl,trivial⟩ trivial (h1) ?_|(refine aa ?_ ?_<;>intro h))
   (conv=>whnf);first|refine bg [(0,_,_)] [] [true] ?_|refine bh [(0,_,_)] [] [true] ?_
   rfl
theorem MN (l:List PathR) (h: ∀r∈l,r.pattern.length<2^32) (hl:l.length<2^40):aq G 511 [.int .i64 l.length,.fn 515 [.ref 0 0 0]] [.cells [.sl 2 (l.map PathR.enc)]] ⟨.int .i64 (bb paE l),[(true,.cells [.sl 2 (l.map PathR.enc)])]⟩:=by
 refine ab (F:=IY) rfl rfl (am 300 _ _ _ _ ?_)
 repeat' (first|refine ae ?_|(refine aa ?_ ?_<;>intro h))
 refine ah [8,1,7] [0] ?_
 exact xB l h hl l [] _ _ _ 0 rfl rfl
theorem LR (s:PSet) (g:s.good) (i:Nat) (x:PathL) (hx:s.paths[i]? =some x):aq G 513 [.int .i64 (i:Int),.ref 0 0 0] [.cells s.enc] ⟨.int .i64 x.rules.length,[(true,.cells s.enc)]⟩:=by
 have m1:(s.paths.map PathL.enc).length=s.paths.length:=by simp
 have m2:(x.rules.map PathR.enc).length=x.rules.length:=by simp
 have hx1:(s.paths.map PathL.enc)[((i:Nat):Int).toNat]? =some x.enc:=by simp[hx]
 have hi:i<s.paths.length:=(List.getElem?_eq_some_iff.1 hx).1
 have gl:=g.b
 refine ab (F:=Yh) rfl rfl (am 300 _ _ _ _ ?_)
 repeat' (first|refine ae ?_|(refine aa ?_ ?_<;>intro h))
 (conv=>whnf);first|refine bg [(0,_,_)] [] [true] ?_|refine bh [(0,_,_)] [] [true] ?_
 rw[m2];rfl
theorem Nf (s:PSet) (g:s.good) (i:Nat) (x:PathL) (hx:s.paths[i]? =some x):aq G 514 [.int .i64 (i:Int),.ref 0 0 0] [.cells s.enc] ⟨.int .i64 (bb paE x.rules),[(true,.cells s.enc)]⟩:=by
 have m1:(s.paths.map PathL.enc).length=s.paths.length:=by simp
 have m2:(x.rules.map PathR.enc).length=x.rules.length:=by simp
 have hx1:(s.paths.map PathL.enc)[((i:Nat):Int).toNat]? =some x.enc:=by simp[hx]
 have hi:i<s.paths.length:=(List.getElem?_eq_some_iff.1 hx).1
 have gl:=g.b
 obtain ⟨q1,q2,q3⟩:=g.pat x (List.mem_of_getElem? hx)
 have h1:=MN x.rules q3 q2
 rw[←m2] at h1
 generalize bb paE x.rules=E at*
 refine ab (F:=Yg) rfl rfl (am 300 _ _ _ _ ?_)
 repeat' (first|refine ae ?_|refine kX [(68,_,_)] [] ⟨rfl,trivial⟩ trivial (h1) ?_|(refine aa ?_ ?_<;>intro h))
 (conv=>whnf);first|refine bg [(0,_,_)] [] [true] ?_|refine bh [(0,_,_)] [] [true] ?_
 rfl
theorem ME (l:List ComR) (h: ∀r∈l,True) (hl:l.length<2^40) (i:Nat) (x:ComR) (hx:l[i]? =some x):aq G 519 [.int .i64 (i:Int),.ref 0 0 0] [.cells [.sl 3 (l.map ComR.enc)]] ⟨.int .i64 (eC x),[(true,.cells [.sl 3 (l.map ComR.enc)])]⟩:=by
 have m1:(l.map ComR.enc).length=l.length:=by simp
 have hx1:(l.map ComR.enc)[((i:Nat):Int).toNat]? =some x.enc:=by simp[hx]
 have hi:i<l.length:=(List.getElem?_eq_some_iff.1 hx).1
 have h1:=Kg x
 generalize eC x=E at*
 refine ab (F:=Yc) rfl rfl (am 300 _ _ _ _ ?_)
 repeat' (first|refine ae ?_|(refine aa ?_ ?_<;>intro h))
 (conv=>whnf);first|refine bg [(0,_,_)] [] [true] ?_|refine bh [(0,_,_)] [] [true] ?_
 rfl
theorem xA (l:List ComR) (h: ∀r∈l,True) (hl:l.length<2^40): ∀(rest done:List ComR) (T:List (Nat×AV)) (H:ax) (c:Nat) (n:Int) (e:l=done++rest) (hn:n=done.length),
  Ev G ⟨uR,⟨(8,.int .i64 n)::(1,.fn 519 [.ref 0 0 0])::(7,.int .i64 l.length)::T,(0,some (0,.cells [.sl 3 (l.map ComR.enc)]))::H,c⟩,[.t 4],1⟩ ⟨.int .i64 (bb eC rest),[(true,.cells [.sl 3 (l.map ComR.enc)])]⟩
 | [],done,T,H,c,n,e,hn=>by
  have hd:l.length=done.length:=by simp[e]
  refine evl ?_
  repeat' (first|refine ae ?_|(refine aa ?_ ?_<;>intro h))
  (conv=>whnf);first|refine bg [(0,_,_)] [] [true] ?_|refine bh [(0,_,_)] [] [true] ?_
  rfl
 |x::r,done,T,H,c,n,e,hn=>by
  have hd:l.length=done.length+(r.length+1):=by simp[e]
  have h1:=ME l h hl done.length x (by simp[e])
  rw[←hn] at h1
  have ih:=fun T H c=>xA l h hl r (done++[x]) T H c (n+1) (by simp[e]) (by simp[hn])
  rw[bb]
  generalize eC x=E at*
  by_cases h0:E=0
  ·subst h0
   rw[if_pos rfl]
   refine evl ?_
   repeat' (first|refine ae ?_|refine kX [(0,_,_)] [] ⟨rfl,trivial⟩ trivial (h1) ?_|(refine aa ?_ ?_<;>intro h))
   refine ah [8,1,7] [0] ?_
   exact ih _ _ _
  ·rw[if_neg h0]
   refine evl ?_
   repeat' (first|refine ae ?_|refine kX [(0,_,_)] [] ⟨rfl,trivial⟩ trivial (h1) ?_|(refine aa ?_ ?_<;>intro h))
   (conv=>whnf);first|refine bg [(0,_,_)] [] [true] ?_|refine bh [(0,_,_)] [] [true] ?_
   rfl
theorem ML (l:List ComR) (h: ∀r∈l,True) (hl:l.length<2^40):aq G 511 [.int .i64 l.length,.fn 519 [.ref 0 0 0]] [.cells [.sl 3 (l.map ComR.enc)]] ⟨.int .i64 (bb eC l),[(true,.cells [.sl 3 (l.map ComR.enc)])]⟩:=by
 refine ab (F:=IY) rfl rfl (am 300 _ _ _ _ ?_)
 repeat' (first|refine ae ?_|(refine aa ?_ ?_<;>intro h))
 refine ah [8,1,7] [0] ?_
 exact xA l h hl l [] _ _ _ 0 rfl rfl
theorem LL (s:PSet) (g:s.good) (i:Nat) (x:ComL) (hx:s.comms[i]? =some x):aq G 517 [.int .i64 (i:Int),.ref 0 0 0] [.cells s.enc] ⟨.int .i64 x.rules.length,[(true,.cells s.enc)]⟩:=by
 have m1:(s.comms.map ComL.enc).length=s.comms.length:=by simp
 have m2:(x.rules.map ComR.enc).length=x.rules.length:=by simp
 have hx1:(s.comms.map ComL.enc)[((i:Nat):Int).toNat]? =some x.enc:=by simp[hx]
 have hi:i<s.comms.length:=(List.getElem?_eq_some_iff.1 hx).1
 have gl:=g.c
 refine ab (F:=Ye) rfl rfl (am 300 _ _ _ _ ?_)
 repeat' (first|refine ae ?_|(refine aa ?_ ?_<;>intro h))
 (conv=>whnf);first|refine bg [(0,_,_)] [] [true] ?_|refine bh [(0,_,_)] [] [true] ?_
 rw[m2];rfl
theorem Nd (s:PSet) (g:s.good) (i:Nat) (x:ComL) (hx:s.comms[i]? =some x):aq G 518 [.int .i64 (i:Int),.ref 0 0 0] [.cells s.enc] ⟨.int .i64 (bb eC x.rules),[(true,.cells s.enc)]⟩:=by
 have m1:(s.comms.map ComL.enc).length=s.comms.length:=by simp
 have m2:(x.rules.map ComR.enc).length=x.rules.length:=by simp
 have hx1:(s.comms.map ComL.enc)[((i:Nat):Int).toNat]? =some x.enc:=by simp[hx]
 have hi:i<s.comms.length:=(List.getElem?_eq_some_iff.1 hx).1
 have gl:=g.c
 obtain ⟨q1,q2,q3⟩:=g.com x (List.mem_of_getElem? hx)
 have h1:=ML x.rules (fun _ _=>trivial) q2
 rw[←m2] at h1
 generalize bb eC x.rules=E at*
 refine ab (F:=Yd) rfl rfl (am 300 _ _ _ _ ?_)
 repeat' (first|refine ae ?_|refine kX [(68,_,_)] [] ⟨rfl,trivial⟩ trivial (h1) ?_|(refine aa ?_ ?_<;>intro h))
 (conv=>whnf);first|refine bg [(0,_,_)] [] [true] ?_|refine bh [(0,_,_)] [] [true] ?_
 rfl
theorem xV (s:PSet) (g:s.good): ∀(rest done:List PList) (T:List (Nat×AV)) (H:ax) (c:Nat) (n:Int) (e:s.prefixes=done++rest) (hn:n=done.length),
  Ev G ⟨oe,⟨(16,.int .i64 n)::(2,.fn 510 [.ref 0 0 0])::(1,.fn 509 [.ref 0 0 0])::(0,.sl 1 ((s.prefixes.map PList.name).map bl))::(14,.sl 1 ((s.prefixes.map PList.name).map bl))::(15,.int .i64 s.prefixes.length)::T,(0,some (0,.cells s.enc))::H,c⟩,[.t 6],1⟩ ⟨.int .i64 (eaE PList.name (fun x:PList=>x.rules.length) (fun x=>bb ruE x.rules) done rest),[(true,.cells s.enc)]⟩
 | [],done,T,H,c,n,e,hn=>by
  have hd:s.prefixes.length=done.length:=by simp[e]
  refine evl ?_
  repeat' (first|refine ae ?_|(refine aa ?_ ?_<;>intro h))
  (conv=>whnf);first|refine bg [(0,_,_)] [] [true] ?_|refine bh [(0,_,_)] [] [true] ?_
  rfl
 |x::r,done,T,H,c,n,e,hn=>by
  have hd:s.prefixes.length=done.length+(r.length+1):=by simp[e]
  have gl:=g.a
  have m1:((s.prefixes.map PList.name).map bl).length=s.prefixes.length:=by simp
  have hx:((s.prefixes.map PList.name).map bl)[n.toNat]? =some [.str x.name]:=by simp[e,hn,bl]
  obtain ⟨q1,q2,q3⟩:=g.pre x (by simp[e])
  have h2:aq G 577 [.sl 1 (List.take (n.toNat-0) (List.drop 0 ((s.prefixes.map PList.name).map bl))),.str x.name] [] ⟨.int .i64 (iP (done.map PList.name) x.name),[]⟩:=by
   have h:=jZ (done.map PList.name) x.name q1 (by simp;omega)
   have q:List.take (n.toNat-0) (List.drop 0 ((s.prefixes.map PList.name).map bl))=(done.map PList.name).map bl:=by
    rw[e,hn];simp
   rw[q];exact h
  have h3:=LU s g done.length x (by simp[e])
  have h4:=Ng s g done.length x (by simp[e])
  rw[←hn] at h3 h4
  have ih:=fun T H c=>xV s g r (done++[x]) T H c (n+1) (by simp[e]) (by simp[hn])
  rw[eaE]
  generalize iP (done.map PList.name) x.name=A at*
  by_cases a:A=0
  ·subst a
   rw[if_pos rfl]
   by_cases b:64<x.rules.length
   ·rw[if_pos b]
    refine evl ?_
    repeat' (first|refine ae ?_|refine kX [(0,_,_)] [] ⟨rfl,trivial⟩ trivial (h3) ?_|(refine aa ?_ ?_<;>intro h))
    (conv=>whnf);first|refine bg [(0,_,_)] [] [true] ?_|refine bh [(0,_,_)] [] [true] ?_
    rfl
   ·rw[if_neg b]
    generalize bb ruE x.rules=E at*
    by_cases h0:E=0
    ·subst h0
     rw[if_pos rfl]
     refine evl ?_
     repeat' (first|refine ae ?_|refine kX [(0,_,_)] [] ⟨rfl,trivial⟩ trivial (h3) ?_|refine kX [(0,_,_)] [] ⟨rfl,trivial⟩ trivial (h4) ?_|(refine aa ?_ ?_<;>intro h))
     refine ah [16,2,1,0,14,15] [0] ?_
     exact ih _ _ _
    ·rw[if_neg h0]
     refine evl ?_
     repeat' (first|refine ae ?_|refine kX [(0,_,_)] [] ⟨rfl,trivial⟩ trivial (h3) ?_|refine kX [(0,_,_)] [] ⟨rfl,trivial⟩ trivial (h4) ?_|(refine aa ?_ ?_<;>intro h))
     (conv=>whnf);first|refine bg [(0,_,_)] [] [true] ?_|refine bh [(0,_,_)] [] [true] ?_
     rfl
  ·rw[if_neg a]
   refine evl ?_
   repeat' (first|refine ae ?_|(refine aa ?_ ?_<;>intro h))
   (conv=>whnf);first|refine bg [(0,_,_)] [] [true] ?_|refine bh [(0,_,_)] [] [true] ?_
   rfl
theorem M8 (s:PSet) (g:s.good):aq G 508 [.sl 1 ((s.prefixes.map PList.name).map bl),.fn 509 [.ref 0 0 0],.fn 510 [.ref 0 0 0]] [.cells s.enc] ⟨.int .i64 (if 64<s.prefixes.length then 4 else eaE PList.name (fun x:PList=>x.rules.length) (fun x=>bb ruE x.rules) [] s.prefixes),[(true,.cells s.enc)]⟩:=by
 have gl:=g.a
 have m1:((s.prefixes.map PList.name).map bl).length=s.prefixes.length:=by simp
 by_cases c:64<s.prefixes.length
 ·rw[if_pos c]
  refine ab (F:=oT) rfl rfl (am 300 _ _ _ _ ?_)
  repeat' (first|refine ae ?_|(refine aa ?_ ?_<;>intro h))
  (conv=>whnf);first|refine bg [(0,_,_)] [] [true] ?_|refine bh [(0,_,_)] [] [true] ?_
  rfl
 ·rw[if_neg c]
  refine ab (F:=oT) rfl rfl (am 300 _ _ _ _ ?_)
  repeat' (first|refine ae ?_|(refine aa ?_ ?_<;>intro h))
  refine ah [16,2,1,0,14,15] [0] ?_
  rw[m1]
  exact xV s g s.prefixes [] _ _ _ 0 rfl rfl
theorem xU (s:PSet) (g:s.good): ∀(rest done:List PathL) (T:List (Nat×AV)) (H:ax) (c:Nat) (n:Int) (e:s.paths=done++rest) (hn:n=done.length),
  Ev G ⟨oe,⟨(16,.int .i64 n)::(2,.fn 514 [.ref 0 0 0])::(1,.fn 513 [.ref 0 0 0])::(0,.sl 1 ((s.paths.map PathL.name).map bl))::(14,.sl 1 ((s.paths.map PathL.name).map bl))::(15,.int .i64 s.paths.length)::T,(0,some (0,.cells s.enc))::H,c⟩,[.t 6],1⟩ ⟨.int .i64 (eaE PathL.name (fun x:PathL=>x.rules.length) (fun x=>bb paE x.rules) done rest),[(true,.cells s.enc)]⟩
 | [],done,T,H,c,n,e,hn=>by
  have hd:s.paths.length=done.length:=by simp[e]
  refine evl ?_
  repeat' (first|refine ae ?_|(refine aa ?_ ?_<;>intro h))
  (conv=>whnf);first|refine bg [(0,_,_)] [] [true] ?_|refine bh [(0,_,_)] [] [true] ?_
  rfl
 |x::r,done,T,H,c,n,e,hn=>by
  have hd:s.paths.length=done.length+(r.length+1):=by simp[e]
  have gl:=g.b
  have m1:((s.paths.map PathL.name).map bl).length=s.paths.length:=by simp
  have hx:((s.paths.map PathL.name).map bl)[n.toNat]? =some [.str x.name]:=by simp[e,hn,bl]
  obtain ⟨q1,q2,q3⟩:=g.pat x (by simp[e])
  have h2:aq G 577 [.sl 1 (List.take (n.toNat-0) (List.drop 0 ((s.paths.map PathL.name).map bl))),.str x.name] [] ⟨.int .i64 (iP (done.map PathL.name) x.name),[]⟩:=by
   have h:=jZ (done.map PathL.name) x.name q1 (by simp;omega)
   have q:List.take (n.toNat-0) (List.drop 0 ((s.paths.map PathL.name).map bl))=(done.map PathL.name).map bl:=by
    rw[e,hn];simp
   rw[q];exact h
  have h3:=LR s g done.length x (by simp[e])
  have h4:=Nf s g done.length x (by simp[e])
  rw[←hn] at h3 h4
  have ih:=fun T H c=>xU s g r (done++[x]) T H c (n+1) (by simp[e]) (by simp[hn])
  rw[eaE]
  generalize iP (done.map PathL.name) x.name=A at*
  by_cases a:A=0
  ·subst a
   rw[if_pos rfl]
   by_cases b:64<x.rules.length
   ·rw[if_pos b]
    refine evl ?_
    repeat' (first|refine ae ?_|refine kX [(0,_,_)] [] ⟨rfl,trivial⟩ trivial (h3) ?_|(refine aa ?_ ?_<;>intro h))
    (conv=>whnf);first|refine bg [(0,_,_)] [] [true] ?_|refine bh [(0,_,_)] [] [true] ?_
    rfl
   ·rw[if_neg b]
    generalize bb paE x.rules=E at*
    by_cases h0:E=0
    ·subst h0
     rw[if_pos rfl]
     refine evl ?_
     repeat' (first|refine ae ?_|refine kX [(0,_,_)] [] ⟨rfl,trivial⟩ trivial (h3) ?_|refine kX [(0,_,_)] [] ⟨rfl,trivial⟩ trivial (h4) ?_|(refine aa ?_ ?_<;>intro h))
     refine ah [16,2,1,0,14,15] [0] ?_
     exact ih _ _ _
    ·rw[if_neg h0]
     refine evl ?_
     repeat' (first|refine ae ?_|refine kX [(0,_,_)] [] ⟨rfl,trivial⟩ trivial (h3) ?_|refine kX [(0,_,_)] [] ⟨rfl,trivial⟩ trivial (h4) ?_|(refine aa ?_ ?_<;>intro h))
     (conv=>whnf);first|refine bg [(0,_,_)] [] [true] ?_|refine bh [(0,_,_)] [] [true] ?_
     rfl
  ·rw[if_neg a]
   refine evl ?_
   repeat' (first|refine ae ?_|(refine aa ?_ ?_<;>intro h))
   (conv=>whnf);first|refine bg [(0,_,_)] [] [true] ?_|refine bh [(0,_,_)] [] [true] ?_
   rfl
theorem MZ (s:PSet) (g:s.good):aq G 508 [.sl 1 ((s.paths.map PathL.name).map bl),.fn 513 [.ref 0 0 0],.fn 514 [.ref 0 0 0]] [.cells s.enc] ⟨.int .i64 (if 64<s.paths.length then 4 else eaE PathL.name (fun x:PathL=>x.rules.length) (fun x=>bb paE x.rules) [] s.paths),[(true,.cells s.enc)]⟩:=by
 have gl:=g.b
 have m1:((s.paths.map PathL.name).map bl).length=s.paths.length:=by simp
 by_cases c:64<s.paths.length
 ·rw[if_pos c]
  refine ab (F:=oT) rfl rfl (am 300 _ _ _ _ ?_)
  repeat' (first|refine ae ?_|(refine aa ?_ ?_<;>intro h))
  (conv=>whnf);first|refine bg [(0,_,_)] [] [true] ?_|refine bh [(0,_,_)] [] [true] ?_
  rfl
 ·rw[if_neg c]
  refine ab (F:=oT) rfl rfl (am 300 _ _ _ _ ?_)
  repeat' (first|refine ae ?_|(refine aa ?_ ?_<;>intro h))
  refine ah [16,2,1,0,14,15] [0] ?_
  rw[m1]
  exact xU s g s.paths [] _ _ _ 0 rfl rfl
theorem xT (s:PSet) (g:s.good): ∀(rest done:List ComL) (T:List (Nat×AV)) (H:ax) (c:Nat) (n:Int) (e:s.comms=done++rest) (hn:n=done.length),
  Ev G ⟨oe,⟨(16,.int .i64 n)::(2,.fn 518 [.ref 0 0 0])::(1,.fn 517 [.ref 0 0 0])::(0,.sl 1 ((s.comms.map ComL.name).map bl))::(14,.sl 1 ((s.comms.map ComL.name).map bl))::(15,.int .i64 s.comms.length)::T,(0,some (0,.cells s.enc))::H,c⟩,[.t 6],1⟩ ⟨.int .i64 (eaE ComL.name (fun x:ComL=>x.rules.length) (fun x=>bb eC x.rules) done rest),[(true,.cells s.enc)]⟩
 | [],done,T,H,c,n,e,hn=>by
  have hd:s.comms.length=done.length:=by simp[e]
  refine evl ?_
  repeat' (first|refine ae ?_|(refine aa ?_ ?_<;>intro h))
  (conv=>whnf);first|refine bg [(0,_,_)] [] [true] ?_|refine bh [(0,_,_)] [] [true] ?_
  rfl
 |x::r,done,T,H,c,n,e,hn=>by
  have hd:s.comms.length=done.length+(r.length+1):=by simp[e]
  have gl:=g.c
  have m1:((s.comms.map ComL.name).map bl).length=s.comms.length:=by simp
  have hx:((s.comms.map ComL.name).map bl)[n.toNat]? =some [.str x.name]:=by simp[e,hn,bl]
  obtain ⟨q1,q2,q3⟩:=g.com x (by simp[e])
  have h2:aq G 577 [.sl 1 (List.take (n.toNat-0) (List.drop 0 ((s.comms.map ComL.name).map bl))),.str x.name] [] ⟨.int .i64 (iP (done.map ComL.name) x.name),[]⟩:=by
   have h:=jZ (done.map ComL.name) x.name q1 (by simp;omega)
   have q:List.take (n.toNat-0) (List.drop 0 ((s.comms.map ComL.name).map bl))=(done.map ComL.name).map bl:=by
    rw[e,hn];simp
   rw[q];exact h
  have h3:=LL s g done.length x (by simp[e])
  have h4:=Nd s g done.length x (by simp[e])
  rw[←hn] at h3 h4
  have ih:=fun T H c=>xT s g r (done++[x]) T H c (n+1) (by simp[e]) (by simp[hn])
  rw[eaE]
  generalize iP (done.map ComL.name) x.name=A at*
  by_cases a:A=0
  ·subst a
   rw[if_pos rfl]
   by_cases b:64<x.rules.length
   ·rw[if_pos b]
    refine evl ?_
    repeat' (first|refine ae ?_|refine kX [(0,_,_)] [] ⟨rfl,trivial⟩ trivial (h3) ?_|(refine aa ?_ ?_<;>intro h))
    (conv=>whnf);first|refine bg [(0,_,_)] [] [true] ?_|refine bh [(0,_,_)] [] [true] ?_
    rfl
   ·rw[if_neg b]
    generalize bb eC x.rules=E at*
    by_cases h0:E=0
    ·subst h0
     rw[if_pos rfl]
     refine evl ?_
     repeat' (first|refine ae ?_|refine kX [(0,_,_)] [] ⟨rfl,trivial⟩ trivial (h3) ?_|refine kX [(0,_,_)] [] ⟨rfl,trivial⟩ trivial (h4) ?_|(refine aa ?_ ?_<;>intro h))
     refine ah [16,2,1,0,14,15] [0] ?_
     exact ih _ _ _
    ·rw[if_neg h0]
     refine evl ?_
     repeat' (first|refine ae ?_|refine kX [(0,_,_)] [] ⟨rfl,trivial⟩ trivial (h3) ?_|refine kX [(0,_,_)] [] ⟨rfl,trivial⟩ trivial (h4) ?_|(refine aa ?_ ?_<;>intro h))
     (conv=>whnf);first|refine bg [(0,_,_)] [] [true] ?_|refine bh [(0,_,_)] [] [true] ?_
     rfl
  ·rw[if_neg a]
   refine evl ?_
   repeat' (first|refine ae ?_|(refine aa ?_ ?_<;>intro h))
   (conv=>whnf);first|refine bg [(0,_,_)] [] [true] ?_|refine bh [(0,_,_)] [] [true] ?_
   rfl
theorem MW (s:PSet) (g:s.good):aq G 508 [.sl 1 ((s.comms.map ComL.name).map bl),.fn 517 [.ref 0 0 0],.fn 518 [.ref 0 0 0]] [.cells s.enc] ⟨.int .i64 (if 64<s.comms.length then 4 else eaE ComL.name (fun x:ComL=>x.rules.length) (fun x=>bb eC x.rules) [] s.comms),[(true,.cells s.enc)]⟩:=by
 have gl:=g.c
 have m1:((s.comms.map ComL.name).map bl).length=s.comms.length:=by simp
 by_cases c:64<s.comms.length
 ·rw[if_pos c]
  refine ab (F:=oT) rfl rfl (am 300 _ _ _ _ ?_)
  repeat' (first|refine ae ?_|(refine aa ?_ ?_<;>intro h))
  (conv=>whnf);first|refine bg [(0,_,_)] [] [true] ?_|refine bh [(0,_,_)] [] [true] ?_
  rfl
 ·rw[if_neg c]
  refine ab (F:=oT) rfl rfl (am 300 _ _ _ _ ?_)
  repeat' (first|refine ae ?_|(refine aa ?_ ?_<;>intro h))
  refine ah [16,2,1,0,14,15] [0] ?_
  rw[m1]
  exact xT s g s.comms [] _ _ _ 0 rfl rfl
end Go.AM.IR
namespace Go.AM.IR
theorem LJ (s:PSet) (g:s.good) (i:Nat) (x:Pol) (hx:s.pols[i]? =some x):aq G 521 [.int .i64 (i:Int),.ref 0 0 0] [.cells s.enc] ⟨.int .i64 x.terms.length,[(true,.cells s.enc)]⟩:=by
 have m1:(s.pols.map Pol.enc).length=s.pols.length:=by simp
 have m2:(x.terms.map Trm.enc).length=x.terms.length:=by simp
 have hx1:(s.pols.map Pol.enc)[((i:Nat):Int).toNat]? =some x.enc:=by simp[hx]
 have hi:i<s.pols.length:=(List.getElem?_eq_some_iff.1 hx).1
 have gl:=g.d
 refine ab (F:=Yb) rfl rfl (am 300 _ _ _ _ ?_)
 repeat' (first|refine ae ?_|(refine aa ?_ ?_<;>intro h))
 (conv=>whnf);first|refine bg [(0,_,_)] [] [true] ?_|refine bh [(0,_,_)] [] [true] ?_
 rw[m2];rfl
theorem Nb (k:Kn) (hf:k.fit) (s:PSet) (g:s.good) (i:Nat) (x:Pol) (hx:s.pols[i]? =some x):aq G 522 [.int .i64 (i:Int),.ref 0 0 0,.ref 1 0 0] [.cells k.enc,.cells s.enc] ⟨.int .i64 (plE k x),[(true,.cells k.enc),(true,.cells s.enc)]⟩:=by
 have m1:(s.pols.map Pol.enc).length=s.pols.length:=by simp
 have hx1:(s.pols.map Pol.enc)[((i:Nat):Int).toNat]? =some x.enc:=by simp[hx]
 have hi:i<s.pols.length:=(List.getElem?_eq_some_iff.1 hx).1
 have gl:=g.d
 obtain ⟨q1,q2,q3⟩:=g.pol x (List.mem_of_getElem? hx)
 have h1:=Mf k hf x q2 q3
 generalize plE k x=E at*
 refine ab (F:=Ya) rfl rfl (am 300 _ _ _ _ ?_)
 repeat' (first|refine ae ?_|(refine aa ?_ ?_<;>intro h))
 (conv=>whnf);first|refine bg [(0,_,_),(1,_,_)] [] [true,true] ?_|refine bh [(0,_,_),(1,_,_)] [] [true,true] ?_
 rfl
theorem xQ (k:Kn) (hf:k.fit) (s:PSet) (g:s.good): ∀(rest done:List Pol) (T:List (Nat×AV)) (H:ax) (c:Nat) (n:Int) (e:s.pols=done++rest) (hn:n=done.length),
  Ev G ⟨oe,⟨(16,.int .i64 n)::(2,.fn 522 [.ref 0 0 0,.ref 1 0 0])::(1,.fn 521 [.ref 1 0 0])::(0,.sl 1 ((s.pols.map Pol.name).map bl))::(14,.sl 1 ((s.pols.map Pol.name).map bl))::(15,.int .i64 s.pols.length)::T,(0,some (0,.cells k.enc))::(1,some (0,.cells s.enc))::H,c⟩,[.t 6],2⟩ ⟨.int .i64 (eaE Pol.name (fun x:Pol=>x.terms.length) (plE k) done rest),[(true,.cells k.enc),(true,.cells s.enc)]⟩
 | [],done,T,H,c,n,e,hn=>by
  have hd:s.pols.length=done.length:=by simp[e]
  refine evl ?_
  repeat' (first|refine ae ?_|(refine aa ?_ ?_<;>intro h))
  (conv=>whnf);first|refine bg [(0,_,_),(1,_,_)] [] [true,true] ?_|refine bh [(0,_,_),(1,_,_)] [] [true,true] ?_
  rfl
 |x::r,done,T,H,c,n,e,hn=>by
  have hd:s.pols.length=done.length+(r.length+1):=by simp[e]
  have gl:=g.d
  have m1:((s.pols.map Pol.name).map bl).length=s.pols.length:=by simp
  have hx:((s.pols.map Pol.name).map bl)[n.toNat]? =some [.str x.name]:=by simp[e,hn,bl]
  obtain ⟨q1,q2,q3⟩:=g.pol x (by simp[e])
  have h2:aq G 577 [.sl 1 (List.take (n.toNat-0) (List.drop 0 ((s.pols.map Pol.name).map bl))),.str x.name] [] ⟨.int .i64 (iP (done.map Pol.name) x.name),[]⟩:=by
   have h:=jZ (done.map Pol.name) x.name q1 (by simp;omega)
   have q:List.take (n.toNat-0) (List.drop 0 ((s.pols.map Pol.name).map bl))=(done.map Pol.name).map bl:=by
    rw[e,hn];simp
   rw[q];exact h
  have h3:=LJ s g done.length x (by simp[e])
  have h4:=Nb k hf s g done.length x (by simp[e])
  rw[←hn] at h3 h4
  have ih:=fun T H c=>xQ k hf s g r (done++[x]) T H c (n+1) (by simp[e]) (by simp[hn])
  rw[eaE]
  generalize iP (done.map Pol.name) x.name=A at*
  by_cases a:A=0
  ·subst a
   rw[if_pos rfl]
   by_cases b:64<x.terms.length
   ·rw[if_pos b]
    refine evl ?_
    repeat' (first|refine ae ?_|refine kX [(1,_,_)] [] ⟨rfl,trivial⟩ trivial (h3) ?_|(refine aa ?_ ?_<;>intro h))
    (conv=>whnf);first|refine bg [(0,_,_),(1,_,_)] [] [true,true] ?_|refine bh [(0,_,_),(1,_,_)] [] [true,true] ?_
    rfl
   ·rw[if_neg b]
    generalize plE k x=E at*
    by_cases h0:E=0
    ·subst h0
     rw[if_pos rfl]
     refine evl ?_
     repeat' (first|refine ae ?_|refine kX [(1,_,_)] [] ⟨rfl,trivial⟩ trivial (h3) ?_|refine kX [(0,_,_),(1,_,_)] [] ⟨rfl,rfl,trivial⟩ trivial (h4) ?_|(refine aa ?_ ?_<;>intro h))
     refine ah [16,2,1,0,14,15] [0,1] ?_
     exact ih _ _ _
    ·rw[if_neg h0]
     refine evl ?_
     repeat' (first|refine ae ?_|refine kX [(1,_,_)] [] ⟨rfl,trivial⟩ trivial (h3) ?_|refine kX [(0,_,_),(1,_,_)] [] ⟨rfl,rfl,trivial⟩ trivial (h4) ?_|(refine aa ?_ ?_<;>intro h))
     (conv=>whnf);first|refine bg [(0,_,_),(1,_,_)] [] [true,true] ?_|refine bh [(0,_,_),(1,_,_)] [] [true,true] ?_
     rfl
  ·rw[if_neg a]
   refine evl ?_
   repeat' (first|refine ae ?_|(refine aa ?_ ?_<;>intro h))
   (conv=>whnf);first|refine bg [(0,_,_),(1,_,_)] [] [true,true] ?_|refine bh [(0,_,_),(1,_,_)] [] [true,true] ?_
   rfl
theorem MU (k:Kn) (hf:k.fit) (s:PSet) (g:s.good):aq G 508 [.sl 1 ((s.pols.map Pol.name).map bl),.fn 521 [.ref 1 0 0],.fn 522 [.ref 0 0 0,.ref 1 0 0]] [.cells k.enc,.cells s.enc] ⟨.int .i64 (if 64<s.pols.length then 4 else eaE Pol.name (fun x:Pol=>x.terms.length) (plE k) [] s.pols),[(true,.cells k.enc),(true,.cells s.enc)]⟩:=by
 have gl:=g.d
 have m1:((s.pols.map Pol.name).map bl).length=s.pols.length:=by simp
 by_cases c:64<s.pols.length
 ·rw[if_pos c]
  refine ab (F:=oT) rfl rfl (am 300 _ _ _ _ ?_)
  repeat' (first|refine ae ?_|(refine aa ?_ ?_<;>intro h))
  (conv=>whnf);first|refine bg [(0,_,_),(1,_,_)] [] [true,true] ?_|refine bh [(0,_,_),(1,_,_)] [] [true,true] ?_
  rfl
 ·rw[if_neg c]
  refine ab (F:=oT) rfl rfl (am 300 _ _ _ _ ?_)
  repeat' (first|refine ae ?_|(refine aa ?_ ?_<;>intro h))
  refine ah [16,2,1,0,14,15] [0,1] ?_
  rw[m1]
  exact xQ k hf s g s.pols [] _ _ _ 0 rfl rfl
end Go.AM.IR
namespace Go.AM.IR
theorem Ly:ba ⟨0,0⟩=true:=by rfl
theorem AB: ∀(l:List PList) (k:List UInt8),(lZ l k=none↔fg (l.map PList.name) k=false)
 | [],k=>by simp[lZ,fg]
 |x::r,k=>by
  have ih:=AB r k
  by_cases h:x.name=k
  ·simp[lZ,fg,h]
  ·simp only[lZ,if_neg h,ih];simp[fg,h]
theorem AX: ∀(l:List PathL) (k:List UInt8),(l6 l k=none↔fg (l.map PathL.name) k=false)
 | [],k=>by simp[l6,fg]
 |x::r,k=>by
  have ih:=AX r k
  by_cases h:x.name=k
  ·simp[l6,fg,h]
  ·simp only[l6,if_neg h,ih];simp[fg,h]
theorem Cy: ∀(l:List ComL) (k:List UInt8),(me l k=none↔fg (l.map ComL.name) k=false)
 | [],k=>by simp[me,fg]
 |x::r,k=>by
  have ih:=Cy r k
  by_cases h:x.name=k
  ·simp[me,fg,h]
  ·simp only[me,if_neg h,ih];simp[fg,h]
theorem aaE (s:PSet) (m:Mat):mtE (dv s) m=qn s m:=by
 have p1:=AB s.prefixes m.name
 have p2:=AX s.paths m.name
 have p3:=Cy s.comms m.name
 obtain ⟨kind,name,n,⟨pa,pl⟩,neg⟩:=m
 dsimp only at p1 p2 p3
 have hz:=Ly
 unfold mtE qn dv
 dsimp only
 by_cases k1:kind=1
 ·subst k1
  simp (decide:=true) only[if_true,if_false,reduceIte]
  unfold mtN qr
  dsimp only
  by_cases c:n=0∧pa=0∧pl=0
  ·obtain ⟨rfl,rfl,rfl⟩:=c
   simp only[p1]
   cases fg (s.prefixes.map PList.name) name<;>simp[hz]
  ·rw[if_neg c]
   (repeat' split)<;>first|rfl|(exfalso;(try simp only[ne_eq,Decidable.not_not] at*);omega)
 by_cases k2:kind=2
 ·subst k2
  simp (decide:=true) only[if_true,if_false,reduceIte]
  unfold mtN qq
  dsimp only
  by_cases c:n=0∧pa=0∧pl=0
  ·obtain ⟨rfl,rfl,rfl⟩:=c
   simp only[p2]
   cases fg (s.paths.map PathL.name) name<;>simp[hz]
  ·rw[if_neg c]
   (repeat' split)<;>first|rfl|(exfalso;(try simp only[ne_eq,Decidable.not_not] at*);omega)
 by_cases k3:kind=3
 ·subst k3
  simp (decide:=true) only[if_true,if_false,reduceIte]
  unfold mtN qp
  dsimp only
  by_cases c:n=0∧pa=0∧pl=0
  ·obtain ⟨rfl,rfl,rfl⟩:=c
   simp only[p3]
   cases fg (s.comms.map ComL.name) name<;>simp[hz]
  ·rw[if_neg c]
   (repeat' split)<;>first|rfl|(exfalso;(try simp only[ne_eq,Decidable.not_not] at*);omega)
 by_cases k7:kind=7
 ·subst k7
  simp (decide:=true) only[if_true,if_false,reduceIte]
  unfold mtH uv
  dsimp only
  by_cases c:name= []
  ·by_cases d:n=0
   ·simp only[c,d]
    cases ba ⟨pa,pl⟩<;>simp
   ·simp[c,d]
  ·simp[c]
 by_cases k4:kind=4
 ·subst k4
  simp (decide:=true) only[if_true,if_false,reduceIte]
  unfold mtR oL
  dsimp only
  by_cases c:name= []∧pa=0∧pl=0
  ·obtain ⟨rfl,rfl,rfl⟩:=c
   simp only[hz]
   (repeat' split)<;>first|rfl|(exfalso;simp_all;done)|(exfalso;simp_all;omega)
  ·rw[if_neg c]
   (repeat' split)<;>first|rfl|(exfalso;simp_all;done)|(exfalso;simp_all;omega)
 by_cases k6:kind=6
 ·subst k6
  simp (decide:=true) only[if_true,if_false,reduceIte]
  unfold mtR oG
  dsimp only
  by_cases c:name= []∧pa=0∧pl=0
  ·obtain ⟨rfl,rfl,rfl⟩:=c
   simp only[hz]
   (repeat' split)<;>first|rfl|(exfalso;simp_all;done)|(exfalso;simp_all;omega)
  ·rw[if_neg c]
   (repeat' split)<;>first|rfl|(exfalso;simp_all;done)|(exfalso;simp_all;omega)
 by_cases k8:kind=8
 ·subst k8
  simp (decide:=true) only[if_true,if_false,reduceIte]
  unfold mtR oE
  dsimp only
  by_cases c:name= []∧pa=0∧pl=0
  ·obtain ⟨rfl,rfl,rfl⟩:=c
   simp only[hz]
   (repeat' split)<;>first|rfl|(exfalso;simp_all;done)|(exfalso;simp_all;omega)
  ·rw[if_neg c]
   (repeat' split)<;>first|rfl|(exfalso;simp_all;done)|(exfalso;simp_all;omega)
 by_cases k5:kind=5
 ·subst k5
  simp (decide:=true) only[if_true,if_false,reduceIte]
  unfold mtR oH
  dsimp only
  by_cases c:name= []∧pa=0∧pl=0
  ·obtain ⟨rfl,rfl,rfl⟩:=c
   simp only[hz]
   (repeat' split)<;>first|rfl|(exfalso;simp_all;done)|(exfalso;simp_all;omega)
  ·rw[if_neg c]
   (repeat' split)<;>first|rfl|(exfalso;simp_all;done)|(exfalso;simp_all;omega)
 rw[if_neg k1,if_neg k2,if_neg k3,if_neg k7,if_neg k4,if_neg k6,if_neg k8,if_neg k5]
 (repeat' split)<;>first|rfl|(exfalso;omega)
end Go.AM.IR
namespace Go.AM.IR
theorem xz {α:Type} {f g:α→Int} (h: ∀x,f x=g x): ∀l:List α,bb f l=bb g l
 | []=>rfl
 |x::r=>by rw[bb,bb,h,xz h r]
theorem aaf (s:PSet) (d:List Trm) (t:Trm):rj (dv s) d t=tE1 s d t:=by
 unfold rj tE1 PW tE2
 rw[xz (aaE s)]
theorem Ae (s:PSet): ∀(r d:List Trm),mh (dv s) d r=ir s d r
 | [],_=>rfl
 |t::r,d=>by rw[mh,ir,aaf,Ae s r]
theorem Gz (name:List UInt8) (d:List (List UInt8)) (b:List UInt8) (fst:Bool) (n:Int) (hd:if fst=true then d= [] else d.getLast?=some b):fk name b fst n=if iP d name=0 then (if 64<n then 4 else 0) else iP d name:=by
 unfold fk iP
 by_cases h:nmB name=false
 ·rw[if_pos h,if_pos h];rfl
 ·rw[if_neg h,if_neg h]
  cases fst
  ·simp only[Bool.false_eq_true,if_false] at hd
   rw[hd]
   dsimp only
   by_cases q:(Op.bytesLess name b||name==b)=true
   ·rw[if_pos ⟨rfl,q⟩];simp only[if_pos q];rfl
   ·rw[if_neg (fun w=>q w.2)];simp only[if_neg q];rfl
  ·simp only[if_true] at hd
   subst hd
   rw[if_neg (by simp)];rfl
theorem oa {α β:Type} (rule:β→Int) (nm:α→List UInt8) (rules:α→List β): ∀(r d:List α) (b:List UInt8) (fst:Bool) (hd:if fst=true then d= [] else (d.map nm).getLast?=some b),
  eaE nm (fun x=>(rules x).length) (fun x=>bb rule (rules x)) d r=gW rule nm rules r b fst
 | [],_,_,_,_=>rfl
 |x::r,d,b,fst,hd=>by
  have hh:=Gz (nm x) (d.map nm) b fst ((rules x).length:Nat) (by cases fst<;>simp_all)
  have ih:=oa rule nm rules r (d++[x]) (nm x) false (by simp)
  rw[eaE,gW,hh,ih]
  by_cases a:iP (d.map nm) (nm x)=0
  ·rw[if_pos a,if_pos a]
   by_cases c:64<(rules x).length
   ·have c':(64:Int)<((rules x).length:Nat):=by omega
    simp[c,c']
   ·have c': ¬(64:Int)<((rules x).length:Nat):=by omega
    simp[c,c']
  ·rw[if_neg a,if_neg a,if_neg a]
theorem AA (s:PSet): ∀(r d:List Pol) (b:List UInt8) (fst:Bool) (hd:if fst=true then d= [] else (d.map Pol.name).getLast?=some b),
  eaE Pol.name (fun x=>x.terms.length) (plE (dv s)) d r=qf s r b fst
 | [],_,_,_,_=>rfl
 |x::r,d,b,fst,hd=>by
  have hh:=Gz x.name (d.map Pol.name) b fst (x.terms.length:Nat) (by cases fst<;>simp_all)
  have ih:=AA s r (d++[x]) x.name false (by simp)
  rw[eaE,qf,hh,ih]
  by_cases a:iP (d.map Pol.name) x.name=0
  ·rw[if_pos a,if_pos a]
   by_cases c:64<x.terms.length
   ·have c':(64:Int)<(x.terms.length:Nat):=by omega
    simp[c,c']
   ·have c': ¬(64:Int)<(x.terms.length:Nat):=by omega
    rw[if_neg c,plE,Ae]
    by_cases e:ir s [] x.terms=0
    ·simp[c',e]
    ·simp[c',e]
  ·rw[if_neg a,if_neg a,if_neg a]
end Go.AM.IR
namespace Go.AM.IR
def ZP:ACode→ACode
 | .seq _ (.seq _ r)=>r
 |c=>c
theorem nQ (s:PSet) (g:s.good) (h0:s.prefixes.length<2^30) (h1:s.paths.length<2^30) (h2:s.comms.length<2^30) (h3:s.pols.length<2^30):aq G 451 [.agg s.enc] [] ⟨.int .i64 (dw s),[]⟩:=by
 have hn:=Gy s g h0 h1 h2 h3
 have hf:(dv s).fit:=⟨by simp[dv];omega,by simp[dv];omega,by simp[dv];omega,by simp[dv];omega⟩
 have e1:=M8 s g
 have e2:=MZ s g
 have e3:=MW s g
 have e4:=MU (dv s) hf s g
 rw[oa ruE PList.name PList.rules s.prefixes [] [] true (by simp)] at e1
 rw[oa paE PathL.name PathL.rules s.paths [] [] true (by simp)] at e2
 rw[oa eC ComL.name ComL.rules s.comms [] [] true (by simp)] at e3
 rw[AA s s.pols [] [] true (by simp)] at e4
 have q1:(if 64<s.prefixes.length then 4 else gW ruE PList.name PList.rules s.prefixes [] true)=nr s.prefixes:=rfl
 have q2:(if 64<s.paths.length then 4 else gW paE PathL.name PathL.rules s.paths [] true)=nq s.paths:=rfl
 have q3:(if 64<s.comms.length then 4 else gW eC ComL.name ComL.rules s.comms [] true)=nn s.comms:=rfl
 rw[q1] at e1;rw[q2] at e2;rw[q3] at e3
 unfold dw
 generalize nr s.prefixes=E1 at*
 generalize nq s.paths=E2 at*
 generalize nn s.comms=E3 at*
 generalize (if 64<s.pols.length then 4 else qf s s.pols [] true)=E4 at*
 refine ab (F:=Jl) rfl rfl ?_
 refine Uf (a:=.region S9 false) (b:=.seq (.region Jk false) (ZP Jl.body)) ?_
 refine wd1 ?_
 repeat' (first|refine ae ?_|(refine aa ?_ ?_<;>intro h))
 refine Uf (a:=.region Jk false) (b:=ZP Jl.body) ?_
 refine wd1 ?_
 repeat' (first|refine ae ?_|(refine aa ?_ ?_<;>intro h))
 have hpz:(Blk.cells s.enc).pure=true:=by simp[Blk.pure]
 refine s8 [(70,_,_),(65606,_,_),(131142,_,_),(196678,_,_)] [1,3] [67] [65] ⟨rfl,frP,rfl,frP,rfl,frP,rfl,frP,trivial⟩ ?_;repeat ((conv=>whnf);first|refine frA ?_|intro T H)
 refine wk3 ?_
 by_cases c1:E1=0
 ·subst c1
  rw[if_pos rfl]
  by_cases c2:E2=0
  ·subst c2
   rw[if_pos rfl]
   by_cases c3:E3=0
   ·subst c3
    rw[if_pos rfl]
    repeat' (first|refine ae ?_|refine kX [(65,_,_)] [] ⟨rfl,trivial⟩ trivial (e1) ?_|refine kX [(65,_,_)] [] ⟨rfl,trivial⟩ trivial (e2) ?_|refine kX [(65,_,_)] [] ⟨rfl,trivial⟩ trivial (e3) ?_|refine kX [(67,_,_),(65,_,_)] [] ⟨rfl,rfl,trivial⟩ trivial (e4) ?_|(refine aa ?_ ?_<;>intro h))
    refine ag ?_;rfl
   ·rw[if_neg c3]
    repeat' (first|refine ae ?_|refine kX [(65,_,_)] [] ⟨rfl,trivial⟩ trivial (e1) ?_|refine kX [(65,_,_)] [] ⟨rfl,trivial⟩ trivial (e2) ?_|refine kX [(65,_,_)] [] ⟨rfl,trivial⟩ trivial (e3) ?_|(refine aa ?_ ?_<;>intro h))
    refine ag ?_;rfl
  ·rw[if_neg c2]
   repeat' (first|refine ae ?_|refine kX [(65,_,_)] [] ⟨rfl,trivial⟩ trivial (e1) ?_|refine kX [(65,_,_)] [] ⟨rfl,trivial⟩ trivial (e2) ?_|(refine aa ?_ ?_<;>intro h))
   refine ag ?_;rfl
 ·rw[if_neg c1]
  repeat' (first|refine ae ?_|refine kX [(65,_,_)] [] ⟨rfl,trivial⟩ trivial (e1) ?_|(refine aa ?_ ?_<;>intro h))
  refine ag ?_;rfl
end Go.AM.IR
