/- What functions of this program give. -/
import Derived.Test.YtomphmeopjpejaaGreatDoorDataO
set_option linter.unusedSectionVars false
set_option linter.unusedVariables false
set_option linter.unusedSimpArgs false
set_option maxHeartbeats 4000000
set_option maxRecDepth 20000
namespace Go.AM.IR
@[simp] theorem pB1 (nm:CF):aP (am nm)=true:=rfl
section
variable (pre:C3)(pa:C4)(co:C6)(po:C9)(t:CF)
def RK:C1:=mkR [(true,.cells [.vs 1 0 (pre.length+1),.vs 2 0 pa.length,.vs 3 0 co.length,.vs 4 0 po.length,.vs 5 0 (pre.length+1),.vs 6 0 pa.length,.vs 7 0 co.length,.vs 8 0 po.length,.int .i64 1,.bool false,.bool false]),(false,.vec 2 ((pre.map PList.enc)++[[.str t,.con (.slice none 0 0)]])),(true,.vec 2 (pa.map PathL.enc)),(true,.vec 2 (co.map ComL.enc)),(true,.vec 3 (po.map Pol.enc)),(false,.vec 1 (((pre.map PList.name).map am)++[[.str t]])),(true,.vec 1 ((pa.map PathL.name).map am)),(true,.vec 1 ((co.map ComL.name).map am)),(true,.vec 1 ((po.map Pol.name).map am))]
def RJ:C1:=mkR [(true,.cells [.vs 1 0 pre.length,.vs 2 0 (pa.length+1),.vs 3 0 co.length,.vs 4 0 po.length,.vs 5 0 pre.length,.vs 6 0 (pa.length+1),.vs 7 0 co.length,.vs 8 0 po.length,.int .i64 2,.bool false,.bool false]),(true,.vec 2 (pre.map PList.enc)),(false,.vec 2 ((pa.map PathL.enc)++[[.str t,.con (.slice none 0 0)]])),(true,.vec 2 (co.map ComL.enc)),(true,.vec 3 (po.map Pol.enc)),(true,.vec 1 ((pre.map PList.name).map am)),(false,.vec 1 (((pa.map PathL.name).map am)++[[.str t]])),(true,.vec 1 ((co.map ComL.name).map am)),(true,.vec 1 ((po.map Pol.name).map am))]
def RI:C1:=mkR [(true,.cells [.vs 1 0 pre.length,.vs 2 0 pa.length,.vs 3 0 (co.length+1),.vs 4 0 po.length,.vs 5 0 pre.length,.vs 6 0 pa.length,.vs 7 0 (co.length+1),.vs 8 0 po.length,.int .i64 3,.bool false,.bool false]),(true,.vec 2 (pre.map PList.enc)),(true,.vec 2 (pa.map PathL.enc)),(false,.vec 2 ((co.map ComL.enc)++[[.str t,.con (.slice none 0 0)]])),(true,.vec 3 (po.map Pol.enc)),(true,.vec 1 ((pre.map PList.name).map am)),(true,.vec 1 ((pa.map PathL.name).map am)),(false,.vec 1 (((co.map ComL.name).map am)++[[.str t]])),(true,.vec 1 ((po.map Pol.name).map am))]
def RH:C1:=mkR [(true,.cells [.vs 1 0 pre.length,.vs 2 0 pa.length,.vs 3 0 co.length,.vs 4 0 (po.length+1),.vs 5 0 pre.length,.vs 6 0 pa.length,.vs 7 0 co.length,.vs 8 0 (po.length+1),.int .i64 4,.bool true,.bool false]),(true,.vec 2 (pre.map PList.enc)),(true,.vec 2 (pa.map PathL.enc)),(true,.vec 2 (co.map ComL.enc)),(false,.vec 3 ((po.map Pol.enc)++[[.str t,.con (.slice none 0 0),.int .i64 0]])),(true,.vec 1 ((pre.map PList.name).map am)),(true,.vec 1 ((pa.map PathL.name).map am)),(true,.vec 1 ((co.map ComL.name).map am)),(false,.vec 1 (((po.map Pol.name).map am)++[[.str t]]))]
def QH (nm:CF)(rl:DF)(x:RuleP):C1:=mkR [(true,.cells [.vs 1 0 (pre.length+1),.vs 2 0 pa.length,.vs 3 0 co.length,.vs 4 0 po.length,.vs 5 0 (pre.length+1),.vs 6 0 pa.length,.vs 7 0 co.length,.vs 8 0 po.length,.int .i64 1,.bool false,.bool false]),(true,.nest 2 (pre.map PList.enc) [[AV.str nm,AV.vs 9 0 (rl.length+1)]]),(true,.vec 2 (pa.map PathL.enc)),(true,.vec 2 (co.map ComL.enc)),(true,.vec 3 (po.map Pol.enc)),(true,.vec 1 ((pre.map PList.name++[nm]).map am)),(true,.vec 1 ((pa.map PathL.name).map am)),(true,.vec 1 ((co.map ComL.name).map am)),(true,.vec 1 ((po.map Pol.name).map am)),(false,.vec 5 (rl.map RuleP.enc++[x.enc]))]
def Qz (nm:CF)(rl:DG)(x:PathR):C1:=mkR [(true,.cells [.vs 1 0 pre.length,.vs 2 0 (pa.length+1),.vs 3 0 co.length,.vs 4 0 po.length,.vs 5 0 pre.length,.vs 6 0 (pa.length+1),.vs 7 0 co.length,.vs 8 0 po.length,.int .i64 2,.bool false,.bool false]),(true,.vec 2 (pre.map PList.enc)),(true,.nest 2 (pa.map PathL.enc) [[AV.str nm,AV.vs 9 0 (rl.length+1)]]),(true,.vec 2 (co.map ComL.enc)),(true,.vec 3 (po.map Pol.enc)),(true,.vec 1 ((pre.map PList.name).map am)),(true,.vec 1 ((pa.map PathL.name++[nm]).map am)),(true,.vec 1 ((co.map ComL.name).map am)),(true,.vec 1 ((po.map Pol.name).map am)),(false,.vec 2 (rl.map PathR.enc++[x.enc]))]
end
section
variable (pre:C3)(pa:C4)(co:C6)(po:C9)(nm:CF)(ts:Da)(tn:CF)(ms:Ds)(acs:Dr)(v:Int)
def Qy (rl:DR)(x:ComR):C1:=mkR [(true,.cells [.vs 1 0 pre.length,.vs 2 0 pa.length,.vs 3 0 (co.length+1),.vs 4 0 po.length,.vs 5 0 pre.length,.vs 6 0 pa.length,.vs 7 0 (co.length+1),.vs 8 0 po.length,.int .i64 3,.bool false,.bool false]),(true,.vec 2 (pre.map PList.enc)),(true,.vec 2 (pa.map PathL.enc)),(true,.nest 2 (co.map ComL.enc) [[AV.str nm,AV.vs 9 0 (rl.length+1)]]),(true,.vec 3 (po.map Pol.enc)),(true,.vec 1 ((pre.map PList.name).map am)),(true,.vec 1 ((pa.map PathL.name).map am)),(true,.vec 1 ((co.map ComL.name++[nm]).map am)),(true,.vec 1 ((po.map Pol.name).map am)),(false,.vec 3 (rl.map ComR.enc++[x.enc]))]
def plR:C1:=mkR [(true,.cells [.vs 1 0 pre.length,.vs 2 0 pa.length,.vs 3 0 co.length,.vs 4 0 (po.length+1),.vs 5 0 pre.length,.vs 6 0 pa.length,.vs 7 0 co.length,.vs 8 0 (po.length+1),.int .i64 4,.bool false,.bool false]),(true,.vec 2 (pre.map PList.enc)),(true,.vec 2 (pa.map PathL.enc)),(true,.vec 2 (co.map ComL.enc)),(true,.nest 3 (po.map Pol.enc) [[AV.str nm,AV.vs 9 0 ts.length,AV.int .i64 v]]),(true,.vec 1 ((pre.map PList.name).map am)),(true,.vec 1 ((pa.map PathL.name).map am)),(true,.vec 1 ((co.map ComL.name).map am)),(true,.vec 1 ((po.map Pol.name++[nm]).map am)),(true,.vec 4 (ts.map Trm.enc))]
def QQ (t:CF):C1:=mkR [(true,.cells [.vs 1 0 pre.length,.vs 2 0 pa.length,.vs 3 0 co.length,.vs 4 0 (po.length+1),.vs 5 0 pre.length,.vs 6 0 pa.length,.vs 7 0 co.length,.vs 8 0 (po.length+1),.int .i64 4,.bool true,.bool true]),(true,.vec 2 (pre.map PList.enc)),(true,.vec 2 (pa.map PathL.enc)),(true,.vec 2 (co.map ComL.enc)),(true,.nest 3 (po.map Pol.enc) [[AV.str nm,AV.vs 9 0 (ts.length+1),AV.int .i64 0]]),(true,.vec 1 ((pre.map PList.name).map am)),(true,.vec 1 ((pa.map PathL.name).map am)),(true,.vec 1 ((co.map ComL.name).map am)),(true,.vec 1 ((po.map Pol.name++[nm]).map am)),(false,.vec 4 (ts.map Trm.enc++[[.str t,.con (.slice none 0 0),.con (.slice none 0 0),.int .i64 0]]))]
def teR:C1:=mkR [(true,.cells [.vs 1 0 pre.length,.vs 2 0 pa.length,.vs 3 0 co.length,.vs 4 0 (po.length+1),.vs 5 0 pre.length,.vs 6 0 pa.length,.vs 7 0 co.length,.vs 8 0 (po.length+1),.int .i64 4,.bool true,.bool false]),(true,.vec 2 (pre.map PList.enc)),(true,.vec 2 (pa.map PathL.enc)),(true,.vec 2 (co.map ComL.enc)),(true,.nest 3 (po.map Pol.enc) [[AV.str nm,AV.vs 9 0 (ts.length+1),AV.int .i64 0]]),(true,.vec 1 ((pre.map PList.name).map am)),(true,.vec 1 ((pa.map PathL.name).map am)),(true,.vec 1 ((co.map ComL.name).map am)),(true,.vec 1 ((po.map Pol.name++[nm]).map am)),(true,.nest 4 (ts.map Trm.enc) [[AV.str tn,AV.vs 10 0 ms.length,AV.vs 11 0 acs.length,AV.int .i64 v]]),(true,.vec 6 (ms.map Mat.enc)),(true,.vec 5 (acs.map Actn.enc))]
def teM (x:Mat):C1:=mkR [(true,.cells [.vs 1 0 pre.length,.vs 2 0 pa.length,.vs 3 0 co.length,.vs 4 0 (po.length+1),.vs 5 0 pre.length,.vs 6 0 pa.length,.vs 7 0 co.length,.vs 8 0 (po.length+1),.int .i64 4,.bool true,.bool true]),(true,.vec 2 (pre.map PList.enc)),(true,.vec 2 (pa.map PathL.enc)),(true,.vec 2 (co.map ComL.enc)),(true,.nest 3 (po.map Pol.enc) [[AV.str nm,AV.vs 9 0 (ts.length+1),AV.int .i64 0]]),(true,.vec 1 ((pre.map PList.name).map am)),(true,.vec 1 ((pa.map PathL.name).map am)),(true,.vec 1 ((co.map ComL.name).map am)),(true,.vec 1 ((po.map Pol.name++[nm]).map am)),(true,.nest 4 (ts.map Trm.enc) [[AV.str tn,AV.vs 10 0 (ms.length+1),AV.vs 11 0 acs.length,AV.int .i64 0]]),(false,.vec 6 (ms.map Mat.enc++[x.enc])),(true,.vec 5 (acs.map Actn.enc))]
def teA (x:Actn):C1:=mkR [(true,.cells [.vs 1 0 pre.length,.vs 2 0 pa.length,.vs 3 0 co.length,.vs 4 0 (po.length+1),.vs 5 0 pre.length,.vs 6 0 pa.length,.vs 7 0 co.length,.vs 8 0 (po.length+1),.int .i64 4,.bool true,.bool true]),(true,.vec 2 (pre.map PList.enc)),(true,.vec 2 (pa.map PathL.enc)),(true,.vec 2 (co.map ComL.enc)),(true,.nest 3 (po.map Pol.enc) [[AV.str nm,AV.vs 9 0 (ts.length+1),AV.int .i64 0]]),(true,.vec 1 ((pre.map PList.name).map am)),(true,.vec 1 ((pa.map PathL.name).map am)),(true,.vec 1 ((co.map ComL.name).map am)),(true,.vec 1 ((po.map Pol.name++[nm]).map am)),(true,.nest 4 (ts.map Trm.enc) [[AV.str tn,AV.vs 10 0 ms.length,AV.vs 11 0 (acs.length+1),AV.int .i64 0]]),(true,.vec 6 (ms.map Mat.enc)),(false,.vec 5 (acs.map Actn.enc++[x.enc]))]
end
theorem jK {α β:Type}{f:α->β}(h: ∀a b,f a=f b->a=b): ∀l r:List α,l.map f=r.map f->l=r
 | [],[],_=>rfl
 | [],_::_,e=>by simp at e
 |_::_,[],e=>by simp at e
 |a::l,b::r,e=>by
  simp only[Ao,List.cons.injEq] at e;rw[h _ _ e.1,jK h l r e.2]
theorem RuleP.enc_i: ∀a b:RuleP,a.enc=b.enc->a=b:=by
 rintro ⟨a1,⟨a2,l2⟩,a3,a4⟩ ⟨a1',⟨a'2,l'2⟩,a3',a4'⟩ h
 simp only[RuleP.enc,List.cons.injEq,AV.str.injEq,AV.int.injEq,AV.bool.injEq,AV.sl.injEq,true_and,and_true] at h;obtain ⟨rfl,rfl,rfl,rfl,rfl⟩:=h;rfl
theorem PathR.enc_i: ∀a b:PathR,a.enc=b.enc->a=b:=by
 rintro ⟨a1,a2⟩ ⟨a1',a2'⟩ h
 simp only[PathR.enc,List.cons.injEq,AV.str.injEq,AV.int.injEq,AV.bool.injEq,AV.sl.injEq,true_and,and_true] at h;obtain ⟨rfl,rfl⟩:=h;rfl
theorem ComR.enc_i: ∀a b:ComR,a.enc=b.enc->a=b:=by
 rintro ⟨a1,a2,a3⟩ ⟨a1',a2',a3'⟩ h
 simp only[ComR.enc,List.cons.injEq,AV.str.injEq,AV.int.injEq,AV.bool.injEq,AV.sl.injEq,true_and,and_true] at h;obtain ⟨rfl,rfl,rfl⟩:=h;rfl
theorem Mat.enc_i: ∀a b:Mat,a.enc=b.enc->a=b:=by
 rintro ⟨a1,a2,a3,⟨a4,l4⟩,a5⟩ ⟨a1',a2',a3',⟨a'4,l'4⟩,a5'⟩ h
 simp only[Mat.enc,List.cons.injEq,AV.str.injEq,AV.int.injEq,AV.bool.injEq,AV.sl.injEq,true_and,and_true] at h;obtain ⟨rfl,rfl,rfl,rfl,rfl,rfl⟩:=h;rfl
theorem Actn.enc_i: ∀a b:Actn,a.enc=b.enc->a=b:=by
 rintro ⟨a1,a2,a3,a4,a5⟩ ⟨a1',a2',a3',a4',a5'⟩ h
 simp only[Actn.enc,List.cons.injEq,AV.str.injEq,AV.int.injEq,AV.bool.injEq,AV.sl.injEq,true_and,and_true] at h;obtain ⟨rfl,rfl,rfl,rfl,rfl⟩:=h;rfl
theorem PList.enc_i: ∀a b:PList,a.enc=b.enc->a=b:=by
 rintro ⟨a1,a2⟩ ⟨a1',a2'⟩ h
 simp only[PList.enc,List.cons.injEq,AV.str.injEq,AV.int.injEq,AV.bool.injEq,AV.sl.injEq,true_and,and_true] at h;obtain ⟨rfl,xh⟩:=h;have xh:=jK RuleP.enc_i _ _ xh;subst xh;rfl
theorem PathL.enc_i: ∀a b:PathL,a.enc=b.enc->a=b:=by
 rintro ⟨a1,a2⟩ ⟨a1',a2'⟩ h
 simp only[PathL.enc,List.cons.injEq,AV.str.injEq,AV.int.injEq,AV.bool.injEq,AV.sl.injEq,true_and,and_true] at h;obtain ⟨rfl,xh⟩:=h;have xh:=jK PathR.enc_i _ _ xh;subst xh;rfl
theorem ComL.enc_i: ∀a b:ComL,a.enc=b.enc->a=b:=by
 rintro ⟨a1,a2⟩ ⟨a1',a2'⟩ h
 simp only[ComL.enc,List.cons.injEq,AV.str.injEq,AV.int.injEq,AV.bool.injEq,AV.sl.injEq,true_and,and_true] at h;obtain ⟨rfl,xh⟩:=h;have xh:=jK ComR.enc_i _ _ xh;subst xh;rfl
theorem Trm.enc_i: ∀a b:Trm,a.enc=b.enc->a=b:=by
 rintro ⟨a1,a2,a3,a4⟩ ⟨a1',a2',a3',a4'⟩ h
 simp only[Trm.enc,List.cons.injEq,AV.str.injEq,AV.int.injEq,AV.bool.injEq,AV.sl.injEq,true_and,and_true] at h;obtain ⟨rfl,xh,yh,rfl⟩:=h;have xh:=jK Mat.enc_i _ _ xh;subst xh;have yh:=jK Actn.enc_i _ _ yh;subst yh;rfl
theorem Pol.enc_i: ∀a b:Pol,a.enc=b.enc->a=b:=by
 rintro ⟨a1,a2,a3⟩ ⟨a1',a2',a3'⟩ h
 simp only[Pol.enc,List.cons.injEq,AV.str.injEq,AV.int.injEq,AV.bool.injEq,AV.sl.injEq,true_and,and_true] at h;obtain ⟨rfl,xh,rfl⟩:=h;have xh:=jK Trm.enc_i _ _ xh;subst xh;rfl
theorem agt {α:Type}{a b:List α}{x y:α}:a++[x]=b++[y]↔a=b/\x=y:=by
 constructor
 ·intro h
  obtain ⟨h1,h2⟩:=List.append_inj' h rfl;exact ⟨h1,by simpa using h2⟩
 ·rintro ⟨rfl,rfl⟩;rfl
theorem RuleP.mapE (l r:DF):l.map RuleP.enc=r.map RuleP.enc↔l=r:=⟨jK RuleP.enc_i l r,λh=>by rw[h]⟩
theorem PathR.mapE (l r:DG):l.map PathR.enc=r.map PathR.enc↔l=r:=⟨jK PathR.enc_i l r,λh=>by rw[h]⟩
theorem ComR.mapE (l r:DR):l.map ComR.enc=r.map ComR.enc↔l=r:=⟨jK ComR.enc_i l r,λh=>by rw[h]⟩
theorem Mat.mapE (l r:Ds):l.map Mat.enc=r.map Mat.enc↔l=r:=⟨jK Mat.enc_i l r,λh=>by rw[h]⟩
theorem Actn.mapE (l r:Dr):l.map Actn.enc=r.map Actn.enc↔l=r:=⟨jK Actn.enc_i l r,λh=>by rw[h]⟩
theorem PList.mapE (l r:C3):l.map PList.enc=r.map PList.enc↔l=r:=⟨jK PList.enc_i l r,λh=>by rw[h]⟩
theorem PathL.mapE (l r:C4):l.map PathL.enc=r.map PathL.enc↔l=r:=⟨jK PathL.enc_i l r,λh=>by rw[h]⟩
theorem ComL.mapE (l r:C6):l.map ComL.enc=r.map ComL.enc↔l=r:=⟨jK ComL.enc_i l r,λh=>by rw[h]⟩
theorem Trm.mapE (l r:Da):l.map Trm.enc=r.map Trm.enc↔l=r:=⟨jK Trm.enc_i l r,λh=>by rw[h]⟩
theorem Pol.mapE (l r:C9):l.map Pol.enc=r.map Pol.enc↔l=r:=⟨jK Pol.enc_i l r,λh=>by rw[h]⟩
theorem Yg (a b:PS)(h:bt a=bt b):a=b:=by
 cases a<;>cases b<;>simp only[bt,List.cons.injEq,Blk.cells.injEq,Blk.vec.injEq,AV.vs.injEq,AV.int.injEq,AV.bool.injEq,AV.str.injEq,agt,RuleP.mapE,PathR.mapE,ComR.mapE,Mat.mapE,Actn.mapE,PList.mapE,PathL.mapE,ComL.mapE,Trm.mapE,Pol.mapE,true_and,and_true,reduceCtorEq,false_and,and_false] at h
 all_goals first
  |(exfalso;revert h;decide)
  |(exfalso;omega)
  |simp only[PS.top.injEq,PS.pre.injEq,PS.pat.injEq,PS.com.injEq,PS.pol.injEq,PS.term.injEq,h,and_self]
def rE (e z:Int)(st:PS):Ret:=⟨.int .i64 e,ol z st⟩
def rO (R:C1):Ret:=⟨.int .i64 0,R⟩
def rdHd (st:PS)(so k:Int)(ks:C5)(t:CF)(R:C1):Ret:=zH (λe z=>rE e z st) so k ks t (rO R)
def rdT:PS->CF->Ret
 | .top pre pa co po so,s=>tZ s so (λe z=>rE e z (.top pre pa co po so)) (pre.map PList.name) (pa.map PathL.name) (co.map ComL.name) (po.map Pol.name) (λt=>rO (RK pre pa co po t)) (λt=>rO (RJ pre pa co po t)) (λt=>rO (RI pre pa co po t)) (λt=>rO (RH pre pa co po t))
 | .pre pre pa co po nm rl,s=>BQ s rl.length (λe=>rE e 0 (.pre pre pa co po nm rl)) (rO (QH pre pa co po nm rl ⟨(J.plP s).1.permit,(J.plP s).1.pfx,(J.plP s).1.min,(J.plP s).1.max⟩))
 | .pat pre pa co po nm rl,s=>w5 s rl.length (λe=>rE e 0 (.pat pre pa co po nm rl)) (λb t=>rO (Qz pre pa co po nm rl ⟨b,t⟩))
 | .com pre pa co po nm rl,s=>w6 s rl.length (λe=>rE e 0 (.com pre pa co po nm rl)) (λb t=>rO (Qy pre pa co po nm rl (jc b t rl.length).2))
 | .pol pre pa co po nm ts,s=>Lr s ts.length (f9 ⟨pre.map PList.name,pa.map PathL.name,co.map ComL.name,po.map Pol.name++[nm]⟩ ts ⟨(ax s).2,[],[],1⟩) (λe=>rE e 4 (.pol pre pa co po nm ts)) (λv=>rO (plR pre pa co po nm ts v)) (rO (QQ pre pa co po nm ts (ax s).2))
 | .term pre pa co po nm ts tn ms acs,s=>Lq s ms.length acs.length (mtE ⟨pre.map PList.name,pa.map PathL.name,co.map ComL.name,po.map Pol.name++[nm]⟩) (λe=>rE e 4 (.term pre pa co po nm ts tn ms acs)) (λv=>rO (teR pre pa co po nm ts tn ms acs v)) (λx=>rO (teM pre pa co po nm ts tn ms acs x)) (λx=>rO (teA pre pa co po nm ts tn ms acs x))
def PS.fit:PS->Prop
 | .top p1 pa co po _=>p1.length<2^30/\pa.length<2^30/\co.length<2^30/\po.length<2^30
 | .pre p1 pa co po _ _| .pat p1 pa co po _ _| .com p1 pa co po _ _=>p1.length<2^30/\pa.length<2^30/\co.length<2^30/\po.length<2^30
 | .pol p1 pa co po _ ts=>p1.length<2^30/\pa.length<2^30/\co.length<2^30/\po.length<2^30/\ts.length<2^30
 | .term p1 pa co po _ ts _ ms acs=>p1.length<2^30/\pa.length<2^30/\co.length<2^30/\po.length<2^30/\ts.length<2^30/\ms.length<2^30/\acs.length<2^30
def PS.shut:PS->CF->Prop
 | .top _ _ _ _ so,s=>bH (ax s).1=0->so≠1/\so≠2/\so≠3
 | .pre ..,s| .pat ..,s| .com ..,s=>bH (ax s).1=0
 |_,_=>True
theorem Vk {pre:C3}{pa:C4}{co:C6}{po:C9}{nm:CF}(l1:pre.length<2^30)(l2:pa.length<2^30)(l3:co.length<2^30)(l4:po.length<2^30):Kn.fit ⟨pre.map PList.name,pa.map PathL.name,co.map ComL.name,po.map Pol.name++[nm]⟩:=
 ⟨by simp only[At];omega,by simp only[At];omega,by simp only[At];omega,by simp only[At,Ar,List.length_singleton];omega⟩
theorem Yc (st:PS)(s:CF)(hs:s.length<2^30)(hf:st.fit)(hsh:st.shut s):dw (bt st) s (rdT st s):=by
 cases st with
 |top pre pa co po so=>
  obtain ⟨l1,l2,l3,l4⟩:=hf;have h:=gtop (pre.map PList.enc) (pa.map PathL.enc) (co.map ComL.enc) (po.map Pol.enc) (by simp) (by simp) (by simp) (by simp) (pre.map PList.name) (pa.map PathL.name) (co.map ComL.name) (po.map Pol.name) so (by simpa using l1) (by simpa using l2) (by simpa using l3) (by simpa using l4) (by simpa using l1) (by simpa using l2) (by simpa using l3) (by simpa using l4) s hs hsh
  simp only[bP,rP,At,Ar,List.length_singleton] at h;exact h
 |pre pre pa co po nm rl=>
  obtain ⟨l1,l2,l3,l4⟩:=hf;have h:=gr1 (pre.map PList.enc) (pa.map PathL.enc) (co.map ComL.enc) (po.map Pol.enc) (rl.map RuleP.enc) (by simp) (by simp) (by simp) (by simp) (by simp) (pre.map PList.name++[nm]) (pa.map PathL.name) (co.map ComL.name) (po.map Pol.name) nm (pre.length+1) (by simpa using l1) (by simpa using l2) (by simpa using l3) (by simpa using l4) (by simp) s hs hsh
  simp only[bP,rP,At,Ar,List.length_singleton] at h;exact h
 |pat pre pa co po nm rl=>
  obtain ⟨l1,l2,l3,l4⟩:=hf;have h:=gr2 (pre.map PList.enc) (pa.map PathL.enc) (co.map ComL.enc) (po.map Pol.enc) (rl.map PathR.enc) (by simp) (by simp) (by simp) (by simp) (by simp) (pre.map PList.name) (pa.map PathL.name++[nm]) (co.map ComL.name) (po.map Pol.name) nm (pa.length+1) (by simpa using l1) (by simpa using l2) (by simpa using l3) (by simpa using l4) (by simp) s hs hsh
  simp only[bP,rP,At,Ar,List.length_singleton] at h;exact h
 |com pre pa co po nm rl=>
  obtain ⟨l1,l2,l3,l4⟩:=hf;have h:=gr3 (pre.map PList.enc) (pa.map PathL.enc) (co.map ComL.enc) (po.map Pol.enc) (rl.map ComR.enc) (by simp) (by simp) (by simp) (by simp) (by simp) (pre.map PList.name) (pa.map PathL.name) (co.map ComL.name++[nm]) (po.map Pol.name) nm (co.length+1) (by simpa using l1) (by simpa using l2) (by simpa using l3) (by simpa using l4) (by simp) s hs hsh
  simp only[bP,rP,At,Ar,List.length_singleton] at h;exact h
 |pol pre pa co po nm ts=>
  obtain ⟨l1,l2,l3,l4,lt⟩:=hf;have h:=gpo (pre.map PList.enc) (pa.map PathL.enc) (co.map ComL.enc) (po.map Pol.enc) (by simp) (by simp) (by simp) (by simp) (pre.map PList.name) (pa.map PathL.name) (co.map ComL.name) (po.map Pol.name++[nm]) 4 nm (po.length+1) (by simp) (by simpa using l4) ts lt (Vk l1 l2 l3 l4) s hs
  simp only[bP,rP,At,Ar,List.length_singleton] at h;exact h
 |term pre pa co po nm ts tn ms acs=>
  obtain ⟨l1,l2,l3,l4,lt,lm,la⟩:=hf;have h:=gtr (pre.map PList.enc) (pa.map PathL.enc) (co.map ComL.enc) (po.map Pol.enc) (by simp) (by simp) (by simp) (by simp) (pre.map PList.name) (pa.map PathL.name) (co.map ComL.name) (po.map Pol.name++[nm]) 4 nm (po.length+1) (by simp) (by simpa using l4) ts lt (Vk l1 l2 l3 l4) s hs tn ms lm acs la (ts.length+1) rfl
  simp only[bP,rP,At,Ar,List.length_singleton] at h;exact h
open Classical in
noncomputable def Ig (bs:Dn)(s:CF):Df:=if h: ∃st,bt st=bs/\dw (bt st) s (rdT st s) then some (rdT (Classical.choose h) s) else none
noncomputable def pRd:CL->Dn->Df
 | [.ref 0 0 0,.str s],bs=>Ig bs s
 |_,_=>none
theorem aep {st:PS}{s:CF}(h:dw (bt st) s (rdT st s)):pRd [.ref 0 0 0,.str s] (bt st)=some (rdT st s):=by
 have hx: ∃st',bt st'=bt st/\dw (bt st') s (rdT st' s):=⟨st,rfl,h⟩
 show Ig (bt st) s=_
 unfold Ig;rw[dif_pos hx,Yg _ _ (Classical.choose_spec hx).1]
noncomputable def GR (f:Nat):Fun:=bif Nat.beq f 466 then .prim false pRd else G f
def PS.close:PS->CF->PS
 | .pre p1 pa co po nm rl,s=>if bH (ax s).1=0 then .pre p1 pa co po nm rl else .top (p1++[⟨nm,rl⟩]) pa co po 1
 | .pat p1 pa co po nm rl,s=>if bH (ax s).1=0 then .pat p1 pa co po nm rl else .top p1 (pa++[⟨nm,rl⟩]) co po 2
 | .com p1 pa co po nm rl,s=>if bH (ax s).1=0 then .com p1 pa co po nm rl else .top p1 pa (co++[⟨nm,rl⟩]) po 3
 |st,_=>st
inductive OkR:PS->PS->C1->Prop
 |h1 (pre pa co po so t):OkR (.top pre pa co po so) (.pre pre pa co po t []) (RK pre pa co po t)
 |h2 (pre pa co po so t):OkR (.top pre pa co po so) (.pat pre pa co po t []) (RJ pre pa co po t)
 |h3 (pre pa co po so t):OkR (.top pre pa co po so) (.com pre pa co po t []) (RI pre pa co po t)
 |h4 (pre pa co po so t):OkR (.top pre pa co po so) (.pol pre pa co po t []) (RH pre pa co po t)
 |r1 (pre pa co po nm rl x):rl.length<64->OkR (.pre pre pa co po nm rl) (.pre pre pa co po nm (rl++[x])) (QH pre pa co po nm rl x)
 |r2 (pre pa co po nm rl x):rl.length<64->OkR (.pat pre pa co po nm rl) (.pat pre pa co po nm (rl++[x])) (Qz pre pa co po nm rl x)
 |r3 (pre pa co po nm rl x):OkR (.com pre pa co po nm rl) (.com pre pa co po nm (rl++[x])) (Qy pre pa co po nm rl x)
 |pl (pre pa co po nm ts v):OkR (.pol pre pa co po nm ts) (.top pre pa co (po++[⟨nm,ts,v⟩]) 4) (plR pre pa co po nm ts v)
 |pt (pre pa co po nm ts t):ts.length<64->OkR (.pol pre pa co po nm ts) (.term pre pa co po nm ts t [] []) (QQ pre pa co po nm ts t)
 |te (pre pa co po nm ts tn ms acs v):OkR (.term pre pa co po nm ts tn ms acs) (.pol pre pa co po nm (ts++[⟨tn,ms,acs,v⟩])) (teR pre pa co po nm ts tn ms acs v)
 |tm (pre pa co po nm ts tn ms acs x):ms.length<64->OkR (.term pre pa co po nm ts tn ms acs) (.term pre pa co po nm ts tn (ms++[x]) acs) (teM pre pa co po nm ts tn ms acs x)
 |ta (pre pa co po nm ts tn ms acs x):acs.length<64->OkR (.term pre pa co po nm ts tn ms acs) (.term pre pa co po nm ts tn ms (acs++[x])) (teA pre pa co po nm ts tn ms acs x)
def rF (o:PO)(st:PS)(r:Ret):Prop:=(∃e z,e≠0/\o= .err e/\r=rE e z st)∨ ∃st' R,o= .ok st'/\r=rO R/\OkR st st' R
theorem cx {st:PS}{e z:Int}(h:e≠0):rF (.err e) st (rE e z st):=.inl ⟨e,z,h,rfl,rfl⟩
theorem il {st st':PS}{R:C1}(h:OkR st st' R):rF (.ok st') st (rO R):=.inr ⟨st',R,rfl,rfl,h⟩
theorem nn1 {p:Prop}(h:p): ¬ ¬p:=λq=>q h
theorem nn2 {α:Type}{a b:α}(h:a=b): ¬(a≠b):=λq=>q h
theorem um {st st':PS}{so k:Int}{ks:C5}{t:CF}{R:C1}(h:OkR st st' R):rF (hdO (hdE so k ks t) st') st (rdHd st so k ks t R):=by
 unfold hdO hdE rdHd zH
 by_cases h1:so<=k
 ·simp only[Ac (nn1 h1)]
  by_cases h2:bv t=true
  ·simp only[Ac (nn1 h2)]
   by_cases h3:64<=ks.length
   ·simp only[Ad h3,Ac (show¬(4:Int)=0 by decide)];exact cx (by decide)
   ·simp only[Ac h3]
    by_cases h4:cq ks t=0
    ·simp only[Ad h4,Ac (nn2 h4)];exact il h
    ·simp only[Ac h4,Ad h4];exact cx h4
  ·simp only[Ad h2,Ac (show¬(2:Int)=0 by decide)];exact cx (by decide)
 ·simp only[Ad h1,Ac (show¬(2:Int)=0 by decide)];exact cx (by decide)
theorem uo (pre pa co po so)(s:CF)(h0:bH (ax s).1≠0):rF (lr pre pa co po so (ax s).1 (ax s).2) (.top pre pa co po so) (rdT (.top pre pa co po so) s):=by
 simp only[rdT,tZ,lr];simp only[Ac h0]
 by_cases h1:(ax s).1=cR
 ·simp only[Ad h1];exact um (.h1 ..)
 simp only[Ac h1]
 by_cases h2:(ax s).1=cQ
 ·simp only[Ad h2];exact um (.h2 ..)
 simp only[Ac h2]
 by_cases h3:(ax s).1=cP
 ·simp only[Ad h3];exact um (.h3 ..)
 ·simp only[Ac h3];exact um (.h4 ..)
theorem Oo (st:PS)(s:CF):rF (bT st s) (st.close s) (rdT (st.close s) s):=by
 cases st with
 |top pre pa co po so=>
  simp only[bT,PS.close]
  by_cases h0:bH (ax s).1=0
  ·simp only[Ad h0];simp only[rdT,tZ,BQ,w5,w6];simp only[Ad h0];exact cx (by decide)
  ·simp only[Ac h0];exact uo _ _ _ _ _ s h0
 |pre pre pa co po nm rl=>
  simp only[bT,PS.close]
  by_cases h0:bH (ax s).1=0
  ·simp only[Ad h0];simp only[rdT,tZ,BQ,w5,w6]
   by_cases h1:(J.plP s).2=0
   ·simp only[Ac (nn2 h1)]
    by_cases h2:64<=rl.length
    ·simp only[Ad h2];exact cx (by decide)
    ·simp only[Ac h2];exact il (.r1 _ _ _ _ _ _ _ (by omega))
   ·simp only[Ad h1];exact cx (by decide)
  ·simp only[Ac h0];exact uo _ _ _ _ _ s h0
 |pat pre pa co po nm rl=>
  simp only[bT,PS.close]
  by_cases h0:bH (ax s).1=0
  ·simp only[Ad h0];simp only[rdT,tZ,BQ,w5,w6]
   rcases hP:fQ s with _|⟨b,t⟩
   ·exact cx (by decide)
   ·dsimp only
    by_cases h1:(fx t).isSome=true
    ·simp only[Ad h1]
     by_cases h2:64<=rl.length
     ·simp only[Ad h2];exact cx (by decide)
     ·simp only[Ac h2];exact il (.r2 _ _ _ _ _ _ _ (by omega))
    ·simp only[Ac h1];exact cx (by decide)
  ·simp only[Ac h0];exact uo _ _ _ _ _ s h0
 |com pre pa co po nm rl=>
  simp only[bT,PS.close]
  by_cases h0:bH (ax s).1=0
  ·simp only[Ad h0];simp only[rdT,tZ,BQ,w5,w6]
   rcases hP:fQ s with _|⟨b,t⟩
   ·exact cx (by decide)
   ·dsimp only
    by_cases h1:(jc b t rl.length).1=0
    ·simp only[Ad h1];exact il (.r3 ..)
    ·simp only[Ac h1];exact cx h1
  ·simp only[Ac h0];exact uo _ _ _ _ _ s h0
 |pol pre pa co po nm ts=>
  simp only[bT,PS.close,rdT,Lr,Lq,List.map_append,Ao,Bd]
  by_cases d1:s=jt
  ·simp only[Ad d1];exact il (.pl ..)
  simp only[Ac d1]
  by_cases d2:s=js
  ·simp only[Ad d2];exact il (.pl ..)
  simp only[Ac d2]
  by_cases hw:(ax s).1=ff
  ·simp only[Ac (nn2 hw)]
   by_cases ho:bv (ax s).2=true
   ·simp only[Ac (nn1 ho)]
    by_cases hk:64<=ts.length
    ·simp only[Ad hk];exact cx (by decide)
    ·simp only[Ac hk]
     split
     ·rename_i hc;exact cx hc
     ·exact il (.pt _ _ _ _ _ _ _ (by omega))
   ·simp only[Ad ho];exact cx (by decide)
  ·simp only[Ad hw];exact cx (by decide)
 |term pre pa co po nm ts tn ms acs=>
  simp only[bT,PS.close,rdT,Lr,Lq,List.map_append,Ao,Bd]
  by_cases d1:s=ez
  ·simp only[Ad d1];exact il (.te ..)
  simp only[Ac d1]
  by_cases d2:s=ey
  ·simp only[Ad d2];exact il (.te ..)
  simp only[Ac d2]
  by_cases d3:s=cU
  ·simp only[Ad d3];exact il (.te ..)
  simp only[Ac d3]
  by_cases hw:(ax s).1=dX
  ·simp only[Ad hw]
   by_cases ha:acs.length=0
   ·simp only[Ac (nn2 ha)]
    rcases hm:j4 (ax s).2 with _|x
    ·exact cx (by decide)
    ·dsimp only
     by_cases hk:64<=ms.length
     ·simp only[Ad hk];exact cx (by decide)
     ·simp only[Ac hk]
      split
      ·rename_i hc;exact cx hc
      ·exact il (.tm _ _ _ _ _ _ _ _ _ _ (by omega))
   ·simp only[Ad ha];exact cx (by decide)
  ·simp only[Ac hw]
   by_cases hw2:(ax s).1=iW
   ·simp only[Ad hw2]
    rcases hm:gr (ax s).2 with _|x
    ·exact cx (by decide)
    ·dsimp only
     by_cases hk:64<=acs.length
     ·simp only[Ad hk];exact cx (by decide)
     ·simp only[Ac hk]
      split
      ·rename_i hc;exact cx hc
      ·exact il (.ta _ _ _ _ _ _ _ _ _ _ (by omega))
   ·simp only[Ac hw2];exact cx (by decide)
section
variable (s:CF)(R:Ret)(pre:C3)(pa:C4)(co:C6)(po:C9)(nm:CF)(m:Nat)(rw:CS)(i fr n:Int)
theorem uH (hs:s.length<2^30)(x:UInt8)(done rest:CF)(e:s=done++x::rest)(hx:x≠10)(kp g a b:Nat)(fr n i:Int)(R:Ret)(hi:i=done.length)(H:aq)(g2:Nat)(ih: ∀(T:TV) (c:Nat),Ev GR ⟨gm,⟨(18,.int .i64 (i+1))::(17,.int .i64 s.length)::(0,.str s)::(5,.ref kp g 0)::(6,.int .i64 fr)::(7,.int .i64 n)::(2,.ref 66 g2 0)::T,H,c⟩,[.cell 2 (some 4),.t 3,.t 4],0⟩ R)(T:TV)(c:Nat):Ev GR ⟨gm,⟨(18,.int .i64 i)::(17,.int .i64 s.length)::(0,.str s)::(5,.ref kp g 0)::(6,.int .i64 fr)::(7,.int .i64 n)::(2,.ref 66 g2 0)::T,H,c⟩,[.cell 2 (some 4),.t 3,.t 4],0⟩ R:=by
 have hl:=md e;have hb:s[i.toNat]? =some x:=by rw[e,hi];simp
 have hn:(x.toNat:Int)≠10:=λq=>hx (A9.mp (by simpa using (by omega:x.toNat=10)))
 refine evl ?_
 repeat' (first|refine bz ?_|apply ae<;>intro h)
 all_goals (conv=>whnf)
 refine ag [18,17,0,5,6,7,2] [] ?_;exact ih _ _
theorem UG (hs:s.length<=65536)(R:Ret)(ih: ∀(T:TV) (H:aq) (c:Nat) (g g0 g1 g2 g3 g4 g5 g6 g7 g8:Nat),Ev GR ⟨gm,⟨(18,.int .i64 0)::(17,.int .i64 s.length)::(0,.str s)::(5,.ref 79 g0 0)::(6,.int .i64 0)::(7,.int .i64 0)::(2,.ref 66 g 0)::T,(66,some (g,.cells [bh,bh,bh,bh]))::(79,some (g0,.cells [.vs 9001 g1 0,.vs 9002 g2 0,.vs 9003 g3 0,.vs 9004 g4 0,.vs 9005 g5 0,.vs 9006 g6 0,.vs 9007 g7 0,.vs 9008 g8 0,.int .i64 0,.bool false,.bool false]))::(9001,some (g1,.vec 2 []))::(9002,some (g2,.vec 2 []))::(9003,some (g3,.vec 2 []))::(9004,some (g4,.vec 3 []))::(9005,some (g5,.vec 1 []))::(9006,some (g6,.vec 1 []))::(9007,some (g7,.vec 1 []))::(9008,some (g8,.vec 1 []))::H,c⟩,[.cell 2 (some 4),.t 3,.t 4],0⟩ R):ab GR 418 [.str s] [] R:=by
 refine gvB (F:=JY) ?_;refine en 9001 2 [] [(79,some (_,.cells [.vs 9001 _ 0,bh,bh,bh,bh,bh,bh,bh,.int .i64 0,.bool false,.bool false]))] trivial ⟨⟨rfl,⟨LeP.nilV _ _ _,.refl _,.refl _,.refl _,.refl _,.refl _,.refl _,.refl _,.refl _,.refl _,.refl _,trivial⟩⟩,trivial⟩ ?_;refine en 9002 2 [] [(79,some (_,.cells [.vs 9001 _ 0,.vs 9002 _ 0,bh,bh,bh,bh,bh,bh,.int .i64 0,.bool false,.bool false]))] trivial ⟨⟨rfl,⟨.refl _,LeP.nilV _ _ _,.refl _,.refl _,.refl _,.refl _,.refl _,.refl _,.refl _,.refl _,.refl _,trivial⟩⟩,trivial⟩ ?_;refine en 9003 2 [] [(79,some (_,.cells [.vs 9001 _ 0,.vs 9002 _ 0,.vs 9003 _ 0,bh,bh,bh,bh,bh,.int .i64 0,.bool false,.bool false]))] trivial ⟨⟨rfl,⟨.refl _,.refl _,LeP.nilV _ _ _,.refl _,.refl _,.refl _,.refl _,.refl _,.refl _,.refl _,.refl _,trivial⟩⟩,trivial⟩ ?_;refine en 9004 3 [] [(79,some (_,.cells [.vs 9001 _ 0,.vs 9002 _ 0,.vs 9003 _ 0,.vs 9004 _ 0,bh,bh,bh,bh,.int .i64 0,.bool false,.bool false]))] trivial ⟨⟨rfl,⟨.refl _,.refl _,.refl _,LeP.nilV _ _ _,.refl _,.refl _,.refl _,.refl _,.refl _,.refl _,.refl _,trivial⟩⟩,trivial⟩ ?_;refine en 9005 1 [] [(79,some (_,.cells [.vs 9001 _ 0,.vs 9002 _ 0,.vs 9003 _ 0,.vs 9004 _ 0,.vs 9005 _ 0,bh,bh,bh,.int .i64 0,.bool false,.bool false]))] trivial ⟨⟨rfl,⟨.refl _,.refl _,.refl _,.refl _,LeP.nilV _ _ _,.refl _,.refl _,.refl _,.refl _,.refl _,.refl _,trivial⟩⟩,trivial⟩ ?_;refine en 9006 1 [] [(79,some (_,.cells [.vs 9001 _ 0,.vs 9002 _ 0,.vs 9003 _ 0,.vs 9004 _ 0,.vs 9005 _ 0,.vs 9006 _ 0,bh,bh,.int .i64 0,.bool false,.bool false]))] trivial ⟨⟨rfl,⟨.refl _,.refl _,.refl _,.refl _,.refl _,LeP.nilV _ _ _,.refl _,.refl _,.refl _,.refl _,.refl _,trivial⟩⟩,trivial⟩ ?_
 refine en 9007 1 [] [(79,some (_,.cells [.vs 9001 _ 0,.vs 9002 _ 0,.vs 9003 _ 0,.vs 9004 _ 0,.vs 9005 _ 0,.vs 9006 _ 0,.vs 9007 _ 0,bh,.int .i64 0,.bool false,.bool false]))] trivial ⟨⟨rfl,⟨.refl _,.refl _,.refl _,.refl _,.refl _,.refl _,LeP.nilV _ _ _,.refl _,.refl _,.refl _,.refl _,trivial⟩⟩,trivial⟩ ?_;refine en 9008 1 [] [(79,some (_,.cells [.vs 9001 _ 0,.vs 9002 _ 0,.vs 9003 _ 0,.vs 9004 _ 0,.vs 9005 _ 0,.vs 9006 _ 0,.vs 9007 _ 0,.vs 9008 _ 0,.int .i64 0,.bool false,.bool false]))] trivial ⟨⟨rfl,⟨.refl _,.refl _,.refl _,.refl _,.refl _,.refl _,.refl _,LeP.nilV _ _ _,.refl _,.refl _,.refl _,trivial⟩⟩,trivial⟩ ?_
 (conv=>whnf)
 refine ag [18,17,0,5,6,7,2] [66,79,9001,9002,9003,9004,9005,9006,9007,9008] ?_;exact ih _ _ _ _ _ _ _ _ _ _ _ _ _
def IvT (e1 e2 e3 e4:CS)(k1 k2 k3 k4:C5)(n1 n2 n3 n4:Nat)(so i fr n:Int):Prop:= ∀(T:TV)(H:aq)(c:Nat)(g g0 g1 g2 g3 g4 g5 g6 g7 g8:Nat),Ev GR ⟨gm,⟨(18,.int .i64 i)::(17,.int .i64 s.length)::(0,.str s)::(5,.ref 79 g0 0)::(6,.int .i64 fr)::(7,.int .i64 n)::(2,.ref 66 g 0)::T,(66,some (g,.cells [bh,bh,bh,bh]))::(79,some (g0,.cells [.vs 9001 g1 n1,.vs 9002 g2 n2,.vs 9003 g3 n3,.vs 9004 g4 n4,.vs 9005 g5 n1,.vs 9006 g6 n2,.vs 9007 g7 n3,.vs 9008 g8 n4,.int .i64 so,.bool false,.bool false]))::(9001,some (g1,.vec 2 e1))::(9002,some (g2,.vec 2 e2))::(9003,some (g3,.vec 2 e3))::(9004,some (g4,.vec 3 e4))::(9005,some (g5,.vec 1 (k1.map am)))::(9006,some (g6,.vec 1 (k2.map am)))::(9007,some (g7,.vec 1 (k3.map am)))::(9008,some (g8,.vec 1 (k4.map am)))::H,c⟩,[.cell 2 (some 4),.t 3,.t 4],0⟩ R
def Iv1:Prop:= ∀(T:TV)(H:aq)(c:Nat)(g g0 g1 g2 g3 g4 g5 g6 g7 g8 g9:Nat),Ev GR ⟨gm,⟨(18,.int .i64 i)::(17,.int .i64 s.length)::(0,.str s)::(5,.ref 79 g0 0)::(6,.int .i64 fr)::(7,.int .i64 n)::(2,.ref 66 g 0)::T,(66,some (g,.cells [bh,bh,bh,bh]))::(79,some (g0,.cells [.vs 9001 g1 (pre.length+1),.vs 9002 g2 pa.length,.vs 9003 g3 co.length,.vs 9004 g4 po.length,.vs 9005 g5 (pre.length+1),.vs 9006 g6 pa.length,.vs 9007 g7 co.length,.vs 9008 g8 po.length,.int .i64 1,.bool false,.bool false]))::(9001,some (g1,.vec 2 ((pre.map PList.enc)++[[AV.str nm,AV.vs 9009 g9 m]])))::(9002,some (g2,.vec 2 (pa.map PathL.enc)))::(9003,some (g3,.vec 2 (co.map ComL.enc)))::(9004,some (g4,.vec 3 (po.map Pol.enc)))::(9005,some (g5,.vec 1 ((pre.map PList.name++[nm]).map am)))::(9006,some (g6,.vec 1 ((pa.map PathL.name).map am)))::(9007,some (g7,.vec 1 ((co.map ComL.name).map am)))::(9008,some (g8,.vec 1 ((po.map Pol.name).map am)))::(9009,some (g9,.vec 5 rw))::H,c⟩,[.cell 2 (some 4),.t 3,.t 4],0⟩ R
def Iv2:Prop:= ∀(T:TV)(H:aq)(c:Nat)(g g0 g1 g2 g3 g4 g5 g6 g7 g8 g9:Nat),Ev GR ⟨gm,⟨(18,.int .i64 i)::(17,.int .i64 s.length)::(0,.str s)::(5,.ref 79 g0 0)::(6,.int .i64 fr)::(7,.int .i64 n)::(2,.ref 66 g 0)::T,(66,some (g,.cells [bh,bh,bh,bh]))::(79,some (g0,.cells [.vs 9001 g1 pre.length,.vs 9002 g2 (pa.length+1),.vs 9003 g3 co.length,.vs 9004 g4 po.length,.vs 9005 g5 pre.length,.vs 9006 g6 (pa.length+1),.vs 9007 g7 co.length,.vs 9008 g8 po.length,.int .i64 2,.bool false,.bool false]))::(9001,some (g1,.vec 2 (pre.map PList.enc)))::(9002,some (g2,.vec 2 ((pa.map PathL.enc)++[[AV.str nm,AV.vs 9009 g9 m]])))::(9003,some (g3,.vec 2 (co.map ComL.enc)))::(9004,some (g4,.vec 3 (po.map Pol.enc)))::(9005,some (g5,.vec 1 ((pre.map PList.name).map am)))::(9006,some (g6,.vec 1 ((pa.map PathL.name++[nm]).map am)))::(9007,some (g7,.vec 1 ((co.map ComL.name).map am)))::(9008,some (g8,.vec 1 ((po.map Pol.name).map am)))::(9009,some (g9,.vec 2 rw))::H,c⟩,[.cell 2 (some 4),.t 3,.t 4],0⟩ R
def Iv3:Prop:= ∀(T:TV)(H:aq)(c:Nat)(g g0 g1 g2 g3 g4 g5 g6 g7 g8 g9:Nat),Ev GR ⟨gm,⟨(18,.int .i64 i)::(17,.int .i64 s.length)::(0,.str s)::(5,.ref 79 g0 0)::(6,.int .i64 fr)::(7,.int .i64 n)::(2,.ref 66 g 0)::T,(66,some (g,.cells [bh,bh,bh,bh]))::(79,some (g0,.cells [.vs 9001 g1 pre.length,.vs 9002 g2 pa.length,.vs 9003 g3 (co.length+1),.vs 9004 g4 po.length,.vs 9005 g5 pre.length,.vs 9006 g6 pa.length,.vs 9007 g7 (co.length+1),.vs 9008 g8 po.length,.int .i64 3,.bool false,.bool false]))::(9001,some (g1,.vec 2 (pre.map PList.enc)))::(9002,some (g2,.vec 2 (pa.map PathL.enc)))::(9003,some (g3,.vec 2 ((co.map ComL.enc)++[[AV.str nm,AV.vs 9009 g9 m]])))::(9004,some (g4,.vec 3 (po.map Pol.enc)))::(9005,some (g5,.vec 1 ((pre.map PList.name).map am)))::(9006,some (g6,.vec 1 ((pa.map PathL.name).map am)))::(9007,some (g7,.vec 1 ((co.map ComL.name++[nm]).map am)))::(9008,some (g8,.vec 1 ((po.map Pol.name).map am)))::(9009,some (g9,.vec 3 rw))::H,c⟩,[.cell 2 (some 4),.t 3,.t 4],0⟩ R
def Iv4 (pol:Bool)(df:Int)(m:Nat)(rw:CS)(i fr n:Int):Prop:= ∀(T:TV)(H:aq)(c:Nat)(g g0 g1 g2 g3 g4 g5 g6 g7 g8 g9:Nat),Ev GR ⟨gm,⟨(18,.int .i64 i)::(17,.int .i64 s.length)::(0,.str s)::(5,.ref 79 g0 0)::(6,.int .i64 fr)::(7,.int .i64 n)::(2,.ref 66 g 0)::T,(66,some (g,.cells [bh,bh,bh,bh]))::(79,some (g0,.cells [.vs 9001 g1 pre.length,.vs 9002 g2 pa.length,.vs 9003 g3 co.length,.vs 9004 g4 (po.length+1),.vs 9005 g5 pre.length,.vs 9006 g6 pa.length,.vs 9007 g7 co.length,.vs 9008 g8 (po.length+1),.int .i64 4,.bool pol,.bool false]))::(9001,some (g1,.vec 2 (pre.map PList.enc)))::(9002,some (g2,.vec 2 (pa.map PathL.enc)))::(9003,some (g3,.vec 2 (co.map ComL.enc)))::(9004,some (g4,.vec 3 ((po.map Pol.enc)++[[AV.str nm,AV.vs 9009 g9 m,AV.int .i64 df]])))::(9005,some (g5,.vec 1 ((pre.map PList.name).map am)))::(9006,some (g6,.vec 1 ((pa.map PathL.name).map am)))::(9007,some (g7,.vec 1 ((co.map ComL.name).map am)))::(9008,some (g8,.vec 1 ((po.map Pol.name++[nm]).map am)))::(9009,some (g9,.vec 4 rw))::H,c⟩,[.cell 2 (some 4),.t 3,.t 4],0⟩ R
def Iv5 (ts:Da)(tn:CF)(trm:Bool)(v:Int)(mm:Nat)(mr:CS)(an:Nat)(ar:CS)(i fr n:Int):Prop:= ∀(T:TV)(H:aq)(c:Nat)(g g0 g1 g2 g3 g4 g5 g6 g7 g8 g9 ga gb:Nat),Ev GR ⟨gm,⟨(18,.int .i64 i)::(17,.int .i64 s.length)::(0,.str s)::(5,.ref 79 g0 0)::(6,.int .i64 fr)::(7,.int .i64 n)::(2,.ref 66 g 0)::T,(66,some (g,.cells [bh,bh,bh,bh]))::(79,some (g0,.cells [.vs 9001 g1 pre.length,.vs 9002 g2 pa.length,.vs 9003 g3 co.length,.vs 9004 g4 (po.length+1),.vs 9005 g5 pre.length,.vs 9006 g6 pa.length,.vs 9007 g7 co.length,.vs 9008 g8 (po.length+1),.int .i64 4,.bool true,.bool trm]))::(9001,some (g1,.vec 2 (pre.map PList.enc)))::(9002,some (g2,.vec 2 (pa.map PathL.enc)))::(9003,some (g3,.vec 2 (co.map ComL.enc)))::(9004,some (g4,.vec 3 ((po.map Pol.enc)++[[AV.str nm,AV.vs 9009 g9 (ts.length+1),AV.int .i64 0]])))::(9005,some (g5,.vec 1 ((pre.map PList.name).map am)))::(9006,some (g6,.vec 1 ((pa.map PathL.name).map am)))::(9007,some (g7,.vec 1 ((co.map ComL.name).map am)))::(9008,some (g8,.vec 1 ((po.map Pol.name++[nm]).map am)))::(9009,some (g9,.vec 4 (ts.map Trm.enc++[[AV.str tn,AV.vs 9010 ga mm,AV.vs 9011 gb an,AV.int .i64 v]])))::(9010,some (ga,.vec 6 mr))::(9011,some (gb,.vec 5 ar))::H,c⟩,[.cell 2 (some 4),.t 3,.t 4],0⟩ R
end
structure Ln (s acc done rest:CF)(i fr n:Int):Prop where
 hs:s.length<=65536
 e:s=done++(acc++10::rest)
 hi:i=done.length+acc.length
 hfr:fr=done.length
 hn0:0<=n
 hn:n<=65536
section
variable {s acc done rest:CF}{i fr n:Int}(q:Ln s acc done rest i fr n)(pre:C3)(pa:C4)(co:C6)(po:C9)(so:Int)(t:CF)(R:Ret)
include q
theorem Ln.all:s.length<=65536/\i=done.length+acc.length/\fr=done.length/\0<=n/\n<=65536/\s.length=done.length+(acc.length+(rest.length+1))/\s[i.toNat]? =some 10/\(s.drop fr.toNat).take (i.toNat-fr.toNat)=acc:=by
 obtain ⟨hs,e,hi,hfr,hn0,hn⟩:=q;refine ⟨hs,hi,hfr,hn0,hn,by simp[e],?_,?_⟩
 ·rw[show i.toNat=done.length+acc.length by omega,e];simp
 ·rw[show i.toNat-fr.toNat=acc.length by omega,show fr.toNat=done.length by omega,e];simp
theorem QZ (er z:Int)(he:er≠0)(hG:ab GR 466 [.ref 0 0 0,.str acc] (bt (.top pre pa co po so)) (rE er z (.top pre pa co po so))):IvT s (gx (gJ,n+1,er)) (pre.map PList.enc) (pa.map PathL.enc) (co.map ComL.enc) (po.map Pol.enc) (pre.map PList.name) (pa.map PathL.name) (co.map ComL.name) (po.map Pol.name) pre.length pa.length co.length po.length so i fr n:=by
 intro T H c g g0 g1 g2 g3 g4 g5 g6 g7 g8;obtain ⟨hs,hi,hfr,hn0,hn,hl,hb,hsl⟩:=q.all;dsimp only[bt,rE,ol] at hG;refine evl ?_
 repeat' (first|refine bz ?_|apply ae<;>intro h)
 (conv=>whnf)
 rw[hsl];refine kP [(79,_,.cells _),(9001,_,.vec _ _),(9002,_,.vec _ _),(9003,_,.vec _ _),(9004,_,.vec _ _),(9005,_,.vec _ _),(9006,_,.vec _ _),(9007,_,.vec _ _),(9008,_,.vec _ _)] [] lw trivial hG ?_
 repeat' (first|refine aQ ?_|apply ae<;>intro h)
 (conv=>whnf)
 refine db [] [(66,some (_,.cells [.sl 2 [],.sl 2 [],.sl 2 [],.sl 3 []]))] trivial ⟨⟨rfl,⟨LeP.nil _,LeP.nil _,LeP.nil _,LeP.nil _,trivial⟩⟩,trivial⟩ ?_;refine au ?_
 (conv=>whnf)
 first|(refine ⟨rfl,?_⟩;trivial)|(refine ⟨?_,?_⟩; ·rfl)|(apply congrArg;rfl)|(unfold gx gJ PSet.enc;rfl)
theorem UX (hG:ab GR 466 [.ref 0 0 0,.str acc] (bt (.top pre pa co po so)) (rO (RK pre pa co po t)))(ih:Iv1 s R pre pa co po t 0 [] (i+1) (i+1) (n+1)):IvT s R (pre.map PList.enc) (pa.map PathL.enc) (co.map ComL.enc) (po.map Pol.enc) (pre.map PList.name) (pa.map PathL.name) (co.map ComL.name) (po.map Pol.name) pre.length pa.length co.length po.length so i fr n:=by
 intro T H c g g0 g1 g2 g3 g4 g5 g6 g7 g8;obtain ⟨hs,hi,hfr,hn0,hn,hl,hb,hsl⟩:=q.all;dsimp only[bt,rO,RK] at hG;refine evl ?_
 repeat' (first|refine bz ?_|apply ae<;>intro h)
 (conv=>whnf)
 rw[hsl];refine kP [(79,_,.cells _),(9001,_,.vec _ _),(9002,_,.vec _ _),(9003,_,.vec _ _),(9004,_,.vec _ _),(9005,_,.vec _ _),(9006,_,.vec _ _),(9007,_,.vec _ _),(9008,_,.vec _ _)] [] lw trivial hG ?_
 repeat' (first|refine aQ ?_|apply ae<;>intro h)
 (conv=>whnf)
 refine en 9009 5 [] [(9001,some (_,.vec 2 ((pre.map PList.enc)++[[AV.str t,AV.vs 9009 _ 0]])))] trivial ⟨⟨rfl,rfl,LLLe.app _ ⟨⟨.refl _,LeP.nilV _ _ _,trivial⟩,trivial⟩⟩,trivial⟩ ?_;rw[show ((pre.map PList.name).map am)++[[.str t]]=((pre.map PList.name++[t]).map am) by simp[am]]
 (conv=>whnf)
 refine ag [18,17,0,5,6,7,2] [66,79,9001,9002,9003,9004,9005,9006,9007,9008,9009] ?_;exact ih _ _ _ _ _ _ _ _ _ _ _ _ _ _
theorem UW (hG:ab GR 466 [.ref 0 0 0,.str acc] (bt (.top pre pa co po so)) (rO (RJ pre pa co po t)))(ih:Iv2 s R pre pa co po t 0 [] (i+1) (i+1) (n+1)):IvT s R (pre.map PList.enc) (pa.map PathL.enc) (co.map ComL.enc) (po.map Pol.enc) (pre.map PList.name) (pa.map PathL.name) (co.map ComL.name) (po.map Pol.name) pre.length pa.length co.length po.length so i fr n:=by
 intro T H c g g0 g1 g2 g3 g4 g5 g6 g7 g8;obtain ⟨hs,hi,hfr,hn0,hn,hl,hb,hsl⟩:=q.all;dsimp only[bt,rO,RJ] at hG;refine evl ?_
 repeat' (first|refine bz ?_|apply ae<;>intro h)
 (conv=>whnf)
 rw[hsl];refine kP [(79,_,.cells _),(9001,_,.vec _ _),(9002,_,.vec _ _),(9003,_,.vec _ _),(9004,_,.vec _ _),(9005,_,.vec _ _),(9006,_,.vec _ _),(9007,_,.vec _ _),(9008,_,.vec _ _)] [] lw trivial hG ?_
 repeat' (first|refine aQ ?_|apply ae<;>intro h)
 (conv=>whnf)
 refine en 9009 2 [] [(9002,some (_,.vec 2 ((pa.map PathL.enc)++[[AV.str t,AV.vs 9009 _ 0]])))] trivial ⟨⟨rfl,rfl,LLLe.app _ ⟨⟨.refl _,LeP.nilV _ _ _,trivial⟩,trivial⟩⟩,trivial⟩ ?_;rw[show ((pa.map PathL.name).map am)++[[.str t]]=((pa.map PathL.name++[t]).map am) by simp[am]]
 (conv=>whnf)
 refine ag [18,17,0,5,6,7,2] [66,79,9001,9002,9003,9004,9005,9006,9007,9008,9009] ?_;exact ih _ _ _ _ _ _ _ _ _ _ _ _ _ _
theorem UV (hG:ab GR 466 [.ref 0 0 0,.str acc] (bt (.top pre pa co po so)) (rO (RI pre pa co po t)))(ih:Iv3 s R pre pa co po t 0 [] (i+1) (i+1) (n+1)):IvT s R (pre.map PList.enc) (pa.map PathL.enc) (co.map ComL.enc) (po.map Pol.enc) (pre.map PList.name) (pa.map PathL.name) (co.map ComL.name) (po.map Pol.name) pre.length pa.length co.length po.length so i fr n:=by
 intro T H c g g0 g1 g2 g3 g4 g5 g6 g7 g8;obtain ⟨hs,hi,hfr,hn0,hn,hl,hb,hsl⟩:=q.all;dsimp only[bt,rO,RI] at hG;refine evl ?_
 repeat' (first|refine bz ?_|apply ae<;>intro h)
 (conv=>whnf)
 rw[hsl];refine kP [(79,_,.cells _),(9001,_,.vec _ _),(9002,_,.vec _ _),(9003,_,.vec _ _),(9004,_,.vec _ _),(9005,_,.vec _ _),(9006,_,.vec _ _),(9007,_,.vec _ _),(9008,_,.vec _ _)] [] lw trivial hG ?_
 repeat' (first|refine aQ ?_|apply ae<;>intro h)
 (conv=>whnf)
 refine en 9009 3 [] [(9003,some (_,.vec 2 ((co.map ComL.enc)++[[AV.str t,AV.vs 9009 _ 0]])))] trivial ⟨⟨rfl,rfl,LLLe.app _ ⟨⟨.refl _,LeP.nilV _ _ _,trivial⟩,trivial⟩⟩,trivial⟩ ?_;rw[show ((co.map ComL.name).map am)++[[.str t]]=((co.map ComL.name++[t]).map am) by simp[am]]
 (conv=>whnf)
 refine ag [18,17,0,5,6,7,2] [66,79,9001,9002,9003,9004,9005,9006,9007,9008,9009] ?_;exact ih _ _ _ _ _ _ _ _ _ _ _ _ _ _
theorem UT (hG:ab GR 466 [.ref 0 0 0,.str acc] (bt (.top pre pa co po so)) (rO (RH pre pa co po t)))(ih:Iv4 s R pre pa co po t true 0 0 [] (i+1) (i+1) (n+1)):IvT s R (pre.map PList.enc) (pa.map PathL.enc) (co.map ComL.enc) (po.map Pol.enc) (pre.map PList.name) (pa.map PathL.name) (co.map ComL.name) (po.map Pol.name) pre.length pa.length co.length po.length so i fr n:=by
 intro T H c g g0 g1 g2 g3 g4 g5 g6 g7 g8;obtain ⟨hs,hi,hfr,hn0,hn,hl,hb,hsl⟩:=q.all;dsimp only[bt,rO,RH] at hG;refine evl ?_
 repeat' (first|refine bz ?_|apply ae<;>intro h)
 (conv=>whnf)
 rw[hsl];refine kP [(79,_,.cells _),(9001,_,.vec _ _),(9002,_,.vec _ _),(9003,_,.vec _ _),(9004,_,.vec _ _),(9005,_,.vec _ _),(9006,_,.vec _ _),(9007,_,.vec _ _),(9008,_,.vec _ _)] [] lw trivial hG ?_
 repeat' (first|refine aQ ?_|apply ae<;>intro h)
 (conv=>whnf)
 refine en 9009 4 [] [(9004,some (_,.vec 3 ((po.map Pol.enc)++[[AV.str t,AV.vs 9009 _ 0,AV.int .i64 0]])))] trivial ⟨⟨rfl,rfl,LLLe.app _ ⟨⟨.refl _,LeP.nilV _ _ _,.refl _,trivial⟩,trivial⟩⟩,trivial⟩ ?_;rw[show ((po.map Pol.name).map am)++[[.str t]]=((po.map Pol.name++[t]).map am) by simp[am]]
 (conv=>whnf)
 refine ag [18,17,0,5,6,7,2] [66,79,9001,9002,9003,9004,9005,9006,9007,9008,9009] ?_;exact ih _ _ _ _ _ _ _ _ _ _ _ _ _ _
end
end Go.AM.IR
