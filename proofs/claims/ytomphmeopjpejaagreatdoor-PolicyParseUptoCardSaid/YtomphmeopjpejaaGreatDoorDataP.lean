/- What functions of this program give. -/
import Derived.Test.YtomphmeopjpejaaGreatDoorDataO
set_option linter.unusedSectionVars false
set_option linter.unusedVariables false
set_option linter.unusedSimpArgs false
set_option maxHeartbeats 4000000
set_option maxRecDepth 20000
namespace Go.AM.IR
@[simp] theorem pB1 (nm:B5):aM (ah nm)=true:=rfl
section
variable (pre:CL)(pa:CO)(co:CS)(po:C0)(t:B5)
def Qv:Co:=mkR [(true,.cells [.vs 1 0 (pre.length+1),.vs 2 0 pa.length,.vs 3 0 co.length,.vs 4 0 po.length,.vs 5 0 (pre.length+1),.vs 6 0 pa.length,.vs 7 0 co.length,.vs 8 0 po.length,.int .i64 1,.bool false,.bool false]),(false,.vec 2 ((pre.map PList.enc)++[[.str t,.con (.slice none 0 0)]])),(true,.vec 2 (pa.map PathL.enc)),(true,.vec 2 (co.map ComL.enc)),(true,.vec 3 (po.map Pol.enc)),(false,.vec 1 (((pre.map PList.name).map ah)++[[.str t]])),(true,.vec 1 ((pa.map PathL.name).map ah)),(true,.vec 1 ((co.map ComL.name).map ah)),(true,.vec 1 ((po.map Pol.name).map ah))]
def Qu:Co:=mkR [(true,.cells [.vs 1 0 pre.length,.vs 2 0 (pa.length+1),.vs 3 0 co.length,.vs 4 0 po.length,.vs 5 0 pre.length,.vs 6 0 (pa.length+1),.vs 7 0 co.length,.vs 8 0 po.length,.int .i64 2,.bool false,.bool false]),(true,.vec 2 (pre.map PList.enc)),(false,.vec 2 ((pa.map PathL.enc)++[[.str t,.con (.slice none 0 0)]])),(true,.vec 2 (co.map ComL.enc)),(true,.vec 3 (po.map Pol.enc)),(true,.vec 1 ((pre.map PList.name).map ah)),(false,.vec 1 (((pa.map PathL.name).map ah)++[[.str t]])),(true,.vec 1 ((co.map ComL.name).map ah)),(true,.vec 1 ((po.map Pol.name).map ah))]
def Qt:Co:=mkR [(true,.cells [.vs 1 0 pre.length,.vs 2 0 pa.length,.vs 3 0 (co.length+1),.vs 4 0 po.length,.vs 5 0 pre.length,.vs 6 0 pa.length,.vs 7 0 (co.length+1),.vs 8 0 po.length,.int .i64 3,.bool false,.bool false]),(true,.vec 2 (pre.map PList.enc)),(true,.vec 2 (pa.map PathL.enc)),(false,.vec 2 ((co.map ComL.enc)++[[.str t,.con (.slice none 0 0)]])),(true,.vec 3 (po.map Pol.enc)),(true,.vec 1 ((pre.map PList.name).map ah)),(true,.vec 1 ((pa.map PathL.name).map ah)),(false,.vec 1 (((co.map ComL.name).map ah)++[[.str t]])),(true,.vec 1 ((po.map Pol.name).map ah))]
def Qr:Co:=mkR [(true,.cells [.vs 1 0 pre.length,.vs 2 0 pa.length,.vs 3 0 co.length,.vs 4 0 (po.length+1),.vs 5 0 pre.length,.vs 6 0 pa.length,.vs 7 0 co.length,.vs 8 0 (po.length+1),.int .i64 4,.bool true,.bool false]),(true,.vec 2 (pre.map PList.enc)),(true,.vec 2 (pa.map PathL.enc)),(true,.vec 2 (co.map ComL.enc)),(false,.vec 3 ((po.map Pol.enc)++[[.str t,.con (.slice none 0 0),.int .i64 0]])),(true,.vec 1 ((pre.map PList.name).map ah)),(true,.vec 1 ((pa.map PathL.name).map ah)),(true,.vec 1 ((co.map ComL.name).map ah)),(false,.vec 1 (((po.map Pol.name).map ah)++[[.str t]]))]
def Pd (nm:B5)(rl:DN)(x:RuleP):Co:=mkR [(true,.cells [.vs 1 0 (pre.length+1),.vs 2 0 pa.length,.vs 3 0 co.length,.vs 4 0 po.length,.vs 5 0 (pre.length+1),.vs 6 0 pa.length,.vs 7 0 co.length,.vs 8 0 po.length,.int .i64 1,.bool false,.bool false]),(true,.nest 2 (pre.map PList.enc) [[AV.str nm,AV.vs 9 0 (rl.length+1)]]),(true,.vec 2 (pa.map PathL.enc)),(true,.vec 2 (co.map ComL.enc)),(true,.vec 3 (po.map Pol.enc)),(true,.vec 1 ((pre.map PList.name++[nm]).map ah)),(true,.vec 1 ((pa.map PathL.name).map ah)),(true,.vec 1 ((co.map ComL.name).map ah)),(true,.vec 1 ((po.map Pol.name).map ah)),(false,.vec 5 (rl.map RuleP.enc++[x.enc]))]
def Pb (nm:B5)(rl:DO)(x:PathR):Co:=mkR [(true,.cells [.vs 1 0 pre.length,.vs 2 0 (pa.length+1),.vs 3 0 co.length,.vs 4 0 po.length,.vs 5 0 pre.length,.vs 6 0 (pa.length+1),.vs 7 0 co.length,.vs 8 0 po.length,.int .i64 2,.bool false,.bool false]),(true,.vec 2 (pre.map PList.enc)),(true,.nest 2 (pa.map PathL.enc) [[AV.str nm,AV.vs 9 0 (rl.length+1)]]),(true,.vec 2 (co.map ComL.enc)),(true,.vec 3 (po.map Pol.enc)),(true,.vec 1 ((pre.map PList.name).map ah)),(true,.vec 1 ((pa.map PathL.name++[nm]).map ah)),(true,.vec 1 ((co.map ComL.name).map ah)),(true,.vec 1 ((po.map Pol.name).map ah)),(false,.vec 2 (rl.map PathR.enc++[x.enc]))]
end
section
variable (pre:CL)(pa:CO)(co:CS)(po:C0)(nm:B5)(ts:C4)(tn:B5)(ms:C9)(acs:C8)(v:Int)
def O9 (rl:DR)(x:ComR):Co:=mkR [(true,.cells [.vs 1 0 pre.length,.vs 2 0 pa.length,.vs 3 0 (co.length+1),.vs 4 0 po.length,.vs 5 0 pre.length,.vs 6 0 pa.length,.vs 7 0 (co.length+1),.vs 8 0 po.length,.int .i64 3,.bool false,.bool false]),(true,.vec 2 (pre.map PList.enc)),(true,.vec 2 (pa.map PathL.enc)),(true,.nest 2 (co.map ComL.enc) [[AV.str nm,AV.vs 9 0 (rl.length+1)]]),(true,.vec 3 (po.map Pol.enc)),(true,.vec 1 ((pre.map PList.name).map ah)),(true,.vec 1 ((pa.map PathL.name).map ah)),(true,.vec 1 ((co.map ComL.name++[nm]).map ah)),(true,.vec 1 ((po.map Pol.name).map ah)),(false,.vec 3 (rl.map ComR.enc++[x.enc]))]
def plR:Co:=mkR [(true,.cells [.vs 1 0 pre.length,.vs 2 0 pa.length,.vs 3 0 co.length,.vs 4 0 (po.length+1),.vs 5 0 pre.length,.vs 6 0 pa.length,.vs 7 0 co.length,.vs 8 0 (po.length+1),.int .i64 4,.bool false,.bool false]),(true,.vec 2 (pre.map PList.enc)),(true,.vec 2 (pa.map PathL.enc)),(true,.vec 2 (co.map ComL.enc)),(true,.nest 3 (po.map Pol.enc) [[AV.str nm,AV.vs 9 0 ts.length,AV.int .i64 v]]),(true,.vec 1 ((pre.map PList.name).map ah)),(true,.vec 1 ((pa.map PathL.name).map ah)),(true,.vec 1 ((co.map ComL.name).map ah)),(true,.vec 1 ((po.map Pol.name++[nm]).map ah)),(true,.vec 4 (ts.map Trm.enc))]
def PG (t:B5):Co:=mkR [(true,.cells [.vs 1 0 pre.length,.vs 2 0 pa.length,.vs 3 0 co.length,.vs 4 0 (po.length+1),.vs 5 0 pre.length,.vs 6 0 pa.length,.vs 7 0 co.length,.vs 8 0 (po.length+1),.int .i64 4,.bool true,.bool true]),(true,.vec 2 (pre.map PList.enc)),(true,.vec 2 (pa.map PathL.enc)),(true,.vec 2 (co.map ComL.enc)),(true,.nest 3 (po.map Pol.enc) [[AV.str nm,AV.vs 9 0 (ts.length+1),AV.int .i64 0]]),(true,.vec 1 ((pre.map PList.name).map ah)),(true,.vec 1 ((pa.map PathL.name).map ah)),(true,.vec 1 ((co.map ComL.name).map ah)),(true,.vec 1 ((po.map Pol.name++[nm]).map ah)),(false,.vec 4 (ts.map Trm.enc++[[.str t,.con (.slice none 0 0),.con (.slice none 0 0),.int .i64 0]]))]
def teR:Co:=mkR [(true,.cells [.vs 1 0 pre.length,.vs 2 0 pa.length,.vs 3 0 co.length,.vs 4 0 (po.length+1),.vs 5 0 pre.length,.vs 6 0 pa.length,.vs 7 0 co.length,.vs 8 0 (po.length+1),.int .i64 4,.bool true,.bool false]),(true,.vec 2 (pre.map PList.enc)),(true,.vec 2 (pa.map PathL.enc)),(true,.vec 2 (co.map ComL.enc)),(true,.nest 3 (po.map Pol.enc) [[AV.str nm,AV.vs 9 0 (ts.length+1),AV.int .i64 0]]),(true,.vec 1 ((pre.map PList.name).map ah)),(true,.vec 1 ((pa.map PathL.name).map ah)),(true,.vec 1 ((co.map ComL.name).map ah)),(true,.vec 1 ((po.map Pol.name++[nm]).map ah)),(true,.nest 4 (ts.map Trm.enc) [[AV.str tn,AV.vs 10 0 ms.length,AV.vs 11 0 acs.length,AV.int .i64 v]]),(true,.vec 6 (ms.map Mat.enc)),(true,.vec 5 (acs.map Actn.enc))]
def teM (x:Mat):Co:=mkR [(true,.cells [.vs 1 0 pre.length,.vs 2 0 pa.length,.vs 3 0 co.length,.vs 4 0 (po.length+1),.vs 5 0 pre.length,.vs 6 0 pa.length,.vs 7 0 co.length,.vs 8 0 (po.length+1),.int .i64 4,.bool true,.bool true]),(true,.vec 2 (pre.map PList.enc)),(true,.vec 2 (pa.map PathL.enc)),(true,.vec 2 (co.map ComL.enc)),(true,.nest 3 (po.map Pol.enc) [[AV.str nm,AV.vs 9 0 (ts.length+1),AV.int .i64 0]]),(true,.vec 1 ((pre.map PList.name).map ah)),(true,.vec 1 ((pa.map PathL.name).map ah)),(true,.vec 1 ((co.map ComL.name).map ah)),(true,.vec 1 ((po.map Pol.name++[nm]).map ah)),(true,.nest 4 (ts.map Trm.enc) [[AV.str tn,AV.vs 10 0 (ms.length+1),AV.vs 11 0 acs.length,AV.int .i64 0]]),(false,.vec 6 (ms.map Mat.enc++[x.enc])),(true,.vec 5 (acs.map Actn.enc))]
def teA (x:Actn):Co:=mkR [(true,.cells [.vs 1 0 pre.length,.vs 2 0 pa.length,.vs 3 0 co.length,.vs 4 0 (po.length+1),.vs 5 0 pre.length,.vs 6 0 pa.length,.vs 7 0 co.length,.vs 8 0 (po.length+1),.int .i64 4,.bool true,.bool true]),(true,.vec 2 (pre.map PList.enc)),(true,.vec 2 (pa.map PathL.enc)),(true,.vec 2 (co.map ComL.enc)),(true,.nest 3 (po.map Pol.enc) [[AV.str nm,AV.vs 9 0 (ts.length+1),AV.int .i64 0]]),(true,.vec 1 ((pre.map PList.name).map ah)),(true,.vec 1 ((pa.map PathL.name).map ah)),(true,.vec 1 ((co.map ComL.name).map ah)),(true,.vec 1 ((po.map Pol.name++[nm]).map ah)),(true,.nest 4 (ts.map Trm.enc) [[AV.str tn,AV.vs 10 0 ms.length,AV.vs 11 0 (acs.length+1),AV.int .i64 0]]),(true,.vec 6 (ms.map Mat.enc)),(false,.vec 5 (acs.map Actn.enc++[x.enc]))]
end
theorem j5 {α β:Type}{f:α->β}(h: ∀a b,f a=f b->a=b): ∀l r:List α,l.map f=r.map f->l=r
 | [],[],_=>rfl
 | [],_::_,e=>by simp at e
 |_::_,[],e=>by simp at e
 |a::l,b::r,e=>by
  simp only[An,List.cons.injEq] at e;rw[h _ _ e.1,j5 h l r e.2]
theorem RuleP.enc_i: ∀a b:RuleP,a.enc=b.enc->a=b:=by
 rintro ⟨a1,⟨a2,l2⟩,a3,a4⟩ ⟨a1',⟨a'2,l'2⟩,a3',a4'⟩ h
 grind [RuleP.enc]
theorem PathR.enc_i: ∀a b:PathR,a.enc=b.enc->a=b:=by
 rintro ⟨a1,a2⟩ ⟨a1',a2'⟩ h
 grind [PathR.enc]
theorem ComR.enc_i: ∀a b:ComR,a.enc=b.enc->a=b:=by
 rintro ⟨a1,a2,a3⟩ ⟨a1',a2',a3'⟩ h
 grind [ComR.enc]
theorem Mat.enc_i: ∀a b:Mat,a.enc=b.enc->a=b:=by
 rintro ⟨a1,a2,a3,⟨a4,l4⟩,a5⟩ ⟨a1',a2',a3',⟨a'4,l'4⟩,a5'⟩ h
 grind [Mat.enc]
theorem Actn.enc_i: ∀a b:Actn,a.enc=b.enc->a=b:=by
 rintro ⟨a1,a2,a3,a4,a5⟩ ⟨a1',a2',a3',a4',a5'⟩ h
 grind [Actn.enc]
theorem PList.enc_i: ∀a b:PList,a.enc=b.enc->a=b:=by
 rintro ⟨a1,a2⟩ ⟨a1',a2'⟩ h
 grind [PList.enc,j5,RuleP.enc_i]
theorem PathL.enc_i: ∀a b:PathL,a.enc=b.enc->a=b:=by
 rintro ⟨a1,a2⟩ ⟨a1',a2'⟩ h
 grind [PathL.enc,j5,PathR.enc_i]
theorem ComL.enc_i: ∀a b:ComL,a.enc=b.enc->a=b:=by
 rintro ⟨a1,a2⟩ ⟨a1',a2'⟩ h
 grind [ComL.enc,j5,ComR.enc_i]
theorem Trm.enc_i: ∀a b:Trm,a.enc=b.enc->a=b:=by
 rintro ⟨a1,a2,a3,a4⟩ ⟨a1',a2',a3',a4'⟩ h
 grind [Trm.enc,j5,Mat.enc_i,Actn.enc_i]
theorem Pol.enc_i: ∀a b:Pol,a.enc=b.enc->a=b:=by
 rintro ⟨a1,a2,a3⟩ ⟨a1',a2',a3'⟩ h
 grind [Pol.enc,j5,Trm.enc_i]
theorem agK {α:Type}{a b:List α}{x y:α}:a++[x]=b++[y]↔a=b/\x=y:=by
 simp_all
theorem RuleP.mapE (l r:DN):l.map RuleP.enc=r.map RuleP.enc↔l=r:=⟨j5 RuleP.enc_i l r,λh=>by rw[h]⟩
theorem PathR.mapE (l r:DO):l.map PathR.enc=r.map PathR.enc↔l=r:=⟨j5 PathR.enc_i l r,λh=>by rw[h]⟩
theorem ComR.mapE (l r:DR):l.map ComR.enc=r.map ComR.enc↔l=r:=⟨j5 ComR.enc_i l r,λh=>by rw[h]⟩
theorem Mat.mapE (l r:C9):l.map Mat.enc=r.map Mat.enc↔l=r:=⟨j5 Mat.enc_i l r,λh=>by rw[h]⟩
theorem Actn.mapE (l r:C8):l.map Actn.enc=r.map Actn.enc↔l=r:=⟨j5 Actn.enc_i l r,λh=>by rw[h]⟩
theorem PList.mapE (l r:CL):l.map PList.enc=r.map PList.enc↔l=r:=⟨j5 PList.enc_i l r,λh=>by rw[h]⟩
theorem PathL.mapE (l r:CO):l.map PathL.enc=r.map PathL.enc↔l=r:=⟨j5 PathL.enc_i l r,λh=>by rw[h]⟩
theorem ComL.mapE (l r:CS):l.map ComL.enc=r.map ComL.enc↔l=r:=⟨j5 ComL.enc_i l r,λh=>by rw[h]⟩
theorem Trm.mapE (l r:C4):l.map Trm.enc=r.map Trm.enc↔l=r:=⟨j5 Trm.enc_i l r,λh=>by rw[h]⟩
theorem Pol.mapE (l r:C0):l.map Pol.enc=r.map Pol.enc↔l=r:=⟨j5 Pol.enc_i l r,λh=>by rw[h]⟩
theorem Xa (a b:PS)(h:bz a=bz b):a=b:=by
 cases a<;>cases b<;>simp only[bz,List.cons.injEq,Blk.cells.injEq,Blk.vec.injEq,AV.vs.injEq,AV.int.injEq,AV.bool.injEq,AV.str.injEq,agK,RuleP.mapE,PathR.mapE,ComR.mapE,Mat.mapE,Actn.mapE,PList.mapE,PathL.mapE,ComL.mapE,Trm.mapE,Pol.mapE,true_and,and_true,reduceCtorEq,false_and,and_false] at h
 all_goals grind
def rE (e z:Int)(st:PS):Ret:=⟨.int .i64 e,o3 z st⟩
def rO (R:Co):Ret:=⟨.int .i64 0,R⟩
def rdHd (st:PS)(so k:Int)(ks:CF)(t:B5)(R:Co):Ret:=Aw (λe z=>rE e z st) so k ks t (rO R)
def rdT:PS->B5->Ret
 | .top pre pa co po so,s=>uT s so (λe z=>rE e z (.top pre pa co po so)) (pre.map PList.name) (pa.map PathL.name) (co.map ComL.name) (po.map Pol.name) (λt=>rO (Qv pre pa co po t)) (λt=>rO (Qu pre pa co po t)) (λt=>rO (Qt pre pa co po t)) (λt=>rO (Qr pre pa co po t))
 | .pre pre pa co po nm rl,s=>KR s rl.length (λe=>rE e 0 (.pre pre pa co po nm rl)) (rO (Pd pre pa co po nm rl ⟨(J.plP s).1.permit,(J.plP s).1.pfx,(J.plP s).1.min,(J.plP s).1.max⟩))
 | .pat pre pa co po nm rl,s=>Cw s rl.length (λe=>rE e 0 (.pat pre pa co po nm rl)) (λb t=>rO (Pb pre pa co po nm rl ⟨b,t⟩))
 | .com pre pa co po nm rl,s=>Cy s rl.length (λe=>rE e 0 (.com pre pa co po nm rl)) (λb t=>rO (O9 pre pa co po nm rl (eY b t rl.length).2))
 | .pol pre pa co po nm ts,s=>KU s ts.length (kG ⟨pre.map PList.name,pa.map PathL.name,co.map ComL.name,po.map Pol.name++[nm]⟩ ts ⟨(aw s).2,[],[],1⟩) (λe=>rE e 4 (.pol pre pa co po nm ts)) (λv=>rO (plR pre pa co po nm ts v)) (rO (PG pre pa co po nm ts (aw s).2))
 | .term pre pa co po nm ts tn ms acs,s=>KO s ms.length acs.length (mtE ⟨pre.map PList.name,pa.map PathL.name,co.map ComL.name,po.map Pol.name++[nm]⟩) (λe=>rE e 4 (.term pre pa co po nm ts tn ms acs)) (λv=>rO (teR pre pa co po nm ts tn ms acs v)) (λx=>rO (teM pre pa co po nm ts tn ms acs x)) (λx=>rO (teA pre pa co po nm ts tn ms acs x))
def PS.fit:PS->Prop
 | .top p1 pa co po _=>p1.length<2^30/\pa.length<2^30/\co.length<2^30/\po.length<2^30
 | .pre p1 pa co po _ _| .pat p1 pa co po _ _| .com p1 pa co po _ _=>p1.length<2^30/\pa.length<2^30/\co.length<2^30/\po.length<2^30
 | .pol p1 pa co po _ ts=>p1.length<2^30/\pa.length<2^30/\co.length<2^30/\po.length<2^30/\ts.length<2^30
 | .term p1 pa co po _ ts _ ms acs=>p1.length<2^30/\pa.length<2^30/\co.length<2^30/\po.length<2^30/\ts.length<2^30/\ms.length<2^30/\acs.length<2^30
def PS.shut:PS->B5->Prop
 | .top _ _ _ _ so,s=>bn (aw s).1=0->so≠1/\so≠2/\so≠3
 | .pre ..,s| .pat ..,s| .com ..,s=>bn (aw s).1=0
 |_,_=>True
theorem UE {pre:CL}{pa:CO}{co:CS}{po:C0}{nm:B5}(l1:pre.length<2^30)(l2:pa.length<2^30)(l3:co.length<2^30)(l4:po.length<2^30):Kn.fit ⟨pre.map PList.name,pa.map PathL.name,co.map ComL.name,po.map Pol.name++[nm]⟩:=
 ⟨by grind,by grind,by grind,by grind⟩
theorem WY (st:PS)(s:B5)(hs:s.length<2^30)(hf:st.fit)(hsh:st.shut s):dm (bz st) s (rdT st s):=by
 cases st with
 |top pre pa co po so=>
  obtain ⟨l1,l2,l3,l4⟩:=hf;have h:=gtop (pre.map PList.enc) (pa.map PathL.enc) (co.map ComL.enc) (po.map Pol.enc) (by simp) (by simp) (by simp) (by simp) (pre.map PList.name) (pa.map PathL.name) (co.map ComL.name) (po.map Pol.name) so (by grind) (by grind) (by grind) (by grind) (by grind) (by grind) (by grind) (by grind) s hs hsh
  simp only[bP,rP,As,Ao,List.length_singleton] at h;exact h
 |pre pre pa co po nm rl=>
  obtain ⟨l1,l2,l3,l4⟩:=hf;have h:=gr1 (pre.map PList.enc) (pa.map PathL.enc) (co.map ComL.enc) (po.map Pol.enc) (rl.map RuleP.enc) (by simp) (by simp) (by simp) (by simp) (by simp) (pre.map PList.name++[nm]) (pa.map PathL.name) (co.map ComL.name) (po.map Pol.name) nm (pre.length+1) (by grind) (by grind) (by grind) (by grind) (by simp) s hs hsh
  simp only[bP,rP,As,Ao,List.length_singleton] at h;exact h
 |pat pre pa co po nm rl=>
  obtain ⟨l1,l2,l3,l4⟩:=hf;have h:=gr2 (pre.map PList.enc) (pa.map PathL.enc) (co.map ComL.enc) (po.map Pol.enc) (rl.map PathR.enc) (by simp) (by simp) (by simp) (by simp) (by simp) (pre.map PList.name) (pa.map PathL.name++[nm]) (co.map ComL.name) (po.map Pol.name) nm (pa.length+1) (by grind) (by grind) (by grind) (by grind) (by simp) s hs hsh
  simp only[bP,rP,As,Ao,List.length_singleton] at h;exact h
 |com pre pa co po nm rl=>
  obtain ⟨l1,l2,l3,l4⟩:=hf;have h:=gr3 (pre.map PList.enc) (pa.map PathL.enc) (co.map ComL.enc) (po.map Pol.enc) (rl.map ComR.enc) (by simp) (by simp) (by simp) (by simp) (by simp) (pre.map PList.name) (pa.map PathL.name) (co.map ComL.name++[nm]) (po.map Pol.name) nm (co.length+1) (by grind) (by grind) (by grind) (by grind) (by simp) s hs hsh
  simp only[bP,rP,As,Ao,List.length_singleton] at h;exact h
 |pol pre pa co po nm ts=>
  obtain ⟨l1,l2,l3,l4,lt⟩:=hf;have h:=gpo (pre.map PList.enc) (pa.map PathL.enc) (co.map ComL.enc) (po.map Pol.enc) (by simp) (by simp) (by simp) (by simp) (pre.map PList.name) (pa.map PathL.name) (co.map ComL.name) (po.map Pol.name++[nm]) 4 nm (po.length+1) (by simp) (by grind) ts lt (UE l1 l2 l3 l4) s hs
  simp only[bP,rP,As,Ao,List.length_singleton] at h;exact h
 |term pre pa co po nm ts tn ms acs=>
  obtain ⟨l1,l2,l3,l4,lt,lm,la⟩:=hf;have h:=gtr (pre.map PList.enc) (pa.map PathL.enc) (co.map ComL.enc) (po.map Pol.enc) (by simp) (by simp) (by simp) (by simp) (pre.map PList.name) (pa.map PathL.name) (co.map ComL.name) (po.map Pol.name++[nm]) 4 nm (po.length+1) (by simp) (by grind) ts lt (UE l1 l2 l3 l4) s hs tn ms lm acs la (ts.length+1) rfl
  simp only[bP,rP,As,Ao,List.length_singleton] at h;exact h
open Classical in
noncomputable def yl (bs:C5)(s:B5):C3:=if h: ∃st,bz st=bs/\dm (bz st) s (rdT st s) then some (rdT (Classical.choose h) s) else none
noncomputable def pRd:B7->C5->C3
 | [.ref 0 0 0,.str s],bs=>yl bs s
 |_,_=>none
theorem aem {st:PS}{s:B5}(h:dm (bz st) s (rdT st s)):pRd [.ref 0 0 0,.str s] (bz st)=some (rdT st s):=by
 have hx: ∃st',bz st'=bz st/\dm (bz st') s (rdT st' s):=⟨st,rfl,h⟩
 show yl (bz st) s=_
 grind [yl,Xa]
theorem ael {args:B7}{bs:C5}{t:Ret}(h:pRd args bs=some t): ∃s,args= [.ref 0 0 0,.str s]/\dm bs s t:=by
 unfold pRd at h;split at h
 ·rename_i s
  unfold yl at h;split at h
  all_goals grind
 ·cases h
theorem Xn {P:Program}{N:Nums}(hG:GOk P N G)(hm:P.follows .mixedOrders=true){f:Nat}{fn:Func}(hfn:P.funcs[N.num f]? =some fn)(hc:me P N fn=some Qz)(hD: ∀(C:Ctx) (cs:Array Value),cs.size=1->C.num=N.num->C.tnum=N.tnum->C.dfr= [{target:=.fn (.func (N.num 540)) cs,args:= #[]}]->C.dval= .func (.func (N.num 540)) #[] cs->DSem P C fn OY)
  : ∀args bs t,pRd args bs=some t->fq P N f args bs t:=by
 intro args bs t h;obtain ⟨s,rfl,A,caps,hA,hd,hcl,hE⟩:=ael h;exact yT hG hm hfn hc (by decide) (λC cs h0=>hD C cs (by grind)) rfl hA hd hE
noncomputable def GR (f:Nat):Fun:=bif Nat.beq f 466 then .prim false pRd else G f
def PS.close:PS->B5->PS
 | .pre p1 pa co po nm rl,s=>if bn (aw s).1=0 then .pre p1 pa co po nm rl else .top (p1++[⟨nm,rl⟩]) pa co po 1
 | .pat p1 pa co po nm rl,s=>if bn (aw s).1=0 then .pat p1 pa co po nm rl else .top p1 (pa++[⟨nm,rl⟩]) co po 2
 | .com p1 pa co po nm rl,s=>if bn (aw s).1=0 then .com p1 pa co po nm rl else .top p1 pa (co++[⟨nm,rl⟩]) po 3
 |st,_=>st
inductive OkR:PS->PS->Co->Prop
 |h1 (pre pa co po so t):OkR (.top pre pa co po so) (.pre pre pa co po t []) (Qv pre pa co po t)
 |h2 (pre pa co po so t):OkR (.top pre pa co po so) (.pat pre pa co po t []) (Qu pre pa co po t)
 |h3 (pre pa co po so t):OkR (.top pre pa co po so) (.com pre pa co po t []) (Qt pre pa co po t)
 |h4 (pre pa co po so t):OkR (.top pre pa co po so) (.pol pre pa co po t []) (Qr pre pa co po t)
 |r1 (pre pa co po nm rl x):rl.length<64->OkR (.pre pre pa co po nm rl) (.pre pre pa co po nm (rl++[x])) (Pd pre pa co po nm rl x)
 |r2 (pre pa co po nm rl x):rl.length<64->OkR (.pat pre pa co po nm rl) (.pat pre pa co po nm (rl++[x])) (Pb pre pa co po nm rl x)
 |r3 (pre pa co po nm rl x):OkR (.com pre pa co po nm rl) (.com pre pa co po nm (rl++[x])) (O9 pre pa co po nm rl x)
 |pl (pre pa co po nm ts v):OkR (.pol pre pa co po nm ts) (.top pre pa co (po++[⟨nm,ts,v⟩]) 4) (plR pre pa co po nm ts v)
 |pt (pre pa co po nm ts t):ts.length<64->OkR (.pol pre pa co po nm ts) (.term pre pa co po nm ts t [] []) (PG pre pa co po nm ts t)
 |te (pre pa co po nm ts tn ms acs v):OkR (.term pre pa co po nm ts tn ms acs) (.pol pre pa co po nm (ts++[⟨tn,ms,acs,v⟩])) (teR pre pa co po nm ts tn ms acs v)
 |tm (pre pa co po nm ts tn ms acs x):ms.length<64->OkR (.term pre pa co po nm ts tn ms acs) (.term pre pa co po nm ts tn (ms++[x]) acs) (teM pre pa co po nm ts tn ms acs x)
 |ta (pre pa co po nm ts tn ms acs x):acs.length<64->OkR (.term pre pa co po nm ts tn ms acs) (.term pre pa co po nm ts tn ms (acs++[x])) (teA pre pa co po nm ts tn ms acs x)
def sE (o:PO)(st:PS)(r:Ret):Prop:=(∃e z,e≠0/\o= .err e/\r=rE e z st)∨ ∃st' R,o= .ok st'/\r=rO R/\OkR st st' R
theorem dp {st:PS}{e z:Int}(h:e≠0):sE (.err e) st (rE e z st):=.inl ⟨e,z,h,rfl,rfl⟩
theorem iv {st st':PS}{R:Co}(h:OkR st st' R):sE (.ok st') st (rO R):=.inr ⟨st',R,rfl,rfl,h⟩
theorem nn1 {p:Prop}(h:p): ¬ ¬p:=λq=>q h
theorem nn2 {α:Type}{a b:α}(h:a=b): ¬(a≠b):=λq=>q h
theorem vn {st st':PS}{so k:Int}{ks:CF}{t:B5}{R:Co}(h:OkR st st' R):sE (hdO (hdE so k ks t) st') st (rdHd st so k ks t R):=by
 grind [hdO,hdE,rdHd,Aw,dp,iv]
theorem vo (pre pa co po so)(s:B5)(h0:bn (aw s).1≠0):sE (kr pre pa co po so (aw s).1 (aw s).2) (.top pre pa co po so) (rdT (.top pre pa co po so) s):=by
 simp only[rdT,uT,kr];simp only[Aa h0]
 by_cases h1:(aw s).1=cH
 ·simp only[Ac h1];exact vn (.h1 ..)
 simp only[Aa h1]
 by_cases h2:(aw s).1=cG
 ·simp only[Ac h2];exact vn (.h2 ..)
 simp only[Aa h2]
 by_cases h3:(aw s).1=cz
 ·simp only[Ac h3];exact vn (.h3 ..)
 ·simp only[Aa h3];exact vn (.h4 ..)
theorem vk (st:PS)(s:B5):sE (dk st s) (st.close s) (rdT (st.close s) s):=by
 cases st with
 |top pre pa co po so=>
  grind [dk,PS.close,rdT,uT,dp,vo]
 |pre pre pa co po nm rl=>
  simp only[dk,PS.close]
  by_cases h0:bn (aw s).1=0
  ·simp only[Ac h0];simp only[rdT,uT,KR,Cw,Cy]
   by_cases h1:(J.plP s).2=0
   ·simp only[Aa (nn2 h1)]
    by_cases h2:64<=rl.length
    ·grind [dp]
    ·simp only[Aa h2];exact iv (.r1 _ _ _ _ _ _ _ (by omega))
   grind [dp]
  grind [vo]
 |pat pre pa co po nm rl=>
  simp only[dk,PS.close]
  by_cases h0:bn (aw s).1=0
  ·simp only[Ac h0];simp only[rdT,uT,KR,Cw,Cy]
   rcases hP:dJ s with _|⟨b,t⟩
   ·grind [dp]
   ·dsimp only
    by_cases h1:(ff t).isSome=true
    ·simp only[Ac h1]
     by_cases h2:64<=rl.length
     ·grind [dp]
     ·simp only[Aa h2];exact iv (.r2 _ _ _ _ _ _ _ (by omega))
    grind [dp]
  grind [vo]
 |com pre pa co po nm rl=>
  simp only[dk,PS.close]
  by_cases h0:bn (aw s).1=0
  ·simp only[Ac h0];simp only[rdT,uT,KR,Cw,Cy]
   rcases hP:dJ s with _|⟨b,t⟩
   ·grind [dp]
   ·dsimp only
    by_cases h1:(eY b t rl.length).1=0
    ·simp only[Ac h1];exact iv (.r3 ..)
    grind [dp]
  grind [vo]
 |pol pre pa co po nm ts=>
  simp only[dk,PS.close,rdT,KU,KO,List.map_append,An,A6]
  by_cases d1:s=im
  ·simp only[Ac d1];exact iv (.pl ..)
  simp only[Aa d1]
  by_cases d2:s=il
  ·simp only[Ac d2];exact iv (.pl ..)
  simp only[Aa d2]
  by_cases hw:(aw s).1=d8
  ·simp only[Aa (nn2 hw)]
   by_cases ho:bx (aw s).2=true
   ·simp only[Aa (nn1 ho)]
    by_cases hk:64<=ts.length
    ·grind [dp]
    ·simp only[Aa hk]
     split
     ·grind [dp]
     ·exact iv (.pt _ _ _ _ _ _ _ (by omega))
   grind [dp]
  grind [dp]
 |term pre pa co po nm ts tn ms acs=>
  simp only[dk,PS.close,rdT,KU,KO,List.map_append,An,A6]
  by_cases d1:s=cW
  ·simp only[Ac d1];exact iv (.te ..)
  simp only[Aa d1]
  by_cases d2:s=cU
  ·simp only[Ac d2];exact iv (.te ..)
  simp only[Aa d2]
  by_cases d3:s=ca
  ·simp only[Ac d3];exact iv (.te ..)
  simp only[Aa d3]
  by_cases hw:(aw s).1=cI
  ·simp only[Ac hw]
   by_cases ha:acs.length=0
   ·simp only[Aa (nn2 ha)]
    rcases hm:lX (aw s).2 with _|x
    ·grind [dp]
    ·dsimp only
     by_cases hk:64<=ms.length
     ·grind [dp]
     ·simp only[Aa hk]
      split
      ·grind [dp]
      ·exact iv (.tm _ _ _ _ _ _ _ _ _ _ (by omega))
   grind [dp]
  ·simp only[Aa hw]
   by_cases hw2:(aw s).1=fY
   ·simp only[Ac hw2]
    rcases hm:oc (aw s).2 with _|x
    ·grind [dp]
    ·dsimp only
     by_cases hk:64<=acs.length
     ·grind [dp]
     ·simp only[Aa hk]
      split
      ·grind [dp]
      ·exact iv (.ta _ _ _ _ _ _ _ _ _ _ (by omega))
   grind [dp]
section
variable (s:B5)(R:Ret)(pre:CL)(pa:CO)(co:CS)(po:C0)(nm:B5)(m:Nat)(rw:B6)(i fr n:Int)
theorem vK (hs:s.length<2^30)(x:UInt8)(done rest:B5)(e:s=done++x::rest)(hx:x≠10)(kp g a b:Nat)(fr n i:Int)(R:Ret)(hi:i=done.length)(H:az)(g2:Nat)(ih: ∀(T:TV) (c:Nat),Ev GR ⟨gj,⟨(18,.int .i64 (i+1))::(17,.int .i64 s.length)::(0,.str s)::(5,.ref kp g 0)::(6,.int .i64 fr)::(7,.int .i64 n)::(2,.ref 66 g2 0)::T,H,c⟩,[.cell 2 (some 4),.t 3,.t 4],0⟩ R)(T:TV)(c:Nat):Ev GR ⟨gj,⟨(18,.int .i64 i)::(17,.int .i64 s.length)::(0,.str s)::(5,.ref kp g 0)::(6,.int .i64 fr)::(7,.int .i64 n)::(2,.ref 66 g2 0)::T,H,c⟩,[.cell 2 (some 4),.t 3,.t 4],0⟩ R:=by
 have hl:=md e;have hb:s[i.toNat]? =some x:=by rw[e,hi];simp
 have hn:(x.toNat:Int)≠10:=λq=>hx (A5.mp (by simpa using (by omega:x.toNat=10)))
 refine evl ?_
 repeat' (first|refine bp ?_|apply ae<;>intro h)
 all_goals (conv=>whnf)
 refine au [18,17,0,5,6,7,2] [] ?_;exact ih _ _
theorem TU (hs:s.length<=65536)(R:Ret)(ih: ∀(T:TV) (H:az) (c:Nat) (g g0 g1 g2 g3 g4 g5 g6 g7 g8:Nat),Ev GR ⟨gj,⟨(18,.int .i64 0)::(17,.int .i64 s.length)::(0,.str s)::(5,.ref 79 g0 0)::(6,.int .i64 0)::(7,.int .i64 0)::(2,.ref 66 g 0)::T,(66,some (g,.cells [bf,bf,bf,bf]))::(79,some (g0,.cells [.vs 9001 g1 0,.vs 9002 g2 0,.vs 9003 g3 0,.vs 9004 g4 0,.vs 9005 g5 0,.vs 9006 g6 0,.vs 9007 g7 0,.vs 9008 g8 0,.int .i64 0,.bool false,.bool false]))::(9001,some (g1,.vec 2 []))::(9002,some (g2,.vec 2 []))::(9003,some (g3,.vec 2 []))::(9004,some (g4,.vec 3 []))::(9005,some (g5,.vec 1 []))::(9006,some (g6,.vec 1 []))::(9007,some (g7,.vec 1 []))::(9008,some (g8,.vec 1 []))::H,c⟩,[.cell 2 (some 4),.t 3,.t 4],0⟩ R):ag GR 418 [.str s] [] R:=by
 refine gvB (F:=JG) ?_;refine cP 9001 2 [] [(79,some (_,.cells [.vs 9001 _ 0,bf,bf,bf,bf,bf,bf,bf,.int .i64 0,.bool false,.bool false]))] trivial ⟨⟨rfl,⟨LeP.nilV _ _ _,.refl _,.refl _,.refl _,.refl _,.refl _,.refl _,.refl _,.refl _,.refl _,.refl _,trivial⟩⟩,trivial⟩ ?_;refine cP 9002 2 [] [(79,some (_,.cells [.vs 9001 _ 0,.vs 9002 _ 0,bf,bf,bf,bf,bf,bf,.int .i64 0,.bool false,.bool false]))] trivial ⟨⟨rfl,⟨.refl _,LeP.nilV _ _ _,.refl _,.refl _,.refl _,.refl _,.refl _,.refl _,.refl _,.refl _,.refl _,trivial⟩⟩,trivial⟩ ?_;refine cP 9003 2 [] [(79,some (_,.cells [.vs 9001 _ 0,.vs 9002 _ 0,.vs 9003 _ 0,bf,bf,bf,bf,bf,.int .i64 0,.bool false,.bool false]))] trivial ⟨⟨rfl,⟨.refl _,.refl _,LeP.nilV _ _ _,.refl _,.refl _,.refl _,.refl _,.refl _,.refl _,.refl _,.refl _,trivial⟩⟩,trivial⟩ ?_;refine cP 9004 3 [] [(79,some (_,.cells [.vs 9001 _ 0,.vs 9002 _ 0,.vs 9003 _ 0,.vs 9004 _ 0,bf,bf,bf,bf,.int .i64 0,.bool false,.bool false]))] trivial ⟨⟨rfl,⟨.refl _,.refl _,.refl _,LeP.nilV _ _ _,.refl _,.refl _,.refl _,.refl _,.refl _,.refl _,.refl _,trivial⟩⟩,trivial⟩ ?_;refine cP 9005 1 [] [(79,some (_,.cells [.vs 9001 _ 0,.vs 9002 _ 0,.vs 9003 _ 0,.vs 9004 _ 0,.vs 9005 _ 0,bf,bf,bf,.int .i64 0,.bool false,.bool false]))] trivial ⟨⟨rfl,⟨.refl _,.refl _,.refl _,.refl _,LeP.nilV _ _ _,.refl _,.refl _,.refl _,.refl _,.refl _,.refl _,trivial⟩⟩,trivial⟩ ?_;refine cP 9006 1 [] [(79,some (_,.cells [.vs 9001 _ 0,.vs 9002 _ 0,.vs 9003 _ 0,.vs 9004 _ 0,.vs 9005 _ 0,.vs 9006 _ 0,bf,bf,.int .i64 0,.bool false,.bool false]))] trivial ⟨⟨rfl,⟨.refl _,.refl _,.refl _,.refl _,.refl _,LeP.nilV _ _ _,.refl _,.refl _,.refl _,.refl _,.refl _,trivial⟩⟩,trivial⟩ ?_
 refine cP 9007 1 [] [(79,some (_,.cells [.vs 9001 _ 0,.vs 9002 _ 0,.vs 9003 _ 0,.vs 9004 _ 0,.vs 9005 _ 0,.vs 9006 _ 0,.vs 9007 _ 0,bf,.int .i64 0,.bool false,.bool false]))] trivial ⟨⟨rfl,⟨.refl _,.refl _,.refl _,.refl _,.refl _,.refl _,LeP.nilV _ _ _,.refl _,.refl _,.refl _,.refl _,trivial⟩⟩,trivial⟩ ?_;refine cP 9008 1 [] [(79,some (_,.cells [.vs 9001 _ 0,.vs 9002 _ 0,.vs 9003 _ 0,.vs 9004 _ 0,.vs 9005 _ 0,.vs 9006 _ 0,.vs 9007 _ 0,.vs 9008 _ 0,.int .i64 0,.bool false,.bool false]))] trivial ⟨⟨rfl,⟨.refl _,.refl _,.refl _,.refl _,.refl _,.refl _,.refl _,LeP.nilV _ _ _,.refl _,.refl _,.refl _,trivial⟩⟩,trivial⟩ ?_
 (conv=>whnf)
 refine au [18,17,0,5,6,7,2] [66,79,9001,9002,9003,9004,9005,9006,9007,9008] ?_;exact ih _ _ _ _ _ _ _ _ _ _ _ _ _
def IvT (e1 e2 e3 e4:B6)(k1 k2 k3 k4:CF)(n1 n2 n3 n4:Nat)(so i fr n:Int):Prop:= ∀(T:TV)(H:az)(c:Nat)(g g0 g1 g2 g3 g4 g5 g6 g7 g8:Nat),Ev GR ⟨gj,⟨(18,.int .i64 i)::(17,.int .i64 s.length)::(0,.str s)::(5,.ref 79 g0 0)::(6,.int .i64 fr)::(7,.int .i64 n)::(2,.ref 66 g 0)::T,(66,some (g,.cells [bf,bf,bf,bf]))::(79,some (g0,.cells [.vs 9001 g1 n1,.vs 9002 g2 n2,.vs 9003 g3 n3,.vs 9004 g4 n4,.vs 9005 g5 n1,.vs 9006 g6 n2,.vs 9007 g7 n3,.vs 9008 g8 n4,.int .i64 so,.bool false,.bool false]))::(9001,some (g1,.vec 2 e1))::(9002,some (g2,.vec 2 e2))::(9003,some (g3,.vec 2 e3))::(9004,some (g4,.vec 3 e4))::(9005,some (g5,.vec 1 (k1.map ah)))::(9006,some (g6,.vec 1 (k2.map ah)))::(9007,some (g7,.vec 1 (k3.map ah)))::(9008,some (g8,.vec 1 (k4.map ah)))::H,c⟩,[.cell 2 (some 4),.t 3,.t 4],0⟩ R
def Iv1:Prop:= ∀(T:TV)(H:az)(c:Nat)(g g0 g1 g2 g3 g4 g5 g6 g7 g8 g9:Nat),Ev GR ⟨gj,⟨(18,.int .i64 i)::(17,.int .i64 s.length)::(0,.str s)::(5,.ref 79 g0 0)::(6,.int .i64 fr)::(7,.int .i64 n)::(2,.ref 66 g 0)::T,(66,some (g,.cells [bf,bf,bf,bf]))::(79,some (g0,.cells [.vs 9001 g1 (pre.length+1),.vs 9002 g2 pa.length,.vs 9003 g3 co.length,.vs 9004 g4 po.length,.vs 9005 g5 (pre.length+1),.vs 9006 g6 pa.length,.vs 9007 g7 co.length,.vs 9008 g8 po.length,.int .i64 1,.bool false,.bool false]))::(9001,some (g1,.vec 2 ((pre.map PList.enc)++[[AV.str nm,AV.vs 9009 g9 m]])))::(9002,some (g2,.vec 2 (pa.map PathL.enc)))::(9003,some (g3,.vec 2 (co.map ComL.enc)))::(9004,some (g4,.vec 3 (po.map Pol.enc)))::(9005,some (g5,.vec 1 ((pre.map PList.name++[nm]).map ah)))::(9006,some (g6,.vec 1 ((pa.map PathL.name).map ah)))::(9007,some (g7,.vec 1 ((co.map ComL.name).map ah)))::(9008,some (g8,.vec 1 ((po.map Pol.name).map ah)))::(9009,some (g9,.vec 5 rw))::H,c⟩,[.cell 2 (some 4),.t 3,.t 4],0⟩ R
def Iv2:Prop:= ∀(T:TV)(H:az)(c:Nat)(g g0 g1 g2 g3 g4 g5 g6 g7 g8 g9:Nat),Ev GR ⟨gj,⟨(18,.int .i64 i)::(17,.int .i64 s.length)::(0,.str s)::(5,.ref 79 g0 0)::(6,.int .i64 fr)::(7,.int .i64 n)::(2,.ref 66 g 0)::T,(66,some (g,.cells [bf,bf,bf,bf]))::(79,some (g0,.cells [.vs 9001 g1 pre.length,.vs 9002 g2 (pa.length+1),.vs 9003 g3 co.length,.vs 9004 g4 po.length,.vs 9005 g5 pre.length,.vs 9006 g6 (pa.length+1),.vs 9007 g7 co.length,.vs 9008 g8 po.length,.int .i64 2,.bool false,.bool false]))::(9001,some (g1,.vec 2 (pre.map PList.enc)))::(9002,some (g2,.vec 2 ((pa.map PathL.enc)++[[AV.str nm,AV.vs 9009 g9 m]])))::(9003,some (g3,.vec 2 (co.map ComL.enc)))::(9004,some (g4,.vec 3 (po.map Pol.enc)))::(9005,some (g5,.vec 1 ((pre.map PList.name).map ah)))::(9006,some (g6,.vec 1 ((pa.map PathL.name++[nm]).map ah)))::(9007,some (g7,.vec 1 ((co.map ComL.name).map ah)))::(9008,some (g8,.vec 1 ((po.map Pol.name).map ah)))::(9009,some (g9,.vec 2 rw))::H,c⟩,[.cell 2 (some 4),.t 3,.t 4],0⟩ R
def Iv3:Prop:= ∀(T:TV)(H:az)(c:Nat)(g g0 g1 g2 g3 g4 g5 g6 g7 g8 g9:Nat),Ev GR ⟨gj,⟨(18,.int .i64 i)::(17,.int .i64 s.length)::(0,.str s)::(5,.ref 79 g0 0)::(6,.int .i64 fr)::(7,.int .i64 n)::(2,.ref 66 g 0)::T,(66,some (g,.cells [bf,bf,bf,bf]))::(79,some (g0,.cells [.vs 9001 g1 pre.length,.vs 9002 g2 pa.length,.vs 9003 g3 (co.length+1),.vs 9004 g4 po.length,.vs 9005 g5 pre.length,.vs 9006 g6 pa.length,.vs 9007 g7 (co.length+1),.vs 9008 g8 po.length,.int .i64 3,.bool false,.bool false]))::(9001,some (g1,.vec 2 (pre.map PList.enc)))::(9002,some (g2,.vec 2 (pa.map PathL.enc)))::(9003,some (g3,.vec 2 ((co.map ComL.enc)++[[AV.str nm,AV.vs 9009 g9 m]])))::(9004,some (g4,.vec 3 (po.map Pol.enc)))::(9005,some (g5,.vec 1 ((pre.map PList.name).map ah)))::(9006,some (g6,.vec 1 ((pa.map PathL.name).map ah)))::(9007,some (g7,.vec 1 ((co.map ComL.name++[nm]).map ah)))::(9008,some (g8,.vec 1 ((po.map Pol.name).map ah)))::(9009,some (g9,.vec 3 rw))::H,c⟩,[.cell 2 (some 4),.t 3,.t 4],0⟩ R
def Iv4 (pol:Bool)(df:Int)(m:Nat)(rw:B6)(i fr n:Int):Prop:= ∀(T:TV)(H:az)(c:Nat)(g g0 g1 g2 g3 g4 g5 g6 g7 g8 g9:Nat),Ev GR ⟨gj,⟨(18,.int .i64 i)::(17,.int .i64 s.length)::(0,.str s)::(5,.ref 79 g0 0)::(6,.int .i64 fr)::(7,.int .i64 n)::(2,.ref 66 g 0)::T,(66,some (g,.cells [bf,bf,bf,bf]))::(79,some (g0,.cells [.vs 9001 g1 pre.length,.vs 9002 g2 pa.length,.vs 9003 g3 co.length,.vs 9004 g4 (po.length+1),.vs 9005 g5 pre.length,.vs 9006 g6 pa.length,.vs 9007 g7 co.length,.vs 9008 g8 (po.length+1),.int .i64 4,.bool pol,.bool false]))::(9001,some (g1,.vec 2 (pre.map PList.enc)))::(9002,some (g2,.vec 2 (pa.map PathL.enc)))::(9003,some (g3,.vec 2 (co.map ComL.enc)))::(9004,some (g4,.vec 3 ((po.map Pol.enc)++[[AV.str nm,AV.vs 9009 g9 m,AV.int .i64 df]])))::(9005,some (g5,.vec 1 ((pre.map PList.name).map ah)))::(9006,some (g6,.vec 1 ((pa.map PathL.name).map ah)))::(9007,some (g7,.vec 1 ((co.map ComL.name).map ah)))::(9008,some (g8,.vec 1 ((po.map Pol.name++[nm]).map ah)))::(9009,some (g9,.vec 4 rw))::H,c⟩,[.cell 2 (some 4),.t 3,.t 4],0⟩ R
def Iv5 (ts:C4)(tn:B5)(trm:Bool)(v:Int)(mm:Nat)(mr:B6)(an:Nat)(ar:B6)(i fr n:Int):Prop:= ∀(T:TV)(H:az)(c:Nat)(g g0 g1 g2 g3 g4 g5 g6 g7 g8 g9 ga gb:Nat),Ev GR ⟨gj,⟨(18,.int .i64 i)::(17,.int .i64 s.length)::(0,.str s)::(5,.ref 79 g0 0)::(6,.int .i64 fr)::(7,.int .i64 n)::(2,.ref 66 g 0)::T,(66,some (g,.cells [bf,bf,bf,bf]))::(79,some (g0,.cells [.vs 9001 g1 pre.length,.vs 9002 g2 pa.length,.vs 9003 g3 co.length,.vs 9004 g4 (po.length+1),.vs 9005 g5 pre.length,.vs 9006 g6 pa.length,.vs 9007 g7 co.length,.vs 9008 g8 (po.length+1),.int .i64 4,.bool true,.bool trm]))::(9001,some (g1,.vec 2 (pre.map PList.enc)))::(9002,some (g2,.vec 2 (pa.map PathL.enc)))::(9003,some (g3,.vec 2 (co.map ComL.enc)))::(9004,some (g4,.vec 3 ((po.map Pol.enc)++[[AV.str nm,AV.vs 9009 g9 (ts.length+1),AV.int .i64 0]])))::(9005,some (g5,.vec 1 ((pre.map PList.name).map ah)))::(9006,some (g6,.vec 1 ((pa.map PathL.name).map ah)))::(9007,some (g7,.vec 1 ((co.map ComL.name).map ah)))::(9008,some (g8,.vec 1 ((po.map Pol.name++[nm]).map ah)))::(9009,some (g9,.vec 4 (ts.map Trm.enc++[[AV.str tn,AV.vs 9010 ga mm,AV.vs 9011 gb an,AV.int .i64 v]])))::(9010,some (ga,.vec 6 mr))::(9011,some (gb,.vec 5 ar))::H,c⟩,[.cell 2 (some 4),.t 3,.t 4],0⟩ R
end
structure Ln (s acc done rest:B5)(i fr n:Int):Prop where
 hs:s.length<=65536
 e:s=done++(acc++10::rest)
 hi:i=done.length+acc.length
 hfr:fr=done.length
 hn0:0<=n
 hn:n<=65536
section
variable {s acc done rest:B5}{i fr n:Int}(q:Ln s acc done rest i fr n)(pre:CL)(pa:CO)(co:CS)(po:C0)(so:Int)(t:B5)(R:Ret)
include q
theorem Ln.all:s.length<=65536/\i=done.length+acc.length/\fr=done.length/\0<=n/\n<=65536/\s.length=done.length+(acc.length+(rest.length+1))/\s[i.toNat]? =some 10/\(s.drop fr.toNat).take (i.toNat-fr.toNat)=acc:=by
 obtain ⟨hs,e,hi,hfr,hn0,hn⟩:=q;refine ⟨hs,hi,hfr,hn0,hn,by simp[e],?_,?_⟩
 ·rw[show i.toNat=done.length+acc.length by omega,e];simp
 ·rw[show i.toNat-fr.toNat=acc.length by omega,show fr.toNat=done.length by omega,e];simp
theorem P9 (er z:Int)(he:er≠0)(hG:ag GR 466 [.ref 0 0 0,.str acc] (bz (.top pre pa co po so)) (rE er z (.top pre pa co po so))):IvT s (bQ (cd,n+1,er)) (pre.map PList.enc) (pa.map PathL.enc) (co.map ComL.enc) (po.map Pol.enc) (pre.map PList.name) (pa.map PathL.name) (co.map ComL.name) (po.map Pol.name) pre.length pa.length co.length po.length so i fr n:=by
 intro T H c g g0 g1 g2 g3 g4 g5 g6 g7 g8;obtain ⟨hs,hi,hfr,hn0,hn,hl,hb,hsl⟩:=q.all;dsimp only[bz,rE,o3] at hG;refine evl ?_
 repeat' (first|refine bp ?_|apply ae<;>intro h)
 (conv=>whnf)
 rw[hsl];refine kP [(79,_,.cells _),(9001,_,.vec _ _),(9002,_,.vec _ _),(9003,_,.vec _ _),(9004,_,.vec _ _),(9005,_,.vec _ _),(9006,_,.vec _ _),(9007,_,.vec _ _),(9008,_,.vec _ _)] [] lD trivial hG ?_
 repeat' (first|refine aW ?_|apply ae<;>intro h)
 (conv=>whnf)
 refine b9 [] [(66,some (_,.cells [.sl 2 [],.sl 2 [],.sl 2 [],.sl 3 []]))] trivial ⟨⟨rfl,⟨LeP.nil _,LeP.nil _,LeP.nil _,LeP.nil _,trivial⟩⟩,trivial⟩ ?_;refine ap ?_
 (conv=>whnf)
 first|(refine ⟨rfl,?_⟩;trivial)|(refine ⟨?_,?_⟩; ·rfl)|(apply congrArg;rfl)|(unfold bQ cd PSet.enc;rfl)
theorem Ul (hG:ag GR 466 [.ref 0 0 0,.str acc] (bz (.top pre pa co po so)) (rO (Qv pre pa co po t)))(ih:Iv1 s R pre pa co po t 0 [] (i+1) (i+1) (n+1)):IvT s R (pre.map PList.enc) (pa.map PathL.enc) (co.map ComL.enc) (po.map Pol.enc) (pre.map PList.name) (pa.map PathL.name) (co.map ComL.name) (po.map Pol.name) pre.length pa.length co.length po.length so i fr n:=by
 intro T H c g g0 g1 g2 g3 g4 g5 g6 g7 g8;obtain ⟨hs,hi,hfr,hn0,hn,hl,hb,hsl⟩:=q.all;dsimp only[bz,rO,Qv] at hG;refine evl ?_
 repeat' (first|refine bp ?_|apply ae<;>intro h)
 (conv=>whnf)
 rw[hsl];refine kP [(79,_,.cells _),(9001,_,.vec _ _),(9002,_,.vec _ _),(9003,_,.vec _ _),(9004,_,.vec _ _),(9005,_,.vec _ _),(9006,_,.vec _ _),(9007,_,.vec _ _),(9008,_,.vec _ _)] [] lD trivial hG ?_
 repeat' (first|refine aW ?_|apply ae<;>intro h)
 (conv=>whnf)
 refine cP 9009 5 [] [(9001,some (_,.vec 2 ((pre.map PList.enc)++[[AV.str t,AV.vs 9009 _ 0]])))] trivial ⟨⟨rfl,rfl,LLLe.app _ ⟨⟨.refl _,LeP.nilV _ _ _,trivial⟩,trivial⟩⟩,trivial⟩ ?_;rw[show ((pre.map PList.name).map ah)++[[.str t]]=((pre.map PList.name++[t]).map ah) by simp[ah]]
 (conv=>whnf)
 refine au [18,17,0,5,6,7,2] [66,79,9001,9002,9003,9004,9005,9006,9007,9008,9009] ?_;exact ih _ _ _ _ _ _ _ _ _ _ _ _ _ _
theorem Uk (hG:ag GR 466 [.ref 0 0 0,.str acc] (bz (.top pre pa co po so)) (rO (Qu pre pa co po t)))(ih:Iv2 s R pre pa co po t 0 [] (i+1) (i+1) (n+1)):IvT s R (pre.map PList.enc) (pa.map PathL.enc) (co.map ComL.enc) (po.map Pol.enc) (pre.map PList.name) (pa.map PathL.name) (co.map ComL.name) (po.map Pol.name) pre.length pa.length co.length po.length so i fr n:=by
 intro T H c g g0 g1 g2 g3 g4 g5 g6 g7 g8;obtain ⟨hs,hi,hfr,hn0,hn,hl,hb,hsl⟩:=q.all;dsimp only[bz,rO,Qu] at hG;refine evl ?_
 repeat' (first|refine bp ?_|apply ae<;>intro h)
 (conv=>whnf)
 rw[hsl];refine kP [(79,_,.cells _),(9001,_,.vec _ _),(9002,_,.vec _ _),(9003,_,.vec _ _),(9004,_,.vec _ _),(9005,_,.vec _ _),(9006,_,.vec _ _),(9007,_,.vec _ _),(9008,_,.vec _ _)] [] lD trivial hG ?_
 repeat' (first|refine aW ?_|apply ae<;>intro h)
 (conv=>whnf)
 refine cP 9009 2 [] [(9002,some (_,.vec 2 ((pa.map PathL.enc)++[[AV.str t,AV.vs 9009 _ 0]])))] trivial ⟨⟨rfl,rfl,LLLe.app _ ⟨⟨.refl _,LeP.nilV _ _ _,trivial⟩,trivial⟩⟩,trivial⟩ ?_;rw[show ((pa.map PathL.name).map ah)++[[.str t]]=((pa.map PathL.name++[t]).map ah) by simp[ah]]
 (conv=>whnf)
 refine au [18,17,0,5,6,7,2] [66,79,9001,9002,9003,9004,9005,9006,9007,9008,9009] ?_;exact ih _ _ _ _ _ _ _ _ _ _ _ _ _ _
theorem Uj (hG:ag GR 466 [.ref 0 0 0,.str acc] (bz (.top pre pa co po so)) (rO (Qt pre pa co po t)))(ih:Iv3 s R pre pa co po t 0 [] (i+1) (i+1) (n+1)):IvT s R (pre.map PList.enc) (pa.map PathL.enc) (co.map ComL.enc) (po.map Pol.enc) (pre.map PList.name) (pa.map PathL.name) (co.map ComL.name) (po.map Pol.name) pre.length pa.length co.length po.length so i fr n:=by
 intro T H c g g0 g1 g2 g3 g4 g5 g6 g7 g8;obtain ⟨hs,hi,hfr,hn0,hn,hl,hb,hsl⟩:=q.all;dsimp only[bz,rO,Qt] at hG;refine evl ?_
 repeat' (first|refine bp ?_|apply ae<;>intro h)
 (conv=>whnf)
 rw[hsl];refine kP [(79,_,.cells _),(9001,_,.vec _ _),(9002,_,.vec _ _),(9003,_,.vec _ _),(9004,_,.vec _ _),(9005,_,.vec _ _),(9006,_,.vec _ _),(9007,_,.vec _ _),(9008,_,.vec _ _)] [] lD trivial hG ?_
 repeat' (first|refine aW ?_|apply ae<;>intro h)
 (conv=>whnf)
 refine cP 9009 3 [] [(9003,some (_,.vec 2 ((co.map ComL.enc)++[[AV.str t,AV.vs 9009 _ 0]])))] trivial ⟨⟨rfl,rfl,LLLe.app _ ⟨⟨.refl _,LeP.nilV _ _ _,trivial⟩,trivial⟩⟩,trivial⟩ ?_;rw[show ((co.map ComL.name).map ah)++[[.str t]]=((co.map ComL.name++[t]).map ah) by simp[ah]]
 (conv=>whnf)
 refine au [18,17,0,5,6,7,2] [66,79,9001,9002,9003,9004,9005,9006,9007,9008,9009] ?_;exact ih _ _ _ _ _ _ _ _ _ _ _ _ _ _
theorem Ui (hG:ag GR 466 [.ref 0 0 0,.str acc] (bz (.top pre pa co po so)) (rO (Qr pre pa co po t)))(ih:Iv4 s R pre pa co po t true 0 0 [] (i+1) (i+1) (n+1)):IvT s R (pre.map PList.enc) (pa.map PathL.enc) (co.map ComL.enc) (po.map Pol.enc) (pre.map PList.name) (pa.map PathL.name) (co.map ComL.name) (po.map Pol.name) pre.length pa.length co.length po.length so i fr n:=by
 intro T H c g g0 g1 g2 g3 g4 g5 g6 g7 g8;obtain ⟨hs,hi,hfr,hn0,hn,hl,hb,hsl⟩:=q.all;dsimp only[bz,rO,Qr] at hG;refine evl ?_
 repeat' (first|refine bp ?_|apply ae<;>intro h)
 (conv=>whnf)
 rw[hsl];refine kP [(79,_,.cells _),(9001,_,.vec _ _),(9002,_,.vec _ _),(9003,_,.vec _ _),(9004,_,.vec _ _),(9005,_,.vec _ _),(9006,_,.vec _ _),(9007,_,.vec _ _),(9008,_,.vec _ _)] [] lD trivial hG ?_
 repeat' (first|refine aW ?_|apply ae<;>intro h)
 (conv=>whnf)
 refine cP 9009 4 [] [(9004,some (_,.vec 3 ((po.map Pol.enc)++[[AV.str t,AV.vs 9009 _ 0,AV.int .i64 0]])))] trivial ⟨⟨rfl,rfl,LLLe.app _ ⟨⟨.refl _,LeP.nilV _ _ _,.refl _,trivial⟩,trivial⟩⟩,trivial⟩ ?_;rw[show ((po.map Pol.name).map ah)++[[.str t]]=((po.map Pol.name++[t]).map ah) by simp[ah]]
 (conv=>whnf)
 refine au [18,17,0,5,6,7,2] [66,79,9001,9002,9003,9004,9005,9006,9007,9008,9009] ?_;exact ih _ _ _ _ _ _ _ _ _ _ _ _ _ _
end
end Go.AM.IR
