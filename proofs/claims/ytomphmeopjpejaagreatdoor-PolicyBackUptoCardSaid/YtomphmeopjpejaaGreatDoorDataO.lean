/- What functions of this program give. -/
import Derived.Test.YtomphmeopjpejaaGreatDoorDataN
set_option linter.unusedSectionVars false
set_option linter.unusedVariables false
set_option linter.unusedSimpArgs false
set_option maxHeartbeats 4000000
set_option maxRecDepth 20000
namespace Go.AM.IR
def XQ:AV->Option CS
 | .ifc t (.agg [.int .i64 e])=>if t=138 then some [[.int .i64 e]] else none
 |_=>none
def dw (bs:Dn)(s:CF)(t:Ret):Prop:= ∃A caps,ZR.pre G [.ref 0 0 0,.str s] bs=some A/\bJ A.tm D0= .fn 540 caps/\caps.length=1/\Ev G (ZR.cfg XQ A bs.length) t
theorem flg {f:Bool}{c:Nat}(h:c≠0):f=decide ((bif f then 0 else c)=0):=by cases f<;>simp[h]
theorem pkE (k:C5):aa (k.map am)=true:=by
 induction k with
 |nil=>rfl
 |cons a r ih=>simp only[Ao,aa,ih,Bool.and_true];rfl
section
variable {e1 e2 e3 e4:CS}(p1:aa e1=true)(p2:aa e2=true)(p3:aa e3=true)(p4:aa e4=true){k1 k2 k3 k4:C5}{n1 n2 n3 n4:Nat}{so mo:Int}{nm:CF}{x y:Nat}{r w:CS}
include p1 p2 p3 p4
theorem xK {h1 h2 h3 h4 h5 h6 h7 h8:CS}{m1 m2 m3 m4 m5 m6 m7 m8:Nat}{pol trm:Bool}{f1 f2 f3 f4 f5 f6 f7 f8:Bool}(s:CF)(h:ab G 541 [.ref 0 0 0,.str s] (bP n1 n2 n3 n4 so false false e1 e2 e3 e4 k1 k2 k3 k4 []) ⟨.tup [],mkR [(true,.cells [.vs 1 0 m1,.vs 2 0 m2,.vs 3 0 m3,.vs 4 0 m4,.vs 5 0 m5,.vs 6 0 m6,.vs 7 0 m7,.vs 8 0 m8,.int .i64 mo,.bool pol,.bool trm]),(f1,.vec 2 h1),(f2,.vec 2 h2),(f3,.vec 2 h3),(f4,.vec 3 h4),(f5,.vec 1 h5),(f6,.vec 1 h6),(f7,.vec 1 h7),(f8,.vec 1 h8)]⟩)(q:aa h1=true/\aa h2=true/\aa h3=true/\aa h4=true/\aa h5=true/\aa h6=true/\aa h7=true/\aa h8=true):dw (bP n1 n2 n3 n4 so false false e1 e2 e3 e4 k1 k2 k3 k4 []) s ⟨.int .i64 0,mkR [(true,.cells [.vs 1 0 m1,.vs 2 0 m2,.vs 3 0 m3,.vs 4 0 m4,.vs 5 0 m5,.vs 6 0 m6,.vs 7 0 m7,.vs 8 0 m8,.int .i64 mo,.bool pol,.bool trm]),(f1,.vec 2 h1),(f2,.vec 2 h2),(f3,.vec 2 h3),(f4,.vec 3 h4),(f5,.vec 1 h5),(f6,.vec 1 h6),(f7,.vec 1 h7),(f8,.vec 1 h8)]⟩:=by
 obtain ⟨y1,y2,y3,y4,y5,y6,y7,y8⟩:=q;have z1:=pkE k1;have z2:=pkE k2;have z3:=pkE k3;have z4:=pkE k4
 unfold bP at*;refine ⟨_,_,rfl,rfl,rfl,?_⟩;refine wk3 ?_
 repeat' (first|refine aQ ?_|apply ae<;>intro h)
 (conv=>whnf)
 refine kP pzA [] lw trivial h ?_
 repeat' (first|refine aQ ?_|apply ae<;>intro h)
 (first|refine cY pzA [] [true,f1,f2,f3,f4,f5,f6,f7,f8] ?_ (hfl:=by repeat' (first|exact trivial|refine ⟨(by first|rfl|exact flg (by omega)),?_⟩))|refine cZ pzA [] [true,f1,f2,f3,f4,f5,f6,f7,f8] ?_ (hfl:=by repeat' (first|exact trivial|refine ⟨(by first|rfl|exact flg (by omega)),?_⟩)))
 (conv=>whnf)
 refine cp ?_;rfl
theorem OD (s:CF)(e:Int)(h:ab G 541 [.ref 0 0 0,.str s] (bP n1 n2 n3 n4 so false false e1 e2 e3 e4 k1 k2 k3 k4 []) ⟨pnV (.ifc 138 (.agg [.int .i64 e])),rP n1 n2 n3 n4 mo false false (.vec 2 e1) (.vec 2 e2) (.vec 2 e3) (.vec 3 e4) k1 k2 k3 k4 []⟩):dw (bP n1 n2 n3 n4 so false false e1 e2 e3 e4 k1 k2 k3 k4 []) s ⟨.int .i64 e,rP n1 n2 n3 n4 mo false false (.vec 2 e1) (.vec 2 e2) (.vec 2 e3) (.vec 3 e4) k1 k2 k3 k4 []⟩:=by
 have z1:=pkE k1;have z2:=pkE k2;have z3:=pkE k3;have z4:=pkE k4
 unfold bP rP at*;replace h:=λ(_:True)=>h
 refine ⟨_,_,rfl,rfl,rfl,?_⟩;refine wk3 ?_
 repeat' (first|refine aQ ?_|apply ae<;>intro h)
 (conv=>whnf)
 refine CallG.stop ?_;refine jq 541 _ (h trivial) (λQ hr hg=>?_)
 refine kP pzA [] lw trivial hg ?_ (hE:=by rw[hr];kernel_rfl)
 refine mw pzA [] iC rfl rfl rfl rfl rfl rfl lw (by exact Nat.succ_pos _) rfl (by kernel_rfl) trivial (by repeat' (first|exact trivial|rfl|assumption|refine And.intro ?_ ?_|(simp[PB.okX,PB.okS,PB.renS,aP,aa,AV.pure,Blk.renS,Blk.okS,Blk.okX,AV.okS,AV.okX, *];done)|fail)) (by repeat' (first|exact trivial|refine ⟨(by first|rfl|exact flg (by omega)),?_⟩)) ?_
 rfl
theorem acI (pr:aa r=true)(pw:aa w=true)(s:CF)(h:ab G 541 [.ref 0 0 0,.str s] (bP n1 n2 n3 n4 so false false (e1++[[AV.str nm,AV.vs 9 0 x]]) e2 e3 e4 k1 k2 k3 k4 [.vec 5 r]) ⟨.tup [],rP n1 n2 n3 n4 mo false false (.nest 2 e1 [[AV.str nm,AV.vs 9 0 y]]) (.vec 2 e2) (.vec 2 e3) (.vec 3 e4) k1 k2 k3 k4 [(false,.vec 5 w)]⟩):dw (bP n1 n2 n3 n4 so false false (e1++[[AV.str nm,AV.vs 9 0 x]]) e2 e3 e4 k1 k2 k3 k4 [.vec 5 r]) s ⟨.int .i64 0,rP n1 n2 n3 n4 mo false false (.nest 2 e1 [[AV.str nm,AV.vs 9 0 y]]) (.vec 2 e2) (.vec 2 e3) (.vec 3 e4) k1 k2 k3 k4 [(false,.vec 5 w)]⟩:=by
 have z1:=pkE k1;have z2:=pkE k2;have z3:=pkE k3;have z4:=pkE k4
 unfold bP rP at*;refine ⟨_,_,rfl,rfl,rfl,?_⟩;refine wk3 ?_
 repeat' (first|refine aQ ?_|apply ae<;>intro h)
 (conv=>whnf)
 refine kP lC [] ck trivial h ?_
 repeat' (first|refine aQ ?_|apply ae<;>intro h)
 (first|refine cY lC [] [true,true,true,true,true,true,true,true,true,false] ?_ (hfl:=by repeat' (first|exact trivial|refine ⟨(by first|rfl|exact flg (by omega)),?_⟩))|refine cZ lC [] [true,true,true,true,true,true,true,true,true,false] ?_ (hfl:=by repeat' (first|exact trivial|refine ⟨(by first|rfl|exact flg (by omega)),?_⟩)))
 (conv=>whnf)
 refine cp ?_;rfl
theorem Ib {x:Nat}{r:CS}(pr:aa r=true)(s:CF)(e:Int)(h:ab G 541 [.ref 0 0 0,.str s] (bP n1 n2 n3 n4 so false false (e1++[[AV.str nm,AV.vs 9 0 x]]) e2 e3 e4 k1 k2 k3 k4 [.vec 5 r]) ⟨pnV (.ifc 138 (.agg [.int .i64 e])),rP n1 n2 n3 n4 mo false false (.nest 2 e1 [[AV.str nm,AV.vs 9 0 x]]) (.vec 2 e2) (.vec 2 e3) (.vec 3 e4) k1 k2 k3 k4 [(true,.vec 5 r)]⟩):dw (bP n1 n2 n3 n4 so false false (e1++[[AV.str nm,AV.vs 9 0 x]]) e2 e3 e4 k1 k2 k3 k4 [.vec 5 r]) s ⟨.int .i64 e,rP n1 n2 n3 n4 mo false false (.nest 2 e1 [[AV.str nm,AV.vs 9 0 x]]) (.vec 2 e2) (.vec 2 e3) (.vec 3 e4) k1 k2 k3 k4 [(true,.vec 5 r)]⟩:=by
 have z1:=pkE k1;have z2:=pkE k2;have z3:=pkE k3;have z4:=pkE k4
 unfold bP rP at*;replace h:=λ(_:True)=>h
 refine ⟨_,_,rfl,rfl,rfl,?_⟩;refine wk3 ?_
 repeat' (first|refine aQ ?_|apply ae<;>intro h)
 (conv=>whnf)
 refine CallG.stop ?_;refine jq 541 _ (h trivial) (λQ hr hg=>?_)
 refine kP lC [] ck trivial hg ?_ (hE:=by rw[hr];kernel_rfl)
 refine mw lC [] cW rfl rfl rfl rfl rfl rfl ck (by exact Nat.succ_pos _) rfl (by kernel_rfl) trivial (by repeat' (first|exact trivial|rfl|assumption|refine And.intro ?_ ?_|(simp[PB.okX,PB.okS,PB.renS,aP,aa,AV.pure,Blk.renS,Blk.okS,Blk.okX,AV.okS,AV.okX, *];done)|fail)) (by repeat' (first|exact trivial|refine ⟨(by first|rfl|exact flg (by omega)),?_⟩)) ?_
 rfl
theorem acH (pr:aa r=true)(pw:aa w=true)(s:CF)(h:ab G 541 [.ref 0 0 0,.str s] (bP n1 n2 n3 n4 so false false e1 (e2++[[AV.str nm,AV.vs 9 0 x]]) e3 e4 k1 k2 k3 k4 [.vec 2 r]) ⟨.tup [],rP n1 n2 n3 n4 mo false false (.vec 2 e1) (.nest 2 e2 [[AV.str nm,AV.vs 9 0 y]]) (.vec 2 e3) (.vec 3 e4) k1 k2 k3 k4 [(false,.vec 2 w)]⟩):dw (bP n1 n2 n3 n4 so false false e1 (e2++[[AV.str nm,AV.vs 9 0 x]]) e3 e4 k1 k2 k3 k4 [.vec 2 r]) s ⟨.int .i64 0,rP n1 n2 n3 n4 mo false false (.vec 2 e1) (.nest 2 e2 [[AV.str nm,AV.vs 9 0 y]]) (.vec 2 e3) (.vec 3 e4) k1 k2 k3 k4 [(false,.vec 2 w)]⟩:=by
 have z1:=pkE k1;have z2:=pkE k2;have z3:=pkE k3;have z4:=pkE k4
 unfold bP rP at*;refine ⟨_,_,rfl,rfl,rfl,?_⟩;refine wk3 ?_
 repeat' (first|refine aQ ?_|apply ae<;>intro h)
 (conv=>whnf)
 refine kP j3 [] ck trivial h ?_
 repeat' (first|refine aQ ?_|apply ae<;>intro h)
 (first|refine cY j3 [] [true,true,true,true,true,true,true,true,true,false] ?_ (hfl:=by repeat' (first|exact trivial|refine ⟨(by first|rfl|exact flg (by omega)),?_⟩))|refine cZ j3 [] [true,true,true,true,true,true,true,true,true,false] ?_ (hfl:=by repeat' (first|exact trivial|refine ⟨(by first|rfl|exact flg (by omega)),?_⟩)))
 (conv=>whnf)
 refine cp ?_;rfl
theorem vN {x:Nat}{r:CS}(pr:aa r=true)(s:CF)(e:Int)(h:ab G 541 [.ref 0 0 0,.str s] (bP n1 n2 n3 n4 so false false e1 (e2++[[AV.str nm,AV.vs 9 0 x]]) e3 e4 k1 k2 k3 k4 [.vec 2 r]) ⟨pnV (.ifc 138 (.agg [.int .i64 e])),rP n1 n2 n3 n4 mo false false (.vec 2 e1) (.nest 2 e2 [[AV.str nm,AV.vs 9 0 x]]) (.vec 2 e3) (.vec 3 e4) k1 k2 k3 k4 [(true,.vec 2 r)]⟩):dw (bP n1 n2 n3 n4 so false false e1 (e2++[[AV.str nm,AV.vs 9 0 x]]) e3 e4 k1 k2 k3 k4 [.vec 2 r]) s ⟨.int .i64 e,rP n1 n2 n3 n4 mo false false (.vec 2 e1) (.nest 2 e2 [[AV.str nm,AV.vs 9 0 x]]) (.vec 2 e3) (.vec 3 e4) k1 k2 k3 k4 [(true,.vec 2 r)]⟩:=by
 have z1:=pkE k1;have z2:=pkE k2;have z3:=pkE k3;have z4:=pkE k4
 unfold bP rP at*;replace h:=λ(_:True)=>h
 refine ⟨_,_,rfl,rfl,rfl,?_⟩;refine wk3 ?_
 repeat' (first|refine aQ ?_|apply ae<;>intro h)
 (conv=>whnf)
 refine CallG.stop ?_;refine jq 541 _ (h trivial) (λQ hr hg=>?_)
 refine kP j3 [] ck trivial hg ?_ (hE:=by rw[hr];kernel_rfl)
 refine mw j3 [] cW rfl rfl rfl rfl rfl rfl ck (by exact Nat.succ_pos _) rfl (by kernel_rfl) trivial (by repeat' (first|exact trivial|rfl|assumption|refine And.intro ?_ ?_|(simp[PB.okX,PB.okS,PB.renS,aP,aa,AV.pure,Blk.renS,Blk.okS,Blk.okX,AV.okS,AV.okX, *];done)|fail)) (by repeat' (first|exact trivial|refine ⟨(by first|rfl|exact flg (by omega)),?_⟩)) ?_
 rfl
theorem acG (pr:aa r=true)(pw:aa w=true)(s:CF)(h:ab G 541 [.ref 0 0 0,.str s] (bP n1 n2 n3 n4 so false false e1 e2 (e3++[[AV.str nm,AV.vs 9 0 x]]) e4 k1 k2 k3 k4 [.vec 3 r]) ⟨.tup [],rP n1 n2 n3 n4 mo false false (.vec 2 e1) (.vec 2 e2) (.nest 2 e3 [[AV.str nm,AV.vs 9 0 y]]) (.vec 3 e4) k1 k2 k3 k4 [(false,.vec 3 w)]⟩):dw (bP n1 n2 n3 n4 so false false e1 e2 (e3++[[AV.str nm,AV.vs 9 0 x]]) e4 k1 k2 k3 k4 [.vec 3 r]) s ⟨.int .i64 0,rP n1 n2 n3 n4 mo false false (.vec 2 e1) (.vec 2 e2) (.nest 2 e3 [[AV.str nm,AV.vs 9 0 y]]) (.vec 3 e4) k1 k2 k3 k4 [(false,.vec 3 w)]⟩:=by
 have z1:=pkE k1;have z2:=pkE k2;have z3:=pkE k3;have z4:=pkE k4
 unfold bP rP at*;refine ⟨_,_,rfl,rfl,rfl,?_⟩;refine wk3 ?_
 repeat' (first|refine aQ ?_|apply ae<;>intro h)
 (conv=>whnf)
 refine kP jG [] ck trivial h ?_
 repeat' (first|refine aQ ?_|apply ae<;>intro h)
 (first|refine cY jG [] [true,true,true,true,true,true,true,true,true,false] ?_ (hfl:=by repeat' (first|exact trivial|refine ⟨(by first|rfl|exact flg (by omega)),?_⟩))|refine cZ jG [] [true,true,true,true,true,true,true,true,true,false] ?_ (hfl:=by repeat' (first|exact trivial|refine ⟨(by first|rfl|exact flg (by omega)),?_⟩)))
 (conv=>whnf)
 refine cp ?_;rfl
theorem GZ {x:Nat}{r:CS}(pr:aa r=true)(s:CF)(e:Int)(h:ab G 541 [.ref 0 0 0,.str s] (bP n1 n2 n3 n4 so false false e1 e2 (e3++[[AV.str nm,AV.vs 9 0 x]]) e4 k1 k2 k3 k4 [.vec 3 r]) ⟨pnV (.ifc 138 (.agg [.int .i64 e])),rP n1 n2 n3 n4 mo false false (.vec 2 e1) (.vec 2 e2) (.nest 2 e3 [[AV.str nm,AV.vs 9 0 x]]) (.vec 3 e4) k1 k2 k3 k4 [(true,.vec 3 r)]⟩):dw (bP n1 n2 n3 n4 so false false e1 e2 (e3++[[AV.str nm,AV.vs 9 0 x]]) e4 k1 k2 k3 k4 [.vec 3 r]) s ⟨.int .i64 e,rP n1 n2 n3 n4 mo false false (.vec 2 e1) (.vec 2 e2) (.nest 2 e3 [[AV.str nm,AV.vs 9 0 x]]) (.vec 3 e4) k1 k2 k3 k4 [(true,.vec 3 r)]⟩:=by
 have z1:=pkE k1;have z2:=pkE k2;have z3:=pkE k3;have z4:=pkE k4
 unfold bP rP at*;replace h:=λ(_:True)=>h
 refine ⟨_,_,rfl,rfl,rfl,?_⟩;refine wk3 ?_
 repeat' (first|refine aQ ?_|apply ae<;>intro h)
 (conv=>whnf)
 refine CallG.stop ?_;refine jq 541 _ (h trivial) (λQ hr hg=>?_)
 refine kP jG [] ck trivial hg ?_ (hE:=by rw[hr];kernel_rfl)
 refine mw jG [] cW rfl rfl rfl rfl rfl rfl ck (by exact Nat.succ_pos _) rfl (by kernel_rfl) trivial (by repeat' (first|exact trivial|rfl|assumption|refine And.intro ?_ ?_|(simp[PB.okX,PB.okS,PB.renS,aP,aa,AV.pure,Blk.renS,Blk.okS,Blk.okX,AV.okS,AV.okX, *];done)|fail)) (by repeat' (first|exact trivial|refine ⟨(by first|rfl|exact flg (by omega)),?_⟩)) ?_
 rfl
theorem Ic {df dg:Int}{pol trm f:Bool}{r w:CS}(pr:aa r=true)(pw:aa w=true)(s:CF)(h:ab G 543 [.ref 0 0 0,.str s] (bP n1 n2 n3 n4 so true false e1 e2 e3 (e4++[[AV.str nm,AV.vs 9 0 x,AV.int .i64 df]]) k1 k2 k3 k4 [.vec 4 r]) ⟨.tup [],rP n1 n2 n3 n4 mo pol trm (.vec 2 e1) (.vec 2 e2) (.vec 2 e3) (.nest 3 e4 [[AV.str nm,AV.vs 9 0 y,AV.int .i64 dg]]) k1 k2 k3 k4 [(f,.vec 4 w)]⟩):dw (bP n1 n2 n3 n4 so true false e1 e2 e3 (e4++[[AV.str nm,AV.vs 9 0 x,AV.int .i64 df]]) k1 k2 k3 k4 [.vec 4 r]) s ⟨.int .i64 0,rP n1 n2 n3 n4 mo pol trm (.vec 2 e1) (.vec 2 e2) (.vec 2 e3) (.nest 3 e4 [[AV.str nm,AV.vs 9 0 y,AV.int .i64 dg]]) k1 k2 k3 k4 [(f,.vec 4 w)]⟩:=by
 have z1:=pkE k1;have z2:=pkE k2;have z3:=pkE k3;have z4:=pkE k4
 unfold bP rP at*;refine ⟨_,_,rfl,rfl,rfl,?_⟩;refine wk3 ?_
 repeat' (first|refine aQ ?_|apply ae<;>intro h)
 (conv=>whnf)
 refine kP pzC [] ck trivial h ?_
 repeat' (first|refine aQ ?_|apply ae<;>intro h)
 (first|refine cY pzC [] [true,true,true,true,true,true,true,true,true,f] ?_ (hfl:=by repeat' (first|exact trivial|refine ⟨(by first|rfl|exact flg (by omega)),?_⟩))|refine cZ pzC [] [true,true,true,true,true,true,true,true,true,f] ?_ (hfl:=by repeat' (first|exact trivial|refine ⟨(by first|rfl|exact flg (by omega)),?_⟩)))
 (conv=>whnf)
 refine cp ?_;rfl
theorem ut {x:Nat}{df:Int}{r:CS}(pr:aa r=true)(s:CF)(e:Int)(h:ab G 543 [.ref 0 0 0,.str s] (bP n1 n2 n3 n4 so true false e1 e2 e3 (e4++[[AV.str nm,AV.vs 9 0 x,AV.int .i64 df]]) k1 k2 k3 k4 [.vec 4 r]) ⟨pnV (.ifc 138 (.agg [.int .i64 e])),rP n1 n2 n3 n4 mo true false (.vec 2 e1) (.vec 2 e2) (.vec 2 e3) (.nest 3 e4 [[AV.str nm,AV.vs 9 0 x,AV.int .i64 df]]) k1 k2 k3 k4 [(true,.vec 4 r)]⟩):dw (bP n1 n2 n3 n4 so true false e1 e2 e3 (e4++[[AV.str nm,AV.vs 9 0 x,AV.int .i64 df]]) k1 k2 k3 k4 [.vec 4 r]) s ⟨.int .i64 e,rP n1 n2 n3 n4 mo true false (.vec 2 e1) (.vec 2 e2) (.vec 2 e3) (.nest 3 e4 [[AV.str nm,AV.vs 9 0 x,AV.int .i64 df]]) k1 k2 k3 k4 [(true,.vec 4 r)]⟩:=by
 have z1:=pkE k1;have z2:=pkE k2;have z3:=pkE k3;have z4:=pkE k4
 unfold bP rP at*;replace h:=λ(_:True)=>h
 refine ⟨_,_,rfl,rfl,rfl,?_⟩;refine wk3 ?_
 repeat' (first|refine aQ ?_|apply ae<;>intro h)
 (conv=>whnf)
 refine CallG.stop ?_;refine jq 543 _ (h trivial) (λQ hr hg=>?_)
 refine kP pzC [] ck trivial hg ?_ (hE:=by rw[hr];kernel_rfl)
 refine mw pzC [] cW rfl rfl rfl rfl rfl rfl ck (by exact Nat.succ_pos _) rfl (by kernel_rfl) trivial (by repeat' (first|exact trivial|rfl|assumption|refine And.intro ?_ ?_|(simp[PB.okX,PB.okS,PB.renS,aP,aa,AV.pure,Blk.renS,Blk.okS,Blk.okX,AV.okS,AV.okX, *];done)|fail)) (by repeat' (first|exact trivial|refine ⟨(by first|rfl|exact flg (by omega)),?_⟩)) ?_
 rfl
theorem sk {nm tn:CF}{x a b a2 b2:Nat}{df v v2:Int}{trm f g:Bool}{r u w u2 w2:CS}(pr:aa r=true)(pu:aa u=true)(pw:aa w=true)(pu2:aa u2=true)(pw2:aa w2=true)(s:CF)(h:ab G 542 [.ref 0 0 0,.str s] (bP n1 n2 n3 n4 so true true e1 e2 e3 (e4++[[AV.str nm,AV.vs 9 0 x,AV.int .i64 df]]) k1 k2 k3 k4 [.vec 4 (r++[[AV.str tn,AV.vs 10 0 a,AV.vs 11 0 b,AV.int .i64 v]]),.vec 6 u,.vec 5 w]) ⟨.tup [],rP n1 n2 n3 n4 mo true trm (.vec 2 e1) (.vec 2 e2) (.vec 2 e3) (.nest 3 e4 [[AV.str nm,AV.vs 9 0 x,AV.int .i64 df]]) k1 k2 k3 k4 [(true,.nest 4 r [[AV.str tn,AV.vs 10 0 a2,AV.vs 11 0 b2,AV.int .i64 v2]]),(f,.vec 6 u2),(g,.vec 5 w2)]⟩):dw (bP n1 n2 n3 n4 so true true e1 e2 e3 (e4++[[AV.str nm,AV.vs 9 0 x,AV.int .i64 df]]) k1 k2 k3 k4 [.vec 4 (r++[[AV.str tn,AV.vs 10 0 a,AV.vs 11 0 b,AV.int .i64 v]]),.vec 6 u,.vec 5 w]) s ⟨.int .i64 0,rP n1 n2 n3 n4 mo true trm (.vec 2 e1) (.vec 2 e2) (.vec 2 e3) (.nest 3 e4 [[AV.str nm,AV.vs 9 0 x,AV.int .i64 df]]) k1 k2 k3 k4 [(true,.nest 4 r [[AV.str tn,AV.vs 10 0 a2,AV.vs 11 0 b2,AV.int .i64 v2]]),(f,.vec 6 u2),(g,.vec 5 w2)]⟩:=by
 have z1:=pkE k1;have z2:=pkE k2;have z3:=pkE k3;have z4:=pkE k4
 unfold bP rP at*;refine ⟨_,_,rfl,rfl,rfl,?_⟩;refine wk3 ?_
 repeat' (first|refine aQ ?_|apply ae<;>intro h)
 (conv=>whnf)
 refine kP pzD [] gu trivial h ?_
 repeat' (first|refine aQ ?_|apply ae<;>intro h)
 (first|refine cY pzD [] [true,true,true,true,true,true,true,true,true,true,f,g] ?_ (hfl:=by repeat' (first|exact trivial|refine ⟨(by first|rfl|exact flg (by omega)),?_⟩))|refine cZ pzD [] [true,true,true,true,true,true,true,true,true,true,f,g] ?_ (hfl:=by repeat' (first|exact trivial|refine ⟨(by first|rfl|exact flg (by omega)),?_⟩)))
 (conv=>whnf)
 refine cp ?_;rfl
theorem k9 {nm tn:CF}{x a b:Nat}{df v:Int}{r u w:CS}(pr:aa r=true)(pu:aa u=true)(pw:aa w=true)(s:CF)(e:Int)(h:ab G 542 [.ref 0 0 0,.str s] (bP n1 n2 n3 n4 so true true e1 e2 e3 (e4++[[AV.str nm,AV.vs 9 0 x,AV.int .i64 df]]) k1 k2 k3 k4 [.vec 4 (r++[[AV.str tn,AV.vs 10 0 a,AV.vs 11 0 b,AV.int .i64 v]]),.vec 6 u,.vec 5 w]) ⟨pnV (.ifc 138 (.agg [.int .i64 e])),rP n1 n2 n3 n4 mo true true (.vec 2 e1) (.vec 2 e2) (.vec 2 e3) (.nest 3 e4 [[AV.str nm,AV.vs 9 0 x,AV.int .i64 df]]) k1 k2 k3 k4 [(true,.nest 4 r [[AV.str tn,AV.vs 10 0 a,AV.vs 11 0 b,AV.int .i64 v]]),(true,.vec 6 u),(true,.vec 5 w)]⟩):dw (bP n1 n2 n3 n4 so true true e1 e2 e3 (e4++[[AV.str nm,AV.vs 9 0 x,AV.int .i64 df]]) k1 k2 k3 k4 [.vec 4 (r++[[AV.str tn,AV.vs 10 0 a,AV.vs 11 0 b,AV.int .i64 v]]),.vec 6 u,.vec 5 w]) s ⟨.int .i64 e,rP n1 n2 n3 n4 mo true true (.vec 2 e1) (.vec 2 e2) (.vec 2 e3) (.nest 3 e4 [[AV.str nm,AV.vs 9 0 x,AV.int .i64 df]]) k1 k2 k3 k4 [(true,.nest 4 r [[AV.str tn,AV.vs 10 0 a,AV.vs 11 0 b,AV.int .i64 v]]),(true,.vec 6 u),(true,.vec 5 w)]⟩:=by
 have z1:=pkE k1;have z2:=pkE k2;have z3:=pkE k3;have z4:=pkE k4
 unfold bP rP at*;replace h:=λ(_:True)=>h
 refine ⟨_,_,rfl,rfl,rfl,?_⟩;refine wk3 ?_
 repeat' (first|refine aQ ?_|apply ae<;>intro h)
 (conv=>whnf)
 refine CallG.stop ?_;refine jq 542 _ (h trivial) (λQ hr hg=>?_)
 refine kP pzD [] gu trivial hg ?_ (hE:=by rw[hr];kernel_rfl)
 refine mw pzD [] io rfl rfl rfl rfl rfl rfl gu (by exact Nat.succ_pos _) rfl (by kernel_rfl) trivial (by repeat' (first|exact trivial|rfl|assumption|refine And.intro ?_ ?_|(simp[PB.okX,PB.okS,PB.renS,aP,aa,AV.pure,Blk.renS,Blk.okS,Blk.okX,AV.okS,AV.okX, *];done)|fail)) (by repeat' (first|exact trivial|refine ⟨(by first|rfl|exact flg (by omega)),?_⟩)) ?_
 rfl
end
inductive PS where
 |top (pre:C3) (pa:C4) (co:C6) (po:C9) (so:Int)
 |pre (pre:C3) (pa:C4) (co:C6) (po:C9) (nm:CF) (rl:DF)
 |pat (pre:C3) (pa:C4) (co:C6) (po:C9) (nm:CF) (rl:DG)
 |com (pre:C3) (pa:C4) (co:C6) (po:C9) (nm:CF) (rl:DR)
 |pol (pre:C3) (pa:C4) (co:C6) (po:C9) (nm:CF) (ts:Da)
 |term (pre:C3) (pa:C4) (co:C6) (po:C9) (nm:CF) (ts:Da) (tn:CF) (ms:Ds) (acs:Dr)
namespace PS
def set:PS->PSet
 |top p1 pa co po _=>⟨p1,pa,co,po⟩
 | .pre p1 pa co po nm rl=>⟨p1++[⟨nm,rl⟩],pa,co,po⟩
 |pat p1 pa co po nm rl=>⟨p1,pa++[⟨nm,rl⟩],co,po⟩
 |com p1 pa co po nm rl=>⟨p1,pa,co++[⟨nm,rl⟩],po⟩
 |pol p1 pa co po nm ts=>⟨p1,pa,co,po++[⟨nm,ts,0⟩]⟩
 |term p1 pa co po nm ts tn ms acs=>⟨p1,pa,co,po++[⟨nm,ts++[⟨tn,ms,acs,0⟩],0⟩]⟩
def inPol:PS->Bool
 |pol .. |term .. =>true
 |_=>false
end PS
inductive PO where
 |err (e:Int)
 |ok (st:PS)
def hdE (so s:Int)(k:C5)(t:CF):Int:=if¬so<=s then 2 else if¬bv t=true then 2 else if 64<=k.length then 4 else cq k t
def hdO (e:Int)(st:PS):PO:=if e=0 then .ok st else .err e
def lr (pre:C3)(pa:C4)(co:C6)(po:C9)(so:Int)(w t:CF):PO:=
 if w=cR then hdO (hdE so 1 (pre.map PList.name) t) (.pre pre pa co po t [])
 else if w=cQ then hdO (hdE so 2 (pa.map PathL.name) t) (.pat pre pa co po t [])
 else if w=cP then hdO (hdE so 3 (co.map ComL.name) t) (.com pre pa co po t [])
 else hdO (hdE so 4 (po.map Pol.name) t) (.pol pre pa co po t [])
def bT:PS->CF->PO
 | .top pre pa co po so,s=>if bH (ax s).1=0 then .err 2 else lr pre pa co po so (ax s).1 (ax s).2
 | .pre pre pa co po nm rl,s=>if bH (ax s).1=0 then (if (J.plP s).2≠0 then .err 2 else if 64<=rl.length then .err 4 else .ok (.pre pre pa co po nm (rl++[⟨(J.plP s).1.permit,(J.plP s).1.pfx,(J.plP s).1.min,(J.plP s).1.max⟩]))) else lr (pre++[⟨nm,rl⟩]) pa co po 1 (ax s).1 (ax s).2
 | .pat pre pa co po nm rl,s=>if bH (ax s).1=0 then (match fQ s with
   |none=>.err 2
   |some (b,t)=>if (fx t).isSome=true then (if 64<=rl.length then .err 4 else .ok (.pat pre pa co po nm (rl++[⟨b,t⟩]))) else .err 2) else lr pre (pa++[⟨nm,rl⟩]) co po 2 (ax s).1 (ax s).2
 | .com pre pa co po nm rl,s=>if bH (ax s).1=0 then (match fQ s with
   |none=>.err 2
   |some (b,t)=>if (jc b t rl.length).1=0 then .ok (.com pre pa co po nm (rl++[(jc b t rl.length).2])) else .err (jc b t rl.length).1) else lr pre pa (co++[⟨nm,rl⟩]) po 3 (ax s).1 (ax s).2
 | .pol pre pa co po nm ts,s=>if s=jt then .ok (.top pre pa co (po++[⟨nm,ts,1⟩]) 4) else if s=js then .ok (.top pre pa co (po++[⟨nm,ts,2⟩]) 4) else
   if (ax s).1≠ff then .err 2 else if¬bv (ax s).2=true then .err 2 else if 64<=ts.length then .err 4 else
   if f9 ⟨pre.map PList.name,pa.map PathL.name,co.map ComL.name,(po++[(⟨nm,ts,0⟩:Pol)]).map Pol.name⟩ ts ⟨(ax s).2,[],[],1⟩≠0 then .err (f9 ⟨pre.map PList.name,pa.map PathL.name,co.map ComL.name,(po++[(⟨nm,ts,0⟩:Pol)]).map Pol.name⟩ ts ⟨(ax s).2,[],[],1⟩) else .ok (.term pre pa co po nm ts (ax s).2 [] [])
 | .term pre pa co po nm ts tn ms acs,s=>if s=ez then .ok (.pol pre pa co po nm (ts++[⟨tn,ms,acs,1⟩])) else if s=ey then .ok (.pol pre pa co po nm (ts++[⟨tn,ms,acs,2⟩])) else if s=cU then .ok (.pol pre pa co po nm (ts++[⟨tn,ms,acs,3⟩])) else
   if (ax s).1=dX then (if acs.length≠0 then .err 2 else match j4 (ax s).2 with
    |none=>.err 2
    |some x=>if 64<=ms.length then .err 4 else if mtE ⟨pre.map PList.name,pa.map PathL.name,co.map ComL.name,(po++[(⟨nm,ts,0⟩:Pol)]).map Pol.name⟩ x≠0 then .err (mtE ⟨pre.map PList.name,pa.map PathL.name,co.map ComL.name,(po++[(⟨nm,ts,0⟩:Pol)]).map Pol.name⟩ x) else .ok (.term pre pa co po nm ts tn (ms++[x]) acs)) else
   if (ax s).1=iW then (match gr (ax s).2 with
    |none=>.err 2
    |some x=>if 64<=acs.length then .err 4 else if gQ x≠0 then .err (gQ x) else .ok (.term pre pa co po nm ts tn ms (acs++[x]))) else .err 2
def gJ:PSet:=⟨[],[],[],[]⟩
def dh (st:PS)(n:Int)(acc:CF):CF->PSet×Int×Int
 | []=>if acc≠ [] then (gJ,n+1,2) else if st.inPol=true then (gJ,n+1,3) else (st.set,0,0)
 | c::r=>if c=10 then (match bT st acc with
   | .err e=>(gJ,n+1,e)
   | .ok st'=>dh st' (n+1) [] r) else dh st n (acc++[c]) r
def vZ (s:CF):PSet×Int×Int:=if 65536<s.length then (gJ,0,4) else dh (.top [] [] [] [] 0) 0 [] s
def gx (x:PSet×Int×Int):Ret:=⟨.tup [.agg x.1.enc,.int .i64 x.2.1,.int .i64 x.2.2],[]⟩
def bt:PS->Dn
 | .top pre pa co po so=>[.cells [.vs 1 0 pre.length,.vs 2 0 pa.length,.vs 3 0 co.length,.vs 4 0 po.length,.vs 5 0 pre.length,.vs 6 0 pa.length,.vs 7 0 co.length,.vs 8 0 po.length,.int .i64 so,.bool false,.bool false],.vec 2 (pre.map PList.enc),.vec 2 (pa.map PathL.enc),.vec 2 (co.map ComL.enc),.vec 3 (po.map Pol.enc),.vec 1 ((pre.map PList.name).map am),.vec 1 ((pa.map PathL.name).map am),.vec 1 ((co.map ComL.name).map am),.vec 1 ((po.map Pol.name).map am)]
 | .pre pre pa co po nm rl=>[.cells [.vs 1 0 (pre.length+1),.vs 2 0 pa.length,.vs 3 0 co.length,.vs 4 0 po.length,.vs 5 0 (pre.length+1),.vs 6 0 pa.length,.vs 7 0 co.length,.vs 8 0 po.length,.int .i64 1,.bool false,.bool false],.vec 2 ((pre.map PList.enc)++[[AV.str nm,AV.vs 9 0 rl.length]]),.vec 2 (pa.map PathL.enc),.vec 2 (co.map ComL.enc),.vec 3 (po.map Pol.enc),.vec 1 ((pre.map PList.name++[nm]).map am),.vec 1 ((pa.map PathL.name).map am),.vec 1 ((co.map ComL.name).map am),.vec 1 ((po.map Pol.name).map am),.vec 5 (rl.map RuleP.enc)]
 | .pat pre pa co po nm rl=>[.cells [.vs 1 0 pre.length,.vs 2 0 (pa.length+1),.vs 3 0 co.length,.vs 4 0 po.length,.vs 5 0 pre.length,.vs 6 0 (pa.length+1),.vs 7 0 co.length,.vs 8 0 po.length,.int .i64 2,.bool false,.bool false],.vec 2 (pre.map PList.enc),.vec 2 ((pa.map PathL.enc)++[[AV.str nm,AV.vs 9 0 rl.length]]),.vec 2 (co.map ComL.enc),.vec 3 (po.map Pol.enc),.vec 1 ((pre.map PList.name).map am),.vec 1 ((pa.map PathL.name++[nm]).map am),.vec 1 ((co.map ComL.name).map am),.vec 1 ((po.map Pol.name).map am),.vec 2 (rl.map PathR.enc)]
 | .com pre pa co po nm rl=>[.cells [.vs 1 0 pre.length,.vs 2 0 pa.length,.vs 3 0 (co.length+1),.vs 4 0 po.length,.vs 5 0 pre.length,.vs 6 0 pa.length,.vs 7 0 (co.length+1),.vs 8 0 po.length,.int .i64 3,.bool false,.bool false],.vec 2 (pre.map PList.enc),.vec 2 (pa.map PathL.enc),.vec 2 ((co.map ComL.enc)++[[AV.str nm,AV.vs 9 0 rl.length]]),.vec 3 (po.map Pol.enc),.vec 1 ((pre.map PList.name).map am),.vec 1 ((pa.map PathL.name).map am),.vec 1 ((co.map ComL.name++[nm]).map am),.vec 1 ((po.map Pol.name).map am),.vec 3 (rl.map ComR.enc)]
 | .pol pre pa co po nm ts=>[.cells [.vs 1 0 pre.length,.vs 2 0 pa.length,.vs 3 0 co.length,.vs 4 0 (po.length+1),.vs 5 0 pre.length,.vs 6 0 pa.length,.vs 7 0 co.length,.vs 8 0 (po.length+1),.int .i64 4,.bool true,.bool false],.vec 2 (pre.map PList.enc),.vec 2 (pa.map PathL.enc),.vec 2 (co.map ComL.enc),.vec 3 ((po.map Pol.enc)++[[AV.str nm,AV.vs 9 0 ts.length,AV.int .i64 0]]),.vec 1 ((pre.map PList.name).map am),.vec 1 ((pa.map PathL.name).map am),.vec 1 ((co.map ComL.name).map am),.vec 1 ((po.map Pol.name++[nm]).map am),.vec 4 (ts.map Trm.enc)]
 | .term pre pa co po nm ts tn ms acs=>[.cells [.vs 1 0 pre.length,.vs 2 0 pa.length,.vs 3 0 co.length,.vs 4 0 (po.length+1),.vs 5 0 pre.length,.vs 6 0 pa.length,.vs 7 0 co.length,.vs 8 0 (po.length+1),.int .i64 4,.bool true,.bool true],.vec 2 (pre.map PList.enc),.vec 2 (pa.map PathL.enc),.vec 2 (co.map ComL.enc),.vec 3 ((po.map Pol.enc)++[[AV.str nm,AV.vs 9 0 (ts.length+1),AV.int .i64 0]]),.vec 1 ((pre.map PList.name).map am),.vec 1 ((pa.map PathL.name).map am),.vec 1 ((co.map ComL.name).map am),.vec 1 ((po.map Pol.name++[nm]).map am),.vec 4 ((ts.map Trm.enc)++[[AV.str tn,AV.vs 10 0 ms.length,AV.vs 11 0 acs.length,AV.int .i64 0]]),.vec 6 (ms.map Mat.enc),.vec 5 (acs.map Actn.enc)]
def ol (z:Int):PS->C1
 | .top pre pa co po so=>mkR [(true,.cells [.vs 1 0 pre.length,.vs 2 0 pa.length,.vs 3 0 co.length,.vs 4 0 po.length,.vs 5 0 pre.length,.vs 6 0 pa.length,.vs 7 0 co.length,.vs 8 0 po.length,.int .i64 z,.bool false,.bool false]),(true,.vec 2 (pre.map PList.enc)),(true,.vec 2 (pa.map PathL.enc)),(true,.vec 2 (co.map ComL.enc)),(true,.vec 3 (po.map Pol.enc)),(true,.vec 1 ((pre.map PList.name).map am)),(true,.vec 1 ((pa.map PathL.name).map am)),(true,.vec 1 ((co.map ComL.name).map am)),(true,.vec 1 ((po.map Pol.name).map am))]
 | .pre pre pa co po nm rl=>mkR [(true,.cells [.vs 1 0 (pre.length+1),.vs 2 0 pa.length,.vs 3 0 co.length,.vs 4 0 po.length,.vs 5 0 (pre.length+1),.vs 6 0 pa.length,.vs 7 0 co.length,.vs 8 0 po.length,.int .i64 1,.bool false,.bool false]),(true,.nest 2 (pre.map PList.enc) [[AV.str nm,AV.vs 9 0 rl.length]]),(true,.vec 2 (pa.map PathL.enc)),(true,.vec 2 (co.map ComL.enc)),(true,.vec 3 (po.map Pol.enc)),(true,.vec 1 ((pre.map PList.name++[nm]).map am)),(true,.vec 1 ((pa.map PathL.name).map am)),(true,.vec 1 ((co.map ComL.name).map am)),(true,.vec 1 ((po.map Pol.name).map am)),(true,.vec 5 (rl.map RuleP.enc))]
 | .pat pre pa co po nm rl=>mkR [(true,.cells [.vs 1 0 pre.length,.vs 2 0 (pa.length+1),.vs 3 0 co.length,.vs 4 0 po.length,.vs 5 0 pre.length,.vs 6 0 (pa.length+1),.vs 7 0 co.length,.vs 8 0 po.length,.int .i64 2,.bool false,.bool false]),(true,.vec 2 (pre.map PList.enc)),(true,.nest 2 (pa.map PathL.enc) [[AV.str nm,AV.vs 9 0 rl.length]]),(true,.vec 2 (co.map ComL.enc)),(true,.vec 3 (po.map Pol.enc)),(true,.vec 1 ((pre.map PList.name).map am)),(true,.vec 1 ((pa.map PathL.name++[nm]).map am)),(true,.vec 1 ((co.map ComL.name).map am)),(true,.vec 1 ((po.map Pol.name).map am)),(true,.vec 2 (rl.map PathR.enc))]
 | .com pre pa co po nm rl=>mkR [(true,.cells [.vs 1 0 pre.length,.vs 2 0 pa.length,.vs 3 0 (co.length+1),.vs 4 0 po.length,.vs 5 0 pre.length,.vs 6 0 pa.length,.vs 7 0 (co.length+1),.vs 8 0 po.length,.int .i64 3,.bool false,.bool false]),(true,.vec 2 (pre.map PList.enc)),(true,.vec 2 (pa.map PathL.enc)),(true,.nest 2 (co.map ComL.enc) [[AV.str nm,AV.vs 9 0 rl.length]]),(true,.vec 3 (po.map Pol.enc)),(true,.vec 1 ((pre.map PList.name).map am)),(true,.vec 1 ((pa.map PathL.name).map am)),(true,.vec 1 ((co.map ComL.name++[nm]).map am)),(true,.vec 1 ((po.map Pol.name).map am)),(true,.vec 3 (rl.map ComR.enc))]
 | .pol pre pa co po nm ts=>mkR [(true,.cells [.vs 1 0 pre.length,.vs 2 0 pa.length,.vs 3 0 co.length,.vs 4 0 (po.length+1),.vs 5 0 pre.length,.vs 6 0 pa.length,.vs 7 0 co.length,.vs 8 0 (po.length+1),.int .i64 4,.bool true,.bool false]),(true,.vec 2 (pre.map PList.enc)),(true,.vec 2 (pa.map PathL.enc)),(true,.vec 2 (co.map ComL.enc)),(true,.nest 3 (po.map Pol.enc) [[AV.str nm,AV.vs 9 0 ts.length,AV.int .i64 0]]),(true,.vec 1 ((pre.map PList.name).map am)),(true,.vec 1 ((pa.map PathL.name).map am)),(true,.vec 1 ((co.map ComL.name).map am)),(true,.vec 1 ((po.map Pol.name++[nm]).map am)),(true,.vec 4 (ts.map Trm.enc))]
 | .term pre pa co po nm ts tn ms acs=>mkR [(true,.cells [.vs 1 0 pre.length,.vs 2 0 pa.length,.vs 3 0 co.length,.vs 4 0 (po.length+1),.vs 5 0 pre.length,.vs 6 0 pa.length,.vs 7 0 co.length,.vs 8 0 (po.length+1),.int .i64 4,.bool true,.bool true]),(true,.vec 2 (pre.map PList.enc)),(true,.vec 2 (pa.map PathL.enc)),(true,.vec 2 (co.map ComL.enc)),(true,.nest 3 (po.map Pol.enc) [[AV.str nm,AV.vs 9 0 (ts.length+1),AV.int .i64 0]]),(true,.vec 1 ((pre.map PList.name).map am)),(true,.vec 1 ((pa.map PathL.name).map am)),(true,.vec 1 ((co.map ComL.name).map am)),(true,.vec 1 ((po.map Pol.name++[nm]).map am)),(true,.nest 4 (ts.map Trm.enc) [[AV.str tn,AV.vs 10 0 ms.length,AV.vs 11 0 acs.length,AV.int .i64 0]]),(true,.vec 6 (ms.map Mat.enc)),(true,.vec 5 (acs.map Actn.enc))]
theorem adh {h t:CF}{ng:Bool}{x:Mat}(e:Jm h t ng=some x):x.pfx.ok:=by
 have z:Pfx.ok ⟨0,0⟩:=⟨by unfold okU;simp,by unfold okI;simp⟩
 have hN: ∀k o,ii k ng o=some x->x.pfx.ok:=λk o e=>by
  unfold ii at e;cases o with
  |none=>cases e
  |some n=>injection e with e;subst e;exact z
 unfold Jm at e;split at e
 ·injection e with e;subst e;exact z
 ·split at e
  ·injection e with e;subst e;exact z
  ·split at e
   ·injection e with e;subst e;exact z
   ·split at e
    ·exact hN _ _ e
    ·split at e
     ·exact hN _ _ e
     ·split at e
      ·exact hN _ _ e
      ·split at e
       ·exact hN _ _ e
       ·split at e
        ·split at e
         ·rename_i hp
          injection e with e;subst e;exact J.psP_ok hp
         ·cases e
        ·cases e
section
variable {bs:Dn}{s:CF}{c:Prop}
theorem OW {x:Mat}(e:j4 s=some x):x.pfx.ok:=by
 unfold j4 sI at e
 repeat' split at e
 all_goals first
  |exact adh e
  |cases e
theorem agN {w:CF}(h:bH w≠0)(h1:w≠cR)(h2:w≠cQ)(h3:w≠cP):w=gH:=by
 unfold bH at h;rw[Ac h1,Ac h2,Ac h3] at h
 by_cases h4:w=gH
 ·exact h4
 ·rw[Ac h4] at h;exact absurd rfl h
theorem gZ {i:Decidable c}{a b:Ret}(h:c->dw bs s a)(k: ¬c->dw bs s b):dw bs s (@ite Ret c i a b):=by
 by_cases x:c
 ·rw[Ad x];exact h x
 ·rw[Ac x];exact k x
theorem jk {i:Decidable (¬c)}{a b:Ret}(h: ¬c->dw bs s a)(k:c->dw bs s b):dw bs s (@ite Ret (¬c) i a b):=gZ h λx=>k (Decidable.byContradiction (dec:=Classical.propDecidable _) x)
end
def zH (E:Int->Int->Ret)(so k:Int)(ks:C5)(t:CF)(R:Ret):Ret:=
 if¬so<=k then E 2 so else if¬bv t=true then E 2 so else if 64<=ks.length then E 4 k else if¬cq ks t=0 then E (cq ks t) k else R
section
variable (s:CF)(n:Nat)(E:Int->Ret)(R:Bool->CF->Ret)
def tZ (so:Int)(E:Int->Int->Ret)(k1 k2 k3 k4:C5)(R1 R2 R3 R4:CF->Ret):Ret:=if bH (ax s).1=0 then E 2 so else
 if (ax s).1=cR then zH E so 1 k1 (ax s).2 (R1 (ax s).2) else
 if (ax s).1=cQ then zH E so 2 k2 (ax s).2 (R2 (ax s).2) else
 if (ax s).1=cP then zH E so 3 k3 (ax s).2 (R3 (ax s).2) else zH E so 4 k4 (ax s).2 (R4 (ax s).2)
theorem SX {s w:CF}(h:(ax s).1=w):ax s=(w,(ax s).2):=Prod.ext h rfl
def BQ (R:Ret):Ret:=if¬(J.plP s).2=0 then E 2 else if 64<=n then E 4 else R
def w5:Ret:=match fQ s with
 |none=>E 2
 |some (b,t)=>if (fx t).isSome=true then (if 64<=n then E 4 else R b t) else E 2
def w6:Ret:=match fQ s with
 |none=>E 2
 |some (b,t)=>if (jc b t n).1=0 then R b t else E (jc b t n).1
def Lr (tr:Int)(E:Int->Ret)(R:Int->Ret)(R2:Ret):Ret:=if s=jt then R 1 else if s=js then R 2 else
 if¬(ax s).1=ff then E 2 else if¬bv (ax s).2=true then E 2 else if 64<=n then E 4 else if¬tr=0 then E tr else R2
def Lq (n m:Nat)(mt:Mat->Int)(E:Int->Ret)(R:Int->Ret)(M:Mat->Ret)(A:Actn->Ret):Ret:=if s=ez then R 1 else if s=ey then R 2 else if s=cU then R 3 else
 if (ax s).1=dX then (if¬m=0 then E 2 else match j4 (ax s).2 with
  |none=>E 2
  |some x=>if 64<=n then E 4 else if¬mt x=0 then E (mt x) else M x) else
 if (ax s).1=iW then (match gr (ax s).2 with
  |none=>E 2
  |some x=>if 64<=m then E 4 else if¬gQ x=0 then E (gQ x) else A x) else E 2
end
theorem eF: ∀{l:CS}{x:CL},aa l=true->aP x=true->aa (l++[x])=true
 | [],x,_,h=>by simp only[By,aa,h,Bool.and_true]
 |a::r,x,k,h=>by
  simp only[aa,Av] at k;simp only[B4,aa,k.1,eF k.2 h,Bool.and_true]
section
variable (e1 e2 e3 e4:CS)(p1:aa e1=true)(p2:aa e2=true)(p3:aa e3=true)(p4:aa e4=true)(k1 k2 k3 k4:C5)(so:Int)
include p1 p2 p3 p4
theorem gtX (s:CF)(hs:s.length<2^30){z e:Int}(h:ab G 585 [.ref 0 0 0,.str s] (bP e1.length e2.length e3.length e4.length so false false e1 e2 e3 e4 k1 k2 k3 k4 []) ⟨pnV (.ifc 138 (.agg [.int .i64 e])),rP e1.length e2.length e3.length e4.length z false false (.vec 2 e1) (.vec 2 e2) (.vec 2 e3) (.vec 3 e4) k1 k2 k3 k4 []⟩):dw (bP e1.length e2.length e3.length e4.length so false false e1 e2 e3 e4 k1 k2 k3 k4 []) s ⟨.int .i64 e,rP e1.length e2.length e3.length e4.length z false false (.vec 2 e1) (.vec 2 e2) (.vec 2 e3) (.vec 3 e4) k1 k2 k3 k4 []⟩:=OD p1 p2 p3 p4 s e (ack e1 e2 e3 e4 p1 p2 p3 p4 k1 k2 k3 k4 so false false s (by omega) z e h)
theorem gtop (l1:e1.length<2^30)(l2:e2.length<2^30)(l3:e3.length<2^30)(l4:e4.length<2^30)(q1:k1.length<2^30)(q2:k2.length<2^30)(q3:k3.length<2^30)(q4:k4.length<2^30)(s:CF)(hs:s.length<2^30)(hn:bH (ax s).1=0->so≠1/\so≠2/\so≠3):dw (bP e1.length e2.length e3.length e4.length so false false e1 e2 e3 e4 k1 k2 k3 k4 []) s (tZ s so (λe z=>⟨.int .i64 e,rP e1.length e2.length e3.length e4.length z false false (.vec 2 e1) (.vec 2 e2) (.vec 2 e3) (.vec 3 e4) k1 k2 k3 k4 []⟩) k1 k2 k3 k4 (λt=>⟨.int .i64 0,mkR [(true,.cells [.vs 1 0 (e1.length+1),.vs 2 0 e2.length,.vs 3 0 e3.length,.vs 4 0 e4.length,.vs 5 0 (k1.length+1),.vs 6 0 k2.length,.vs 7 0 k3.length,.vs 8 0 k4.length,.int .i64 1,.bool false,.bool false]),(false,.vec 2 (e1++[[.str t,.con (.slice none 0 0)]])),(true,.vec 2 e2),(true,.vec 2 e3),(true,.vec 3 e4),(false,.vec 1 (k1.map am++[[.str t]])),(true,.vec 1 (k2.map am)),(true,.vec 1 (k3.map am)),(true,.vec 1 (k4.map am))]⟩) (λt=>⟨.int .i64 0,mkR [(true,.cells [.vs 1 0 e1.length,.vs 2 0 (e2.length+1),.vs 3 0 e3.length,.vs 4 0 e4.length,.vs 5 0 k1.length,.vs 6 0 (k2.length+1),.vs 7 0 k3.length,.vs 8 0 k4.length,.int .i64 2,.bool false,.bool false]),(true,.vec 2 e1),(false,.vec 2 (e2++[[.str t,.con (.slice none 0 0)]])),(true,.vec 2 e3),(true,.vec 3 e4),(true,.vec 1 (k1.map am)),(false,.vec 1 (k2.map am++[[.str t]])),(true,.vec 1 (k3.map am)),(true,.vec 1 (k4.map am))]⟩) (λt=>⟨.int .i64 0,mkR [(true,.cells [.vs 1 0 e1.length,.vs 2 0 e2.length,.vs 3 0 (e3.length+1),.vs 4 0 e4.length,.vs 5 0 k1.length,.vs 6 0 k2.length,.vs 7 0 (k3.length+1),.vs 8 0 k4.length,.int .i64 3,.bool false,.bool false]),(true,.vec 2 e1),(true,.vec 2 e2),(false,.vec 2 (e3++[[.str t,.con (.slice none 0 0)]])),(true,.vec 3 e4),(true,.vec 1 (k1.map am)),(true,.vec 1 (k2.map am)),(false,.vec 1 (k3.map am++[[.str t]])),(true,.vec 1 (k4.map am))]⟩) (λt=>⟨.int .i64 0,mkR [(true,.cells [.vs 1 0 e1.length,.vs 2 0 e2.length,.vs 3 0 e3.length,.vs 4 0 (e4.length+1),.vs 5 0 k1.length,.vs 6 0 k2.length,.vs 7 0 k3.length,.vs 8 0 (k4.length+1),.int .i64 4,.bool true,.bool false]),(true,.vec 2 e1),(true,.vec 2 e2),(true,.vec 2 e3),(false,.vec 3 (e4++[[.str t,.con (.slice none 0 0),.int .i64 0]])),(true,.vec 1 (k1.map am)),(true,.vec 1 (k2.map am)),(true,.vec 1 (k3.map am)),(false,.vec 1 (k4.map am++[[.str t]]))]⟩)):=by
 unfold tZ;refine gZ (λhq=>OD p1 p2 p3 p4 s 2 (acp e1 e2 e3 e4 p1 p2 p3 p4 k1 k2 k3 k4 so false false l1 l2 l3 l4 q1 q2 q3 q4 s (by omega) hq (hn hq).1 (hn hq).2.1 (hn hq).2.2)) λw0=>gZ (λw=>?_) λw1=>gZ (λw=>?_) λw2=>gZ (λw=>?_) λw3=>?_
 ·have hc:=SX w;exact jk (λh=>gtX e1 e2 e3 e4 p1 p2 p3 p4 k1 k2 k3 k4 so s hs (afe e1 e2 e3 e4 p1 p2 p3 p4 k1 k2 k3 k4 so false false l1 l2 l3 l4 q1 q2 q3 q4 s _ (by omega) hc h)) λh=>jk (λho=>gtX e1 e2 e3 e4 p1 p2 p3 p4 k1 k2 k3 k4 so s hs (Zu e1 e2 e3 e4 p1 p2 p3 p4 k1 k2 k3 k4 so false false l1 l2 l3 l4 q1 q2 q3 q4 s _ (by omega) hc h ho)) λho=>gZ (λhk=>gtX e1 e2 e3 e4 p1 p2 p3 p4 k1 k2 k3 k4 so s hs (ZL e1 e2 e3 e4 p1 p2 p3 p4 k1 k2 k3 k4 so false false l1 l2 l3 l4 q1 q2 q3 q4 s _ (by omega) hc h ho hk)) λhk=>jk (λhn=>gtX e1 e2 e3 e4 p1 p2 p3 p4 k1 k2 k3 k4 so s hs (ZC e1 e2 e3 e4 p1 p2 p3 p4 k1 k2 k3 k4 so false false l1 l2 l3 l4 q1 q2 q3 q4 s _ (by omega) hc h ho (by omega) hn)) λhn=>xK p1 p2 p3 p4 s (aco e1 e2 e3 e4 p1 p2 p3 p4 k1 k2 k3 k4 so false false l1 l2 l3 l4 q1 q2 q3 q4 s _ (by omega) hc h ho (by omega) hn) ⟨eF p1 rfl,p2,p3,p4,eF (pkE k1) rfl,pkE k2,pkE k3,pkE k4⟩
 ·have hc:=SX w;exact jk (λh=>gtX e1 e2 e3 e4 p1 p2 p3 p4 k1 k2 k3 k4 so s hs (afd e1 e2 e3 e4 p1 p2 p3 p4 k1 k2 k3 k4 so false false l1 l2 l3 l4 q1 q2 q3 q4 s _ (by omega) hc h)) λh=>jk (λho=>gtX e1 e2 e3 e4 p1 p2 p3 p4 k1 k2 k3 k4 so s hs (Zt e1 e2 e3 e4 p1 p2 p3 p4 k1 k2 k3 k4 so false false l1 l2 l3 l4 q1 q2 q3 q4 s _ (by omega) hc h ho)) λho=>gZ (λhk=>gtX e1 e2 e3 e4 p1 p2 p3 p4 k1 k2 k3 k4 so s hs (ZK e1 e2 e3 e4 p1 p2 p3 p4 k1 k2 k3 k4 so false false l1 l2 l3 l4 q1 q2 q3 q4 s _ (by omega) hc h ho hk)) λhk=>jk (λhn=>gtX e1 e2 e3 e4 p1 p2 p3 p4 k1 k2 k3 k4 so s hs (Zy e1 e2 e3 e4 p1 p2 p3 p4 k1 k2 k3 k4 so false false l1 l2 l3 l4 q1 q2 q3 q4 s _ (by omega) hc h ho (by omega) hn)) λhn=>xK p1 p2 p3 p4 s (acn e1 e2 e3 e4 p1 p2 p3 p4 k1 k2 k3 k4 so false false l1 l2 l3 l4 q1 q2 q3 q4 s _ (by omega) hc h ho (by omega) hn) ⟨p1,eF p2 rfl,p3,p4,pkE k1,eF (pkE k2) rfl,pkE k3,pkE k4⟩
 ·have hc:=SX w;exact jk (λh=>gtX e1 e2 e3 e4 p1 p2 p3 p4 k1 k2 k3 k4 so s hs (afc e1 e2 e3 e4 p1 p2 p3 p4 k1 k2 k3 k4 so false false l1 l2 l3 l4 q1 q2 q3 q4 s _ (by omega) hc h)) λh=>jk (λho=>gtX e1 e2 e3 e4 p1 p2 p3 p4 k1 k2 k3 k4 so s hs (Zr e1 e2 e3 e4 p1 p2 p3 p4 k1 k2 k3 k4 so false false l1 l2 l3 l4 q1 q2 q3 q4 s _ (by omega) hc h ho)) λho=>gZ (λhk=>gtX e1 e2 e3 e4 p1 p2 p3 p4 k1 k2 k3 k4 so s hs (ZH e1 e2 e3 e4 p1 p2 p3 p4 k1 k2 k3 k4 so false false l1 l2 l3 l4 q1 q2 q3 q4 s _ (by omega) hc h ho hk)) λhk=>jk (λhn=>gtX e1 e2 e3 e4 p1 p2 p3 p4 k1 k2 k3 k4 so s hs (Zx e1 e2 e3 e4 p1 p2 p3 p4 k1 k2 k3 k4 so false false l1 l2 l3 l4 q1 q2 q3 q4 s _ (by omega) hc h ho (by omega) hn)) λhn=>xK p1 p2 p3 p4 s (acm e1 e2 e3 e4 p1 p2 p3 p4 k1 k2 k3 k4 so false false l1 l2 l3 l4 q1 q2 q3 q4 s _ (by omega) hc h ho (by omega) hn) ⟨p1,p2,eF p3 rfl,p4,pkE k1,pkE k2,eF (pkE k3) rfl,pkE k4⟩
 ·have hc:=SX (agN w0 w1 w2 w3);exact jk (λh=>gtX e1 e2 e3 e4 p1 p2 p3 p4 k1 k2 k3 k4 so s hs (afb e1 e2 e3 e4 p1 p2 p3 p4 k1 k2 k3 k4 so false false l1 l2 l3 l4 q1 q2 q3 q4 s _ (by omega) hc h)) λh=>jk (λho=>gtX e1 e2 e3 e4 p1 p2 p3 p4 k1 k2 k3 k4 so s hs (Zq e1 e2 e3 e4 p1 p2 p3 p4 k1 k2 k3 k4 so false false l1 l2 l3 l4 q1 q2 q3 q4 s _ (by omega) hc h ho)) λho=>gZ (λhk=>gtX e1 e2 e3 e4 p1 p2 p3 p4 k1 k2 k3 k4 so s hs (ZE e1 e2 e3 e4 p1 p2 p3 p4 k1 k2 k3 k4 so false false l1 l2 l3 l4 q1 q2 q3 q4 s _ (by omega) hc h ho hk)) λhk=>jk (λhn=>gtX e1 e2 e3 e4 p1 p2 p3 p4 k1 k2 k3 k4 so s hs (Zw e1 e2 e3 e4 p1 p2 p3 p4 k1 k2 k3 k4 so false false l1 l2 l3 l4 q1 q2 q3 q4 s _ (by omega) hc h ho (by omega) hn)) λhn=>xK p1 p2 p3 p4 s (acl e1 e2 e3 e4 p1 p2 p3 p4 k1 k2 k3 k4 so false false l1 l2 l3 l4 q1 q2 q3 q4 s _ (by omega) hc h ho (by omega) hn) ⟨p1,p2,p3,eF p4 rfl,pkE k1,pkE k2,pkE k3,eF (pkE k4) rfl⟩
end
section
variable (e1 e2 e3 e4 rl:CS)(p1:aa e1=true)(p2:aa e2=true)(p3:aa e3=true)(p4:aa e4=true)(pr:aa rl=true)(k1 k2 k3 k4:C5)(nm:CF)(n:Nat)(l1:e1.length<2^30)(l2:e2.length<2^30)(l3:e3.length<2^30)(l4:e4.length<2^30)
include p1 p2 p3 p4 pr l1 l2 l3 l4
theorem gr1 (hn:n=e1.length+1)(s:CF)(hs:s.length<2^30)(hq:bH (ax s).1=0):dw (bP n e2.length e3.length e4.length 1 false false (e1++[[AV.str nm,AV.vs 9 0 rl.length]]) e2 e3 e4 k1 k2 k3 k4 [.vec 5 rl]) s (BQ s rl.length (λe=>⟨.int .i64 e,rP n e2.length e3.length e4.length 1 false false (.nest 2 e1 [[AV.str nm,AV.vs 9 0 rl.length]]) (.vec 2 e2) (.vec 2 e3) (.vec 3 e4) k1 k2 k3 k4 [(true,.vec 5 rl)]⟩) ⟨.int .i64 0,rP n e2.length e3.length e4.length 1 false false (.nest 2 e1 [[AV.str nm,AV.vs 9 0 (rl.length+1)]]) (.vec 2 e2) (.vec 2 e3) (.vec 3 e4) k1 k2 k3 k4 [(false,.vec 5 (rl++[(J.plP s).1.enc]))]⟩):=
 jk (λh=>Ib p1 p2 p3 p4 pr s 2 (acL e1 e2 e3 e4 rl p1 p2 p3 p4 pr k1 k2 k3 k4 false false nm n l1 l2 l3 l4 hn s (by omega) hq h)) λh=>gZ (λhk=>Ib p1 p2 p3 p4 pr s 4 (Yi e1 e2 e3 e4 rl p1 p2 p3 p4 pr k1 k2 k3 k4 false false nm n l1 l2 l3 l4 hn s (by omega) hq h hk)) λhk=>acI p1 p2 p3 p4 pr (eF pr rfl) s (aei e1 e2 e3 e4 rl p1 p2 p3 p4 pr k1 k2 k3 k4 false false nm n l1 l2 l3 l4 hn s (by omega) hq h (by omega))
theorem gr2 (hn:n=e2.length+1)(s:CF)(hs:s.length<2^30)(hq:bH (ax s).1=0):dw (bP e1.length n e3.length e4.length 2 false false e1 (e2++[[AV.str nm,AV.vs 9 0 rl.length]]) e3 e4 k1 k2 k3 k4 [.vec 2 rl]) s (w5 s rl.length (λe=>⟨.int .i64 e,rP e1.length n e3.length e4.length 2 false false (.vec 2 e1) (.nest 2 e2 [[AV.str nm,AV.vs 9 0 rl.length]]) (.vec 2 e3) (.vec 3 e4) k1 k2 k3 k4 [(true,.vec 2 rl)]⟩) λb t=>⟨.int .i64 0,rP e1.length n e3.length e4.length 2 false false (.vec 2 e1) (.nest 2 e2 [[AV.str nm,AV.vs 9 0 (rl.length+1)]]) (.vec 2 e3) (.vec 3 e4) k1 k2 k3 k4 [(false,.vec 2 (rl++[[.bool b,.str t]]))]⟩):=by
 unfold w5;split
 ·rename_i hP;exact vN p1 p2 p3 p4 pr s 2 (Yl e1 e2 e3 e4 rl p1 p2 p3 p4 pr k1 k2 k3 k4 false false nm n l1 l2 l3 l4 hn s (by omega) hq hP)
 ·rename_i b t hP;exact gZ (λh=>gZ (λhk=>vN p1 p2 p3 p4 pr s 4 (Ym e1 e2 e3 e4 rl p1 p2 p3 p4 pr k1 k2 k3 k4 false false nm n l1 l2 l3 l4 hn s (by omega) hq b t hP h hk)) λhk=>acH p1 p2 p3 p4 pr (eF pr rfl) s (aen e1 e2 e3 e4 rl p1 p2 p3 p4 pr k1 k2 k3 k4 false false nm n l1 l2 l3 l4 hn s (by omega) hq b t hP h (by omega))) λh=>vN p1 p2 p3 p4 pr s 2 (acQ e1 e2 e3 e4 rl p1 p2 p3 p4 pr k1 k2 k3 k4 false false nm n l1 l2 l3 l4 hn s (by omega) hq b t hP (by simpa using h))
theorem gr3 (hn:n=e3.length+1)(s:CF)(hs:s.length<2^30)(hq:bH (ax s).1=0):dw (bP e1.length e2.length n e4.length 3 false false e1 e2 (e3++[[AV.str nm,AV.vs 9 0 rl.length]]) e4 k1 k2 k3 k4 [.vec 3 rl]) s (w6 s rl.length (λe=>⟨.int .i64 e,rP e1.length e2.length n e4.length 3 false false (.vec 2 e1) (.vec 2 e2) (.nest 2 e3 [[AV.str nm,AV.vs 9 0 rl.length]]) (.vec 3 e4) k1 k2 k3 k4 [(true,.vec 3 rl)]⟩) λb t=>⟨.int .i64 0,rP e1.length e2.length n e4.length 3 false false (.vec 2 e1) (.vec 2 e2) (.nest 2 e3 [[AV.str nm,AV.vs 9 0 (rl.length+1)]]) (.vec 3 e4) k1 k2 k3 k4 [(false,.vec 3 (rl++[(jc b t rl.length).2.enc]))]⟩):=by
 unfold w6;split
 ·rename_i hP;exact GZ p1 p2 p3 p4 pr s 2 (abj e1 e2 e3 e4 rl p1 p2 p3 p4 pr k1 k2 k3 k4 false false nm n l1 l2 l3 l4 hn s (by omega) hq hP)
 ·rename_i b t hP
  exact gZ (λhc=>acG p1 p2 p3 p4 pr (eF pr rfl) s (DU e1 e2 e3 e4 rl p1 p2 p3 p4 pr k1 k2 k3 k4 false false nm n l1 l2 l3 l4 hn s (by omega) hq b t hP _ (λe he h0=>absurd (he.symm.trans hc) h0) (λ_=>rfl))) λhc=>GZ p1 p2 p3 p4 pr s _ (DU e1 e2 e3 e4 rl p1 p2 p3 p4 pr k1 k2 k3 k4 false false nm n l1 l2 l3 l4 hn s (by omega) hq b t hP _ (λe he _=>congrArg (λz=>(⟨pnV (.ifc 138 (.agg [.int .i64 z])),_⟩:Ret)) he) (λhe=>absurd he hc))
end
theorem pkT (l:Da):aa (l.map Trm.enc)=true:=by simp
theorem pkM (l:Ds):aa (l.map Mat.enc)=true:=by simp
theorem pkA (l:Dr):aa (l.map Actn.enc)=true:=by simp
section
variable (e1 e2 e3 e4:CS)(p1:aa e1=true)(p2:aa e2=true)(p3:aa e3=true)(p4:aa e4=true)(k1 k2 k3 k4:C5)(so:Int)(nm:CF)(n:Nat)(hn:n=e4.length+1)(l4:e4.length<2^30)(ts:Da)(lt:ts.length<2^30)(hf:Kn.fit ⟨k1,k2,k3,k4⟩)(s:CF)(hs:s.length<2^30)
include p1 p2 p3 p4 hn l4 lt hf hs
theorem gpo:dw (bP e1.length e2.length e3.length n so true false e1 e2 e3 (e4++[[AV.str nm,AV.vs 9 0 ts.length,AV.int .i64 0]]) k1 k2 k3 k4 [.vec 4 (ts.map Trm.enc)]) s (Lr s ts.length (f9 ⟨k1,k2,k3,k4⟩ ts ⟨(ax s).2,[],[],1⟩) (λe=>⟨.int .i64 e,rP e1.length e2.length e3.length n so true false (.vec 2 e1) (.vec 2 e2) (.vec 2 e3) (.nest 3 e4 [[AV.str nm,AV.vs 9 0 ts.length,AV.int .i64 0]]) k1 k2 k3 k4 [(true,.vec 4 (ts.map Trm.enc))]⟩) (λv=>⟨.int .i64 0,rP e1.length e2.length e3.length n so false false (.vec 2 e1) (.vec 2 e2) (.vec 2 e3) (.nest 3 e4 [[AV.str nm,AV.vs 9 0 ts.length,AV.int .i64 v]]) k1 k2 k3 k4 [(true,.vec 4 (ts.map Trm.enc))]⟩) ⟨.int .i64 0,rP e1.length e2.length e3.length n so true true (.vec 2 e1) (.vec 2 e2) (.vec 2 e3) (.nest 3 e4 [[AV.str nm,AV.vs 9 0 (ts.length+1),AV.int .i64 0]]) k1 k2 k3 k4 [(false,.vec 4 (ts.map Trm.enc++[[.str (ax s).2,.con (.slice none 0 0),.con (.slice none 0 0),.int .i64 0]]))]⟩):=by
 unfold Lr;refine gZ (λd=>?_) λd1=>gZ (λd=>?_) λd2=>jk (λhw=>ut p1 p2 p3 p4 (pkT ts) s 2 (adP e1 e2 e3 e4 p1 p2 p3 p4 k1 k2 k3 k4 so false nm 0 n hn l4 ts lt s (by omega) d1 d2 hw)) λhw=>jk (λho=>ut p1 p2 p3 p4 (pkT ts) s 2 (adM e1 e2 e3 e4 p1 p2 p3 p4 k1 k2 k3 k4 so false nm 0 n hn l4 ts lt s (by omega) d1 d2 hw ho)) λho=>gZ (λhk=>ut p1 p2 p3 p4 (pkT ts) s 4 (adO e1 e2 e3 e4 p1 p2 p3 p4 k1 k2 k3 k4 so false nm 0 n hn l4 ts lt s (by omega) d1 d2 hw ho hk)) λhk=>jk (λhc=>ut p1 p2 p3 p4 (pkT ts) s _ (adN e1 e2 e3 e4 p1 p2 p3 p4 k1 k2 k3 k4 so false nm 0 n hn l4 ts lt hf s (by omega) d1 d2 hw ho (by omega) hc)) λhc=>Ic p1 p2 p3 p4 (pkT ts) (eF (pkT ts) rfl) s (agZ e1 e2 e3 e4 p1 p2 p3 p4 k1 k2 k3 k4 so false nm 0 n hn l4 ts lt hf s (by omega) d1 d2 hw ho (by omega) hc)
 ·subst d;exact Ic p1 p2 p3 p4 (pkT ts) (pkT ts) _ (ag1 e1 e2 e3 e4 p1 p2 p3 p4 k1 k2 k3 k4 so false nm 0 n hn l4 ts lt)
 ·subst d;exact Ic p1 p2 p3 p4 (pkT ts) (pkT ts) _ (ag0 e1 e2 e3 e4 p1 p2 p3 p4 k1 k2 k3 k4 so false nm 0 n hn l4 ts lt)
theorem gtr (tn:CF)(ms:Ds)(lm:ms.length<2^30)(acs:Dr)(la:acs.length<2^30)(m:Nat)(hm:m=ts.length+1):dw (bP e1.length e2.length e3.length n so true true e1 e2 e3 (e4++[[AV.str nm,AV.vs 9 0 m,AV.int .i64 0]]) k1 k2 k3 k4 [.vec 4 (ts.map Trm.enc++[[AV.str tn,AV.vs 10 0 ms.length,AV.vs 11 0 acs.length,AV.int .i64 0]]),.vec 6 (ms.map Mat.enc),.vec 5 (acs.map Actn.enc)]) s (Lq s ms.length acs.length (mtE ⟨k1,k2,k3,k4⟩) (λe=>⟨.int .i64 e,rP e1.length e2.length e3.length n so true true (.vec 2 e1) (.vec 2 e2) (.vec 2 e3) (.nest 3 e4 [[AV.str nm,AV.vs 9 0 m,AV.int .i64 0]]) k1 k2 k3 k4 [(true,.nest 4 (ts.map Trm.enc) [[AV.str tn,AV.vs 10 0 ms.length,AV.vs 11 0 acs.length,AV.int .i64 0]]),(true,.vec 6 (ms.map Mat.enc)),(true,.vec 5 (acs.map Actn.enc))]⟩) (λv=>⟨.int .i64 0,rP e1.length e2.length e3.length n so true false (.vec 2 e1) (.vec 2 e2) (.vec 2 e3) (.nest 3 e4 [[AV.str nm,AV.vs 9 0 m,AV.int .i64 0]]) k1 k2 k3 k4 [(true,.nest 4 (ts.map Trm.enc) [[AV.str tn,AV.vs 10 0 ms.length,AV.vs 11 0 acs.length,AV.int .i64 v]]),(true,.vec 6 (ms.map Mat.enc)),(true,.vec 5 (acs.map Actn.enc))]⟩) (λx=>⟨.int .i64 0,rP e1.length e2.length e3.length n so true true (.vec 2 e1) (.vec 2 e2) (.vec 2 e3) (.nest 3 e4 [[AV.str nm,AV.vs 9 0 m,AV.int .i64 0]]) k1 k2 k3 k4 [(true,.nest 4 (ts.map Trm.enc) [[AV.str tn,AV.vs 10 0 (ms.length+1),AV.vs 11 0 acs.length,AV.int .i64 0]]),(false,.vec 6 (ms.map Mat.enc++[x.enc])),(true,.vec 5 (acs.map Actn.enc))]⟩) λx=>⟨.int .i64 0,rP e1.length e2.length e3.length n so true true (.vec 2 e1) (.vec 2 e2) (.vec 2 e3) (.nest 3 e4 [[AV.str nm,AV.vs 9 0 m,AV.int .i64 0]]) k1 k2 k3 k4 [(true,.nest 4 (ts.map Trm.enc) [[AV.str tn,AV.vs 10 0 ms.length,AV.vs 11 0 (acs.length+1),AV.int .i64 0]]),(true,.vec 6 (ms.map Mat.enc)),(false,.vec 5 (acs.map Actn.enc++[x.enc]))]⟩):=by
 unfold Lq;refine gZ (λd=>?_) λd1=>gZ (λd=>?_) λd2=>gZ (λd=>?_) λd3=>gZ (λhw=>jk (λha=>k9 p1 p2 p3 p4 (pkT ts) (pkM ms) (pkA acs) s 2 (acb e1 e2 e3 e4 p1 p2 p3 p4 k1 k2 k3 k4 so true nm 0 n hn l4 ts lt tn ms lm acs la m hm s hs d1 d2 d3 hw (λq=>ha (by rw[q];rfl)))) λha=>?_) λhw=>gZ (λhw2=>?_) λhw2=>k9 p1 p2 p3 p4 (pkT ts) (pkM ms) (pkA acs) s 2 (acd e1 e2 e3 e4 p1 p2 p3 p4 k1 k2 k3 k4 so true nm 0 n hn l4 ts lt tn ms lm acs la m hm s hs d1 d2 d3 hw hw2)
 ·subst d;exact sk p1 p2 p3 p4 (pkT ts) (pkM ms) (pkA acs) (pkM ms) (pkA acs) _ (agr e1 e2 e3 e4 p1 p2 p3 p4 k1 k2 k3 k4 so true nm 0 n hn l4 ts lt tn ms lm acs la m hm)
 ·subst d;exact sk p1 p2 p3 p4 (pkT ts) (pkM ms) (pkA acs) (pkM ms) (pkA acs) _ (agq e1 e2 e3 e4 p1 p2 p3 p4 k1 k2 k3 k4 so true nm 0 n hn l4 ts lt tn ms lm acs la m hm)
 ·subst d;exact sk p1 p2 p3 p4 (pkT ts) (pkM ms) (pkA acs) (pkM ms) (pkA acs) _ (agp e1 e2 e3 e4 p1 p2 p3 p4 k1 k2 k3 k4 so true nm 0 n hn l4 ts lt tn ms lm acs la m hm)
 ·split
  ·rename_i hm2;exact k9 p1 p2 p3 p4 (pkT ts) (pkM ms) (pkA acs) s 2 (aca e1 e2 e3 e4 p1 p2 p3 p4 k1 k2 k3 k4 so true nm 0 n hn l4 ts lt tn ms lm acs la m hm s hs d1 d2 d3 hw ha hm2)
  ·rename_i x hm2;exact gZ (λhk=>k9 p1 p2 p3 p4 (pkT ts) (pkM ms) (pkA acs) s 4 (Xl e1 e2 e3 e4 p1 p2 p3 p4 k1 k2 k3 k4 so true nm 0 n hn l4 ts lt tn ms lm acs la m hm s hs d1 d2 d3 hw ha x hm2 hk)) λhk=>jk (λhc=>k9 p1 p2 p3 p4 (pkT ts) (pkM ms) (pkA acs) s _ (ab9 e1 e2 e3 e4 p1 p2 p3 p4 k1 k2 k3 k4 so true nm 0 n hn l4 ts lt tn ms lm acs la m hm s hs d1 d2 d3 hw ha hf x hm2 (OW hm2) (by omega) hc)) λhc=>sk p1 p2 p3 p4 (pkT ts) (pkM ms) (pkA acs) (eF (pkM ms) rfl) (pkA acs) s (ad4 e1 e2 e3 e4 p1 p2 p3 p4 k1 k2 k3 k4 so true nm 0 n hn l4 ts lt tn ms lm acs la m hm s hs d1 d2 d3 hw ha hf x hm2 (OW hm2) (by omega) hc)
 ·split
  ·rename_i hm2;exact k9 p1 p2 p3 p4 (pkT ts) (pkM ms) (pkA acs) s 2 (acf e1 e2 e3 e4 p1 p2 p3 p4 k1 k2 k3 k4 so true nm 0 n hn l4 ts lt tn ms lm acs la m hm s hs d1 d2 d3 hw2 hm2)
  ·rename_i x hm2;exact gZ (λhk=>k9 p1 p2 p3 p4 (pkT ts) (pkM ms) (pkA acs) s 4 (Xm e1 e2 e3 e4 p1 p2 p3 p4 k1 k2 k3 k4 so true nm 0 n hn l4 ts lt tn ms lm acs la m hm s hs d1 d2 d3 hw2 x hm2 hk)) λhk=>jk (λhc=>k9 p1 p2 p3 p4 (pkT ts) (pkM ms) (pkA acs) s _ (ace e1 e2 e3 e4 p1 p2 p3 p4 k1 k2 k3 k4 so true nm 0 n hn l4 ts lt tn ms lm acs la m hm s hs d1 d2 d3 hw2 x hm2 (by omega) hc)) λhc=>sk p1 p2 p3 p4 (pkT ts) (pkM ms) (pkA acs) (pkM ms) (eF (pkA acs) rfl) s (ad5 e1 e2 e3 e4 p1 p2 p3 p4 k1 k2 k3 k4 so true nm 0 n hn l4 ts lt tn ms lm acs la m hm s hs d1 d2 d3 hw2 x hm2 (by omega) hc)
end
end Go.AM.IR
