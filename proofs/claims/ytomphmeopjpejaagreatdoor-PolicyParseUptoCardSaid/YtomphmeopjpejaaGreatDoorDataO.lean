/- What functions of this program give. -/
import Derived.Test.YtomphmeopjpejaaGreatDoorDataN
set_option linter.unusedSectionVars false
set_option linter.unusedVariables false
set_option linter.unusedSimpArgs false
set_option maxHeartbeats 4000000
set_option maxRecDepth 20000
namespace Go.AM.IR
def OY:AV->Option B6
 | .ifc t (.agg [.int .i64 e])=>if t=138 then some [[.int .i64 e]] else none
 |_=>none
def dm (bs:C5)(s:B5)(t:Ret):Prop:= ∃A caps,Qz.pre G [.ref 0 0 0,.str s] bs=some A/\bI A.tm D0= .fn 540 caps/\caps.length=1/\Ev G (Qz.cfg OY A bs.length) t
theorem flg {f:Bool}{c:Nat}(h:c≠0):f=decide ((bif f then 0 else c)=0):=by cases f<;>simp[h]
theorem pkE (k:CF):ab (k.map ah)=true:=by
 induction k with
 |nil=>rfl
 |cons a r ih=>simp only[An,ab,ih,Bool.and_true];rfl
section
variable {e1 e2 e3 e4:B6}(p1:ab e1=true)(p2:ab e2=true)(p3:ab e3=true)(p4:ab e4=true){k1 k2 k3 k4:CF}{n1 n2 n3 n4:Nat}{so mo:Int}{nm:B5}{x y:Nat}{r w:B6}
include p1 p2 p3 p4
theorem yk {h1 h2 h3 h4 h5 h6 h7 h8:B6}{m1 m2 m3 m4 m5 m6 m7 m8:Nat}{pol trm:Bool}{f1 f2 f3 f4 f5 f6 f7 f8:Bool}(s:B5)(h:ag G 541 [.ref 0 0 0,.str s] (bP n1 n2 n3 n4 so false false e1 e2 e3 e4 k1 k2 k3 k4 []) ⟨.tup [],mkR [(true,.cells [.vs 1 0 m1,.vs 2 0 m2,.vs 3 0 m3,.vs 4 0 m4,.vs 5 0 m5,.vs 6 0 m6,.vs 7 0 m7,.vs 8 0 m8,.int .i64 mo,.bool pol,.bool trm]),(f1,.vec 2 h1),(f2,.vec 2 h2),(f3,.vec 2 h3),(f4,.vec 3 h4),(f5,.vec 1 h5),(f6,.vec 1 h6),(f7,.vec 1 h7),(f8,.vec 1 h8)]⟩)(q:ab h1=true/\ab h2=true/\ab h3=true/\ab h4=true/\ab h5=true/\ab h6=true/\ab h7=true/\ab h8=true):dm (bP n1 n2 n3 n4 so false false e1 e2 e3 e4 k1 k2 k3 k4 []) s ⟨.int .i64 0,mkR [(true,.cells [.vs 1 0 m1,.vs 2 0 m2,.vs 3 0 m3,.vs 4 0 m4,.vs 5 0 m5,.vs 6 0 m6,.vs 7 0 m7,.vs 8 0 m8,.int .i64 mo,.bool pol,.bool trm]),(f1,.vec 2 h1),(f2,.vec 2 h2),(f3,.vec 2 h3),(f4,.vec 3 h4),(f5,.vec 1 h5),(f6,.vec 1 h6),(f7,.vec 1 h7),(f8,.vec 1 h8)]⟩:=by
 obtain ⟨y1,y2,y3,y4,y5,y6,y7,y8⟩:=q;have z1:=pkE k1;have z2:=pkE k2;have z3:=pkE k3;have z4:=pkE k4
 unfold bP at*;refine ⟨_,_,rfl,rfl,rfl,?_⟩;refine wk3 ?_
 repeat' (first|refine aW ?_|apply ae<;>intro h)
 (conv=>whnf)
 refine kP pzA [] lD trivial h ?_
 repeat' (first|refine aW ?_|apply ae<;>intro h)
 (first|refine da pzA [] [true,f1,f2,f3,f4,f5,f6,f7,f8] ?_ (hfl:=by repeat' (first|exact trivial|refine ⟨(by first|rfl|exact flg (by omega)),?_⟩))|refine db pzA [] [true,f1,f2,f3,f4,f5,f6,f7,f8] ?_ (hfl:=by repeat' (first|exact trivial|refine ⟨(by first|rfl|exact flg (by omega)),?_⟩)))
 (conv=>whnf)
 refine cx ?_;rfl
theorem NF (s:B5)(e:Int)(h:ag G 541 [.ref 0 0 0,.str s] (bP n1 n2 n3 n4 so false false e1 e2 e3 e4 k1 k2 k3 k4 []) ⟨pnV (.ifc 138 (.agg [.int .i64 e])),rP n1 n2 n3 n4 mo false false (.vec 2 e1) (.vec 2 e2) (.vec 2 e3) (.vec 3 e4) k1 k2 k3 k4 []⟩):dm (bP n1 n2 n3 n4 so false false e1 e2 e3 e4 k1 k2 k3 k4 []) s ⟨.int .i64 e,rP n1 n2 n3 n4 mo false false (.vec 2 e1) (.vec 2 e2) (.vec 2 e3) (.vec 3 e4) k1 k2 k3 k4 []⟩:=by
 have z1:=pkE k1;have z2:=pkE k2;have z3:=pkE k3;have z4:=pkE k4
 unfold bP rP at*;replace h:=λ(_:True)=>h
 refine ⟨_,_,rfl,rfl,rfl,?_⟩;refine wk3 ?_
 repeat' (first|refine aW ?_|apply ae<;>intro h)
 (conv=>whnf)
 refine CallG.stop ?_;refine jp 541 _ (h trivial) (λQ hr hg=>?_)
 refine kP pzA [] lD trivial hg ?_ (hE:=by rw[hr];kernel_rfl)
 refine nd pzA [] iC rfl rfl rfl rfl rfl rfl lD (by exact Nat.succ_pos _) rfl (by kernel_rfl) trivial (by repeat' (first|exact trivial|rfl|assumption|refine And.intro ?_ ?_|(simp[PB.okX,PB.okS,PB.renS,aM,ab,AV.pure,Blk.renS,Blk.okS,Blk.okX,AV.okS,AV.okX, *];done)|fail)) (by repeat' (first|exact trivial|refine ⟨(by first|rfl|exact flg (by omega)),?_⟩)) ?_
 rfl
theorem ack (pr:ab r=true)(pw:ab w=true)(s:B5)(h:ag G 541 [.ref 0 0 0,.str s] (bP n1 n2 n3 n4 so false false (e1++[[AV.str nm,AV.vs 9 0 x]]) e2 e3 e4 k1 k2 k3 k4 [.vec 5 r]) ⟨.tup [],rP n1 n2 n3 n4 mo false false (.nest 2 e1 [[AV.str nm,AV.vs 9 0 y]]) (.vec 2 e2) (.vec 2 e3) (.vec 3 e4) k1 k2 k3 k4 [(false,.vec 5 w)]⟩):dm (bP n1 n2 n3 n4 so false false (e1++[[AV.str nm,AV.vs 9 0 x]]) e2 e3 e4 k1 k2 k3 k4 [.vec 5 r]) s ⟨.int .i64 0,rP n1 n2 n3 n4 mo false false (.nest 2 e1 [[AV.str nm,AV.vs 9 0 y]]) (.vec 2 e2) (.vec 2 e3) (.vec 3 e4) k1 k2 k3 k4 [(false,.vec 5 w)]⟩:=by
 have z1:=pkE k1;have z2:=pkE k2;have z3:=pkE k3;have z4:=pkE k4
 unfold bP rP at*;refine ⟨_,_,rfl,rfl,rfl,?_⟩;refine wk3 ?_
 repeat' (first|refine aW ?_|apply ae<;>intro h)
 (conv=>whnf)
 refine kP lJ [] cu trivial h ?_
 repeat' (first|refine aW ?_|apply ae<;>intro h)
 (first|refine da lJ [] [true,true,true,true,true,true,true,true,true,false] ?_ (hfl:=by repeat' (first|exact trivial|refine ⟨(by first|rfl|exact flg (by omega)),?_⟩))|refine db lJ [] [true,true,true,true,true,true,true,true,true,false] ?_ (hfl:=by repeat' (first|exact trivial|refine ⟨(by first|rfl|exact flg (by omega)),?_⟩)))
 (conv=>whnf)
 refine cx ?_;rfl
theorem Ib {x:Nat}{r:B6}(pr:ab r=true)(s:B5)(e:Int)(h:ag G 541 [.ref 0 0 0,.str s] (bP n1 n2 n3 n4 so false false (e1++[[AV.str nm,AV.vs 9 0 x]]) e2 e3 e4 k1 k2 k3 k4 [.vec 5 r]) ⟨pnV (.ifc 138 (.agg [.int .i64 e])),rP n1 n2 n3 n4 mo false false (.nest 2 e1 [[AV.str nm,AV.vs 9 0 x]]) (.vec 2 e2) (.vec 2 e3) (.vec 3 e4) k1 k2 k3 k4 [(true,.vec 5 r)]⟩):dm (bP n1 n2 n3 n4 so false false (e1++[[AV.str nm,AV.vs 9 0 x]]) e2 e3 e4 k1 k2 k3 k4 [.vec 5 r]) s ⟨.int .i64 e,rP n1 n2 n3 n4 mo false false (.nest 2 e1 [[AV.str nm,AV.vs 9 0 x]]) (.vec 2 e2) (.vec 2 e3) (.vec 3 e4) k1 k2 k3 k4 [(true,.vec 5 r)]⟩:=by
 have z1:=pkE k1;have z2:=pkE k2;have z3:=pkE k3;have z4:=pkE k4
 unfold bP rP at*;replace h:=λ(_:True)=>h
 refine ⟨_,_,rfl,rfl,rfl,?_⟩;refine wk3 ?_
 repeat' (first|refine aW ?_|apply ae<;>intro h)
 (conv=>whnf)
 refine CallG.stop ?_;refine jp 541 _ (h trivial) (λQ hr hg=>?_)
 refine kP lJ [] cu trivial hg ?_ (hE:=by rw[hr];kernel_rfl)
 refine nd lJ [] de rfl rfl rfl rfl rfl rfl cu (by exact Nat.succ_pos _) rfl (by kernel_rfl) trivial (by repeat' (first|exact trivial|rfl|assumption|refine And.intro ?_ ?_|(simp[PB.okX,PB.okS,PB.renS,aM,ab,AV.pure,Blk.renS,Blk.okS,Blk.okX,AV.okS,AV.okX, *];done)|fail)) (by repeat' (first|exact trivial|refine ⟨(by first|rfl|exact flg (by omega)),?_⟩)) ?_
 rfl
theorem acj (pr:ab r=true)(pw:ab w=true)(s:B5)(h:ag G 541 [.ref 0 0 0,.str s] (bP n1 n2 n3 n4 so false false e1 (e2++[[AV.str nm,AV.vs 9 0 x]]) e3 e4 k1 k2 k3 k4 [.vec 2 r]) ⟨.tup [],rP n1 n2 n3 n4 mo false false (.vec 2 e1) (.nest 2 e2 [[AV.str nm,AV.vs 9 0 y]]) (.vec 2 e3) (.vec 3 e4) k1 k2 k3 k4 [(false,.vec 2 w)]⟩):dm (bP n1 n2 n3 n4 so false false e1 (e2++[[AV.str nm,AV.vs 9 0 x]]) e3 e4 k1 k2 k3 k4 [.vec 2 r]) s ⟨.int .i64 0,rP n1 n2 n3 n4 mo false false (.vec 2 e1) (.nest 2 e2 [[AV.str nm,AV.vs 9 0 y]]) (.vec 2 e3) (.vec 3 e4) k1 k2 k3 k4 [(false,.vec 2 w)]⟩:=by
 have z1:=pkE k1;have z2:=pkE k2;have z3:=pkE k3;have z4:=pkE k4
 unfold bP rP at*;refine ⟨_,_,rfl,rfl,rfl,?_⟩;refine wk3 ?_
 repeat' (first|refine aW ?_|apply ae<;>intro h)
 (conv=>whnf)
 refine kP j4 [] cu trivial h ?_
 repeat' (first|refine aW ?_|apply ae<;>intro h)
 (first|refine da j4 [] [true,true,true,true,true,true,true,true,true,false] ?_ (hfl:=by repeat' (first|exact trivial|refine ⟨(by first|rfl|exact flg (by omega)),?_⟩))|refine db j4 [] [true,true,true,true,true,true,true,true,true,false] ?_ (hfl:=by repeat' (first|exact trivial|refine ⟨(by first|rfl|exact flg (by omega)),?_⟩)))
 (conv=>whnf)
 refine cx ?_;rfl
theorem wM {x:Nat}{r:B6}(pr:ab r=true)(s:B5)(e:Int)(h:ag G 541 [.ref 0 0 0,.str s] (bP n1 n2 n3 n4 so false false e1 (e2++[[AV.str nm,AV.vs 9 0 x]]) e3 e4 k1 k2 k3 k4 [.vec 2 r]) ⟨pnV (.ifc 138 (.agg [.int .i64 e])),rP n1 n2 n3 n4 mo false false (.vec 2 e1) (.nest 2 e2 [[AV.str nm,AV.vs 9 0 x]]) (.vec 2 e3) (.vec 3 e4) k1 k2 k3 k4 [(true,.vec 2 r)]⟩):dm (bP n1 n2 n3 n4 so false false e1 (e2++[[AV.str nm,AV.vs 9 0 x]]) e3 e4 k1 k2 k3 k4 [.vec 2 r]) s ⟨.int .i64 e,rP n1 n2 n3 n4 mo false false (.vec 2 e1) (.nest 2 e2 [[AV.str nm,AV.vs 9 0 x]]) (.vec 2 e3) (.vec 3 e4) k1 k2 k3 k4 [(true,.vec 2 r)]⟩:=by
 have z1:=pkE k1;have z2:=pkE k2;have z3:=pkE k3;have z4:=pkE k4
 unfold bP rP at*;replace h:=λ(_:True)=>h
 refine ⟨_,_,rfl,rfl,rfl,?_⟩;refine wk3 ?_
 repeat' (first|refine aW ?_|apply ae<;>intro h)
 (conv=>whnf)
 refine CallG.stop ?_;refine jp 541 _ (h trivial) (λQ hr hg=>?_)
 refine kP j4 [] cu trivial hg ?_ (hE:=by rw[hr];kernel_rfl)
 refine nd j4 [] de rfl rfl rfl rfl rfl rfl cu (by exact Nat.succ_pos _) rfl (by kernel_rfl) trivial (by repeat' (first|exact trivial|rfl|assumption|refine And.intro ?_ ?_|(simp[PB.okX,PB.okS,PB.renS,aM,ab,AV.pure,Blk.renS,Blk.okS,Blk.okX,AV.okS,AV.okX, *];done)|fail)) (by repeat' (first|exact trivial|refine ⟨(by first|rfl|exact flg (by omega)),?_⟩)) ?_
 rfl
theorem aci (pr:ab r=true)(pw:ab w=true)(s:B5)(h:ag G 541 [.ref 0 0 0,.str s] (bP n1 n2 n3 n4 so false false e1 e2 (e3++[[AV.str nm,AV.vs 9 0 x]]) e4 k1 k2 k3 k4 [.vec 3 r]) ⟨.tup [],rP n1 n2 n3 n4 mo false false (.vec 2 e1) (.vec 2 e2) (.nest 2 e3 [[AV.str nm,AV.vs 9 0 y]]) (.vec 3 e4) k1 k2 k3 k4 [(false,.vec 3 w)]⟩):dm (bP n1 n2 n3 n4 so false false e1 e2 (e3++[[AV.str nm,AV.vs 9 0 x]]) e4 k1 k2 k3 k4 [.vec 3 r]) s ⟨.int .i64 0,rP n1 n2 n3 n4 mo false false (.vec 2 e1) (.vec 2 e2) (.nest 2 e3 [[AV.str nm,AV.vs 9 0 y]]) (.vec 3 e4) k1 k2 k3 k4 [(false,.vec 3 w)]⟩:=by
 have z1:=pkE k1;have z2:=pkE k2;have z3:=pkE k3;have z4:=pkE k4
 unfold bP rP at*;refine ⟨_,_,rfl,rfl,rfl,?_⟩;refine wk3 ?_
 repeat' (first|refine aW ?_|apply ae<;>intro h)
 (conv=>whnf)
 refine kP jD [] cu trivial h ?_
 repeat' (first|refine aW ?_|apply ae<;>intro h)
 (first|refine da jD [] [true,true,true,true,true,true,true,true,true,false] ?_ (hfl:=by repeat' (first|exact trivial|refine ⟨(by first|rfl|exact flg (by omega)),?_⟩))|refine db jD [] [true,true,true,true,true,true,true,true,true,false] ?_ (hfl:=by repeat' (first|exact trivial|refine ⟨(by first|rfl|exact flg (by omega)),?_⟩)))
 (conv=>whnf)
 refine cx ?_;rfl
theorem GZ {x:Nat}{r:B6}(pr:ab r=true)(s:B5)(e:Int)(h:ag G 541 [.ref 0 0 0,.str s] (bP n1 n2 n3 n4 so false false e1 e2 (e3++[[AV.str nm,AV.vs 9 0 x]]) e4 k1 k2 k3 k4 [.vec 3 r]) ⟨pnV (.ifc 138 (.agg [.int .i64 e])),rP n1 n2 n3 n4 mo false false (.vec 2 e1) (.vec 2 e2) (.nest 2 e3 [[AV.str nm,AV.vs 9 0 x]]) (.vec 3 e4) k1 k2 k3 k4 [(true,.vec 3 r)]⟩):dm (bP n1 n2 n3 n4 so false false e1 e2 (e3++[[AV.str nm,AV.vs 9 0 x]]) e4 k1 k2 k3 k4 [.vec 3 r]) s ⟨.int .i64 e,rP n1 n2 n3 n4 mo false false (.vec 2 e1) (.vec 2 e2) (.nest 2 e3 [[AV.str nm,AV.vs 9 0 x]]) (.vec 3 e4) k1 k2 k3 k4 [(true,.vec 3 r)]⟩:=by
 have z1:=pkE k1;have z2:=pkE k2;have z3:=pkE k3;have z4:=pkE k4
 unfold bP rP at*;replace h:=λ(_:True)=>h
 refine ⟨_,_,rfl,rfl,rfl,?_⟩;refine wk3 ?_
 repeat' (first|refine aW ?_|apply ae<;>intro h)
 (conv=>whnf)
 refine CallG.stop ?_;refine jp 541 _ (h trivial) (λQ hr hg=>?_)
 refine kP jD [] cu trivial hg ?_ (hE:=by rw[hr];kernel_rfl)
 refine nd jD [] de rfl rfl rfl rfl rfl rfl cu (by exact Nat.succ_pos _) rfl (by kernel_rfl) trivial (by repeat' (first|exact trivial|rfl|assumption|refine And.intro ?_ ?_|(simp[PB.okX,PB.okS,PB.renS,aM,ab,AV.pure,Blk.renS,Blk.okS,Blk.okX,AV.okS,AV.okX, *];done)|fail)) (by repeat' (first|exact trivial|refine ⟨(by first|rfl|exact flg (by omega)),?_⟩)) ?_
 rfl
theorem Ic {df dg:Int}{pol trm f:Bool}{r w:B6}(pr:ab r=true)(pw:ab w=true)(s:B5)(h:ag G 543 [.ref 0 0 0,.str s] (bP n1 n2 n3 n4 so true false e1 e2 e3 (e4++[[AV.str nm,AV.vs 9 0 x,AV.int .i64 df]]) k1 k2 k3 k4 [.vec 4 r]) ⟨.tup [],rP n1 n2 n3 n4 mo pol trm (.vec 2 e1) (.vec 2 e2) (.vec 2 e3) (.nest 3 e4 [[AV.str nm,AV.vs 9 0 y,AV.int .i64 dg]]) k1 k2 k3 k4 [(f,.vec 4 w)]⟩):dm (bP n1 n2 n3 n4 so true false e1 e2 e3 (e4++[[AV.str nm,AV.vs 9 0 x,AV.int .i64 df]]) k1 k2 k3 k4 [.vec 4 r]) s ⟨.int .i64 0,rP n1 n2 n3 n4 mo pol trm (.vec 2 e1) (.vec 2 e2) (.vec 2 e3) (.nest 3 e4 [[AV.str nm,AV.vs 9 0 y,AV.int .i64 dg]]) k1 k2 k3 k4 [(f,.vec 4 w)]⟩:=by
 have z1:=pkE k1;have z2:=pkE k2;have z3:=pkE k3;have z4:=pkE k4
 unfold bP rP at*;refine ⟨_,_,rfl,rfl,rfl,?_⟩;refine wk3 ?_
 repeat' (first|refine aW ?_|apply ae<;>intro h)
 (conv=>whnf)
 refine kP pzC [] cu trivial h ?_
 repeat' (first|refine aW ?_|apply ae<;>intro h)
 (first|refine da pzC [] [true,true,true,true,true,true,true,true,true,f] ?_ (hfl:=by repeat' (first|exact trivial|refine ⟨(by first|rfl|exact flg (by omega)),?_⟩))|refine db pzC [] [true,true,true,true,true,true,true,true,true,f] ?_ (hfl:=by repeat' (first|exact trivial|refine ⟨(by first|rfl|exact flg (by omega)),?_⟩)))
 (conv=>whnf)
 refine cx ?_;rfl
theorem vr {x:Nat}{df:Int}{r:B6}(pr:ab r=true)(s:B5)(e:Int)(h:ag G 543 [.ref 0 0 0,.str s] (bP n1 n2 n3 n4 so true false e1 e2 e3 (e4++[[AV.str nm,AV.vs 9 0 x,AV.int .i64 df]]) k1 k2 k3 k4 [.vec 4 r]) ⟨pnV (.ifc 138 (.agg [.int .i64 e])),rP n1 n2 n3 n4 mo true false (.vec 2 e1) (.vec 2 e2) (.vec 2 e3) (.nest 3 e4 [[AV.str nm,AV.vs 9 0 x,AV.int .i64 df]]) k1 k2 k3 k4 [(true,.vec 4 r)]⟩):dm (bP n1 n2 n3 n4 so true false e1 e2 e3 (e4++[[AV.str nm,AV.vs 9 0 x,AV.int .i64 df]]) k1 k2 k3 k4 [.vec 4 r]) s ⟨.int .i64 e,rP n1 n2 n3 n4 mo true false (.vec 2 e1) (.vec 2 e2) (.vec 2 e3) (.nest 3 e4 [[AV.str nm,AV.vs 9 0 x,AV.int .i64 df]]) k1 k2 k3 k4 [(true,.vec 4 r)]⟩:=by
 have z1:=pkE k1;have z2:=pkE k2;have z3:=pkE k3;have z4:=pkE k4
 unfold bP rP at*;replace h:=λ(_:True)=>h
 refine ⟨_,_,rfl,rfl,rfl,?_⟩;refine wk3 ?_
 repeat' (first|refine aW ?_|apply ae<;>intro h)
 (conv=>whnf)
 refine CallG.stop ?_;refine jp 543 _ (h trivial) (λQ hr hg=>?_)
 refine kP pzC [] cu trivial hg ?_ (hE:=by rw[hr];kernel_rfl)
 refine nd pzC [] de rfl rfl rfl rfl rfl rfl cu (by exact Nat.succ_pos _) rfl (by kernel_rfl) trivial (by repeat' (first|exact trivial|rfl|assumption|refine And.intro ?_ ?_|(simp[PB.okX,PB.okS,PB.renS,aM,ab,AV.pure,Blk.renS,Blk.okS,Blk.okX,AV.okS,AV.okX, *];done)|fail)) (by repeat' (first|exact trivial|refine ⟨(by first|rfl|exact flg (by omega)),?_⟩)) ?_
 rfl
theorem tQ {nm tn:B5}{x a b a2 b2:Nat}{df v v2:Int}{trm f g:Bool}{r u w u2 w2:B6}(pr:ab r=true)(pu:ab u=true)(pw:ab w=true)(pu2:ab u2=true)(pw2:ab w2=true)(s:B5)(h:ag G 542 [.ref 0 0 0,.str s] (bP n1 n2 n3 n4 so true true e1 e2 e3 (e4++[[AV.str nm,AV.vs 9 0 x,AV.int .i64 df]]) k1 k2 k3 k4 [.vec 4 (r++[[AV.str tn,AV.vs 10 0 a,AV.vs 11 0 b,AV.int .i64 v]]),.vec 6 u,.vec 5 w]) ⟨.tup [],rP n1 n2 n3 n4 mo true trm (.vec 2 e1) (.vec 2 e2) (.vec 2 e3) (.nest 3 e4 [[AV.str nm,AV.vs 9 0 x,AV.int .i64 df]]) k1 k2 k3 k4 [(true,.nest 4 r [[AV.str tn,AV.vs 10 0 a2,AV.vs 11 0 b2,AV.int .i64 v2]]),(f,.vec 6 u2),(g,.vec 5 w2)]⟩):dm (bP n1 n2 n3 n4 so true true e1 e2 e3 (e4++[[AV.str nm,AV.vs 9 0 x,AV.int .i64 df]]) k1 k2 k3 k4 [.vec 4 (r++[[AV.str tn,AV.vs 10 0 a,AV.vs 11 0 b,AV.int .i64 v]]),.vec 6 u,.vec 5 w]) s ⟨.int .i64 0,rP n1 n2 n3 n4 mo true trm (.vec 2 e1) (.vec 2 e2) (.vec 2 e3) (.nest 3 e4 [[AV.str nm,AV.vs 9 0 x,AV.int .i64 df]]) k1 k2 k3 k4 [(true,.nest 4 r [[AV.str tn,AV.vs 10 0 a2,AV.vs 11 0 b2,AV.int .i64 v2]]),(f,.vec 6 u2),(g,.vec 5 w2)]⟩:=by
 have z1:=pkE k1;have z2:=pkE k2;have z3:=pkE k3;have z4:=pkE k4
 unfold bP rP at*;refine ⟨_,_,rfl,rfl,rfl,?_⟩;refine wk3 ?_
 repeat' (first|refine aW ?_|apply ae<;>intro h)
 (conv=>whnf)
 refine kP pzD [] gq trivial h ?_
 repeat' (first|refine aW ?_|apply ae<;>intro h)
 (first|refine da pzD [] [true,true,true,true,true,true,true,true,true,true,f,g] ?_ (hfl:=by repeat' (first|exact trivial|refine ⟨(by first|rfl|exact flg (by omega)),?_⟩))|refine db pzD [] [true,true,true,true,true,true,true,true,true,true,f,g] ?_ (hfl:=by repeat' (first|exact trivial|refine ⟨(by first|rfl|exact flg (by omega)),?_⟩)))
 (conv=>whnf)
 refine cx ?_;rfl
theorem li {nm tn:B5}{x a b:Nat}{df v:Int}{r u w:B6}(pr:ab r=true)(pu:ab u=true)(pw:ab w=true)(s:B5)(e:Int)(h:ag G 542 [.ref 0 0 0,.str s] (bP n1 n2 n3 n4 so true true e1 e2 e3 (e4++[[AV.str nm,AV.vs 9 0 x,AV.int .i64 df]]) k1 k2 k3 k4 [.vec 4 (r++[[AV.str tn,AV.vs 10 0 a,AV.vs 11 0 b,AV.int .i64 v]]),.vec 6 u,.vec 5 w]) ⟨pnV (.ifc 138 (.agg [.int .i64 e])),rP n1 n2 n3 n4 mo true true (.vec 2 e1) (.vec 2 e2) (.vec 2 e3) (.nest 3 e4 [[AV.str nm,AV.vs 9 0 x,AV.int .i64 df]]) k1 k2 k3 k4 [(true,.nest 4 r [[AV.str tn,AV.vs 10 0 a,AV.vs 11 0 b,AV.int .i64 v]]),(true,.vec 6 u),(true,.vec 5 w)]⟩):dm (bP n1 n2 n3 n4 so true true e1 e2 e3 (e4++[[AV.str nm,AV.vs 9 0 x,AV.int .i64 df]]) k1 k2 k3 k4 [.vec 4 (r++[[AV.str tn,AV.vs 10 0 a,AV.vs 11 0 b,AV.int .i64 v]]),.vec 6 u,.vec 5 w]) s ⟨.int .i64 e,rP n1 n2 n3 n4 mo true true (.vec 2 e1) (.vec 2 e2) (.vec 2 e3) (.nest 3 e4 [[AV.str nm,AV.vs 9 0 x,AV.int .i64 df]]) k1 k2 k3 k4 [(true,.nest 4 r [[AV.str tn,AV.vs 10 0 a,AV.vs 11 0 b,AV.int .i64 v]]),(true,.vec 6 u),(true,.vec 5 w)]⟩:=by
 have z1:=pkE k1;have z2:=pkE k2;have z3:=pkE k3;have z4:=pkE k4
 unfold bP rP at*;replace h:=λ(_:True)=>h
 refine ⟨_,_,rfl,rfl,rfl,?_⟩;refine wk3 ?_
 repeat' (first|refine aW ?_|apply ae<;>intro h)
 (conv=>whnf)
 refine CallG.stop ?_;refine jp 542 _ (h trivial) (λQ hr hg=>?_)
 refine kP pzD [] gq trivial hg ?_ (hE:=by rw[hr];kernel_rfl)
 refine nd pzD [] iw rfl rfl rfl rfl rfl rfl gq (by exact Nat.succ_pos _) rfl (by kernel_rfl) trivial (by repeat' (first|exact trivial|rfl|assumption|refine And.intro ?_ ?_|(simp[PB.okX,PB.okS,PB.renS,aM,ab,AV.pure,Blk.renS,Blk.okS,Blk.okX,AV.okS,AV.okX, *];done)|fail)) (by repeat' (first|exact trivial|refine ⟨(by first|rfl|exact flg (by omega)),?_⟩)) ?_
 rfl
end
inductive PS where
 |top (pre:CL) (pa:CO) (co:CS) (po:C0) (so:Int)
 |pre (pre:CL) (pa:CO) (co:CS) (po:C0) (nm:B5) (rl:DN)
 |pat (pre:CL) (pa:CO) (co:CS) (po:C0) (nm:B5) (rl:DO)
 |com (pre:CL) (pa:CO) (co:CS) (po:C0) (nm:B5) (rl:DR)
 |pol (pre:CL) (pa:CO) (co:CS) (po:C0) (nm:B5) (ts:C4)
 |term (pre:CL) (pa:CO) (co:CS) (po:C0) (nm:B5) (ts:C4) (tn:B5) (ms:C9) (acs:C8)
namespace PS
def set:PS->PSet
 |top p1 pa co po _=>⟨p1,pa,co,po⟩
 | .pre p1 pa co po nm rl=>⟨p1++[⟨nm,rl⟩],pa,co,po⟩
 |pat p1 pa co po nm rl=>⟨p1,pa++[⟨nm,rl⟩],co,po⟩
 |com p1 pa co po nm rl=>⟨p1,pa,co++[⟨nm,rl⟩],po⟩
 |pol p1 pa co po nm ts=>⟨p1,pa,co,po++[⟨nm,ts,0⟩]⟩
 |term p1 pa co po nm ts tn ms acs=>⟨p1,pa,co,po++[⟨nm,ts++[⟨tn,ms,acs,0⟩],0⟩]⟩
def inPol:PS->Bool
 |pol .. |term .. =>true
 |_=>false
end PS
inductive PO where
 |err (e:Int)
 |ok (st:PS)
def hdE (so s:Int)(k:CF)(t:B5):Int:=if¬so<=s then 2 else if¬bx t=true then 2 else if 64<=k.length then 4 else eW k t
def hdO (e:Int)(st:PS):PO:=if e=0 then .ok st else .err e
def kr (pre:CL)(pa:CO)(co:CS)(po:C0)(so:Int)(w t:B5):PO:=
 if w=cH then hdO (hdE so 1 (pre.map PList.name) t) (.pre pre pa co po t [])
 else if w=cG then hdO (hdE so 2 (pa.map PathL.name) t) (.pat pre pa co po t [])
 else if w=cz then hdO (hdE so 3 (co.map ComL.name) t) (.com pre pa co po t [])
 else hdO (hdE so 4 (po.map Pol.name) t) (.pol pre pa co po t [])
def dk:PS->B5->PO
 | .top pre pa co po so,s=>if bn (aw s).1=0 then .err 2 else kr pre pa co po so (aw s).1 (aw s).2
 | .pre pre pa co po nm rl,s=>if bn (aw s).1=0 then (if (J.plP s).2≠0 then .err 2 else if 64<=rl.length then .err 4 else .ok (.pre pre pa co po nm (rl++[⟨(J.plP s).1.permit,(J.plP s).1.pfx,(J.plP s).1.min,(J.plP s).1.max⟩]))) else kr (pre++[⟨nm,rl⟩]) pa co po 1 (aw s).1 (aw s).2
 | .pat pre pa co po nm rl,s=>if bn (aw s).1=0 then (match dJ s with
   |none=>.err 2
   |some (b,t)=>if (ff t).isSome=true then (if 64<=rl.length then .err 4 else .ok (.pat pre pa co po nm (rl++[⟨b,t⟩]))) else .err 2) else kr pre (pa++[⟨nm,rl⟩]) co po 2 (aw s).1 (aw s).2
 | .com pre pa co po nm rl,s=>if bn (aw s).1=0 then (match dJ s with
   |none=>.err 2
   |some (b,t)=>if (eY b t rl.length).1=0 then .ok (.com pre pa co po nm (rl++[(eY b t rl.length).2])) else .err (eY b t rl.length).1) else kr pre pa (co++[⟨nm,rl⟩]) po 3 (aw s).1 (aw s).2
 | .pol pre pa co po nm ts,s=>if s=im then .ok (.top pre pa co (po++[⟨nm,ts,1⟩]) 4) else if s=il then .ok (.top pre pa co (po++[⟨nm,ts,2⟩]) 4) else
   if (aw s).1≠d8 then .err 2 else if¬bx (aw s).2=true then .err 2 else if 64<=ts.length then .err 4 else
   if kG ⟨pre.map PList.name,pa.map PathL.name,co.map ComL.name,(po++[(⟨nm,ts,0⟩:Pol)]).map Pol.name⟩ ts ⟨(aw s).2,[],[],1⟩≠0 then .err (kG ⟨pre.map PList.name,pa.map PathL.name,co.map ComL.name,(po++[(⟨nm,ts,0⟩:Pol)]).map Pol.name⟩ ts ⟨(aw s).2,[],[],1⟩) else .ok (.term pre pa co po nm ts (aw s).2 [] [])
 | .term pre pa co po nm ts tn ms acs,s=>if s=cW then .ok (.pol pre pa co po nm (ts++[⟨tn,ms,acs,1⟩])) else if s=cU then .ok (.pol pre pa co po nm (ts++[⟨tn,ms,acs,2⟩])) else if s=ca then .ok (.pol pre pa co po nm (ts++[⟨tn,ms,acs,3⟩])) else
   if (aw s).1=cI then (if acs.length≠0 then .err 2 else match lX (aw s).2 with
    |none=>.err 2
    |some x=>if 64<=ms.length then .err 4 else if mtE ⟨pre.map PList.name,pa.map PathL.name,co.map ComL.name,(po++[(⟨nm,ts,0⟩:Pol)]).map Pol.name⟩ x≠0 then .err (mtE ⟨pre.map PList.name,pa.map PathL.name,co.map ComL.name,(po++[(⟨nm,ts,0⟩:Pol)]).map Pol.name⟩ x) else .ok (.term pre pa co po nm ts tn (ms++[x]) acs)) else
   if (aw s).1=fY then (match oc (aw s).2 with
    |none=>.err 2
    |some x=>if 64<=acs.length then .err 4 else if gx x≠0 then .err (gx x) else .ok (.term pre pa co po nm ts tn ms (acs++[x]))) else .err 2
def cd:PSet:=⟨[],[],[],[]⟩
def jc (st:PS)(n:Int)(acc:B5):B5->PSet×Int×Int
 | []=>if acc≠ [] then (cd,n+1,2) else if st.inPol=true then (cd,n+1,3) else (st.set,0,0)
 | c::r=>if c=10 then (match dk st acc with
   | .err e=>(cd,n+1,e)
   | .ok st'=>jc st' (n+1) [] r) else jc st n (acc++[c]) r
def jF (s:B5):PSet×Int×Int:=if 65536<s.length then (cd,0,4) else jc (.top [] [] [] [] 0) 0 [] s
def bQ (x:PSet×Int×Int):Ret:=⟨.tup [.agg x.1.enc,.int .i64 x.2.1,.int .i64 x.2.2],[]⟩
def bz:PS->C5
 | .top pre pa co po so=>[.cells [.vs 1 0 pre.length,.vs 2 0 pa.length,.vs 3 0 co.length,.vs 4 0 po.length,.vs 5 0 pre.length,.vs 6 0 pa.length,.vs 7 0 co.length,.vs 8 0 po.length,.int .i64 so,.bool false,.bool false],.vec 2 (pre.map PList.enc),.vec 2 (pa.map PathL.enc),.vec 2 (co.map ComL.enc),.vec 3 (po.map Pol.enc),.vec 1 ((pre.map PList.name).map ah),.vec 1 ((pa.map PathL.name).map ah),.vec 1 ((co.map ComL.name).map ah),.vec 1 ((po.map Pol.name).map ah)]
 | .pre pre pa co po nm rl=>[.cells [.vs 1 0 (pre.length+1),.vs 2 0 pa.length,.vs 3 0 co.length,.vs 4 0 po.length,.vs 5 0 (pre.length+1),.vs 6 0 pa.length,.vs 7 0 co.length,.vs 8 0 po.length,.int .i64 1,.bool false,.bool false],.vec 2 ((pre.map PList.enc)++[[AV.str nm,AV.vs 9 0 rl.length]]),.vec 2 (pa.map PathL.enc),.vec 2 (co.map ComL.enc),.vec 3 (po.map Pol.enc),.vec 1 ((pre.map PList.name++[nm]).map ah),.vec 1 ((pa.map PathL.name).map ah),.vec 1 ((co.map ComL.name).map ah),.vec 1 ((po.map Pol.name).map ah),.vec 5 (rl.map RuleP.enc)]
 | .pat pre pa co po nm rl=>[.cells [.vs 1 0 pre.length,.vs 2 0 (pa.length+1),.vs 3 0 co.length,.vs 4 0 po.length,.vs 5 0 pre.length,.vs 6 0 (pa.length+1),.vs 7 0 co.length,.vs 8 0 po.length,.int .i64 2,.bool false,.bool false],.vec 2 (pre.map PList.enc),.vec 2 ((pa.map PathL.enc)++[[AV.str nm,AV.vs 9 0 rl.length]]),.vec 2 (co.map ComL.enc),.vec 3 (po.map Pol.enc),.vec 1 ((pre.map PList.name).map ah),.vec 1 ((pa.map PathL.name++[nm]).map ah),.vec 1 ((co.map ComL.name).map ah),.vec 1 ((po.map Pol.name).map ah),.vec 2 (rl.map PathR.enc)]
 | .com pre pa co po nm rl=>[.cells [.vs 1 0 pre.length,.vs 2 0 pa.length,.vs 3 0 (co.length+1),.vs 4 0 po.length,.vs 5 0 pre.length,.vs 6 0 pa.length,.vs 7 0 (co.length+1),.vs 8 0 po.length,.int .i64 3,.bool false,.bool false],.vec 2 (pre.map PList.enc),.vec 2 (pa.map PathL.enc),.vec 2 ((co.map ComL.enc)++[[AV.str nm,AV.vs 9 0 rl.length]]),.vec 3 (po.map Pol.enc),.vec 1 ((pre.map PList.name).map ah),.vec 1 ((pa.map PathL.name).map ah),.vec 1 ((co.map ComL.name++[nm]).map ah),.vec 1 ((po.map Pol.name).map ah),.vec 3 (rl.map ComR.enc)]
 | .pol pre pa co po nm ts=>[.cells [.vs 1 0 pre.length,.vs 2 0 pa.length,.vs 3 0 co.length,.vs 4 0 (po.length+1),.vs 5 0 pre.length,.vs 6 0 pa.length,.vs 7 0 co.length,.vs 8 0 (po.length+1),.int .i64 4,.bool true,.bool false],.vec 2 (pre.map PList.enc),.vec 2 (pa.map PathL.enc),.vec 2 (co.map ComL.enc),.vec 3 ((po.map Pol.enc)++[[AV.str nm,AV.vs 9 0 ts.length,AV.int .i64 0]]),.vec 1 ((pre.map PList.name).map ah),.vec 1 ((pa.map PathL.name).map ah),.vec 1 ((co.map ComL.name).map ah),.vec 1 ((po.map Pol.name++[nm]).map ah),.vec 4 (ts.map Trm.enc)]
 | .term pre pa co po nm ts tn ms acs=>[.cells [.vs 1 0 pre.length,.vs 2 0 pa.length,.vs 3 0 co.length,.vs 4 0 (po.length+1),.vs 5 0 pre.length,.vs 6 0 pa.length,.vs 7 0 co.length,.vs 8 0 (po.length+1),.int .i64 4,.bool true,.bool true],.vec 2 (pre.map PList.enc),.vec 2 (pa.map PathL.enc),.vec 2 (co.map ComL.enc),.vec 3 ((po.map Pol.enc)++[[AV.str nm,AV.vs 9 0 (ts.length+1),AV.int .i64 0]]),.vec 1 ((pre.map PList.name).map ah),.vec 1 ((pa.map PathL.name).map ah),.vec 1 ((co.map ComL.name).map ah),.vec 1 ((po.map Pol.name++[nm]).map ah),.vec 4 ((ts.map Trm.enc)++[[AV.str tn,AV.vs 10 0 ms.length,AV.vs 11 0 acs.length,AV.int .i64 0]]),.vec 6 (ms.map Mat.enc),.vec 5 (acs.map Actn.enc)]
def o3 (z:Int):PS->Co
 | .top pre pa co po so=>mkR [(true,.cells [.vs 1 0 pre.length,.vs 2 0 pa.length,.vs 3 0 co.length,.vs 4 0 po.length,.vs 5 0 pre.length,.vs 6 0 pa.length,.vs 7 0 co.length,.vs 8 0 po.length,.int .i64 z,.bool false,.bool false]),(true,.vec 2 (pre.map PList.enc)),(true,.vec 2 (pa.map PathL.enc)),(true,.vec 2 (co.map ComL.enc)),(true,.vec 3 (po.map Pol.enc)),(true,.vec 1 ((pre.map PList.name).map ah)),(true,.vec 1 ((pa.map PathL.name).map ah)),(true,.vec 1 ((co.map ComL.name).map ah)),(true,.vec 1 ((po.map Pol.name).map ah))]
 | .pre pre pa co po nm rl=>mkR [(true,.cells [.vs 1 0 (pre.length+1),.vs 2 0 pa.length,.vs 3 0 co.length,.vs 4 0 po.length,.vs 5 0 (pre.length+1),.vs 6 0 pa.length,.vs 7 0 co.length,.vs 8 0 po.length,.int .i64 1,.bool false,.bool false]),(true,.nest 2 (pre.map PList.enc) [[AV.str nm,AV.vs 9 0 rl.length]]),(true,.vec 2 (pa.map PathL.enc)),(true,.vec 2 (co.map ComL.enc)),(true,.vec 3 (po.map Pol.enc)),(true,.vec 1 ((pre.map PList.name++[nm]).map ah)),(true,.vec 1 ((pa.map PathL.name).map ah)),(true,.vec 1 ((co.map ComL.name).map ah)),(true,.vec 1 ((po.map Pol.name).map ah)),(true,.vec 5 (rl.map RuleP.enc))]
 | .pat pre pa co po nm rl=>mkR [(true,.cells [.vs 1 0 pre.length,.vs 2 0 (pa.length+1),.vs 3 0 co.length,.vs 4 0 po.length,.vs 5 0 pre.length,.vs 6 0 (pa.length+1),.vs 7 0 co.length,.vs 8 0 po.length,.int .i64 2,.bool false,.bool false]),(true,.vec 2 (pre.map PList.enc)),(true,.nest 2 (pa.map PathL.enc) [[AV.str nm,AV.vs 9 0 rl.length]]),(true,.vec 2 (co.map ComL.enc)),(true,.vec 3 (po.map Pol.enc)),(true,.vec 1 ((pre.map PList.name).map ah)),(true,.vec 1 ((pa.map PathL.name++[nm]).map ah)),(true,.vec 1 ((co.map ComL.name).map ah)),(true,.vec 1 ((po.map Pol.name).map ah)),(true,.vec 2 (rl.map PathR.enc))]
 | .com pre pa co po nm rl=>mkR [(true,.cells [.vs 1 0 pre.length,.vs 2 0 pa.length,.vs 3 0 (co.length+1),.vs 4 0 po.length,.vs 5 0 pre.length,.vs 6 0 pa.length,.vs 7 0 (co.length+1),.vs 8 0 po.length,.int .i64 3,.bool false,.bool false]),(true,.vec 2 (pre.map PList.enc)),(true,.vec 2 (pa.map PathL.enc)),(true,.nest 2 (co.map ComL.enc) [[AV.str nm,AV.vs 9 0 rl.length]]),(true,.vec 3 (po.map Pol.enc)),(true,.vec 1 ((pre.map PList.name).map ah)),(true,.vec 1 ((pa.map PathL.name).map ah)),(true,.vec 1 ((co.map ComL.name++[nm]).map ah)),(true,.vec 1 ((po.map Pol.name).map ah)),(true,.vec 3 (rl.map ComR.enc))]
 | .pol pre pa co po nm ts=>mkR [(true,.cells [.vs 1 0 pre.length,.vs 2 0 pa.length,.vs 3 0 co.length,.vs 4 0 (po.length+1),.vs 5 0 pre.length,.vs 6 0 pa.length,.vs 7 0 co.length,.vs 8 0 (po.length+1),.int .i64 4,.bool true,.bool false]),(true,.vec 2 (pre.map PList.enc)),(true,.vec 2 (pa.map PathL.enc)),(true,.vec 2 (co.map ComL.enc)),(true,.nest 3 (po.map Pol.enc) [[AV.str nm,AV.vs 9 0 ts.length,AV.int .i64 0]]),(true,.vec 1 ((pre.map PList.name).map ah)),(true,.vec 1 ((pa.map PathL.name).map ah)),(true,.vec 1 ((co.map ComL.name).map ah)),(true,.vec 1 ((po.map Pol.name++[nm]).map ah)),(true,.vec 4 (ts.map Trm.enc))]
 | .term pre pa co po nm ts tn ms acs=>mkR [(true,.cells [.vs 1 0 pre.length,.vs 2 0 pa.length,.vs 3 0 co.length,.vs 4 0 (po.length+1),.vs 5 0 pre.length,.vs 6 0 pa.length,.vs 7 0 co.length,.vs 8 0 (po.length+1),.int .i64 4,.bool true,.bool true]),(true,.vec 2 (pre.map PList.enc)),(true,.vec 2 (pa.map PathL.enc)),(true,.vec 2 (co.map ComL.enc)),(true,.nest 3 (po.map Pol.enc) [[AV.str nm,AV.vs 9 0 (ts.length+1),AV.int .i64 0]]),(true,.vec 1 ((pre.map PList.name).map ah)),(true,.vec 1 ((pa.map PathL.name).map ah)),(true,.vec 1 ((co.map ComL.name).map ah)),(true,.vec 1 ((po.map Pol.name++[nm]).map ah)),(true,.nest 4 (ts.map Trm.enc) [[AV.str tn,AV.vs 10 0 ms.length,AV.vs 11 0 acs.length,AV.int .i64 0]]),(true,.vec 6 (ms.map Mat.enc)),(true,.vec 5 (acs.map Actn.enc))]
theorem acV {h t:B5}{ng:Bool}{x:Mat}(e:Bn h t ng=some x):x.pfx.ok:=by
 have z:Pfx.ok ⟨0,0⟩:=⟨by unfold okU;simp,by unfold okI;simp⟩
 have hN: ∀k o,gJ k ng o=some x->x.pfx.ok:=λk o e=>by
  unfold gJ at e;cases o with
  |none=>cases e
  |some n=>injection e with e;subst e;exact z
 unfold Bn at e;split at e
 ·injection e with e;subst e;exact z
 ·split at e
  ·injection e with e;subst e;exact z
  ·split at e
   ·injection e with e;subst e;exact z
   ·split at e
    ·exact hN _ _ e
    ·split at e
     ·exact hN _ _ e
     ·split at e
      ·exact hN _ _ e
      ·split at e
       ·exact hN _ _ e
       ·split at e
        ·split at e
         ·rename_i hp
          injection e with e;subst e;exact J.psP_ok hp
         ·cases e
        ·cases e
section
variable {bs:C5}{s:B5}{c:Prop}
theorem NW {x:Mat}(e:lX s=some x):x.pfx.ok:=by
 unfold lX uf at e
 repeat' split at e
 all_goals first
  |exact acV e
  |cases e
theorem aby {w:B5}(h:bn w≠0)(h1:w≠cH)(h2:w≠cG)(h3:w≠cz):w=gv:=by
 unfold bn at h;rw[Aa h1,Aa h2,Aa h3] at h
 by_cases h4:w=gv
 ·exact h4
 ·rw[Aa h4] at h;exact absurd rfl h
theorem ig {i:Decidable c}{a b:Ret}(h:c->dm bs s a)(k: ¬c->dm bs s b):dm bs s (@ite Ret c i a b):=by
 by_cases x:c
 ·rw[Ac x];exact h x
 ·rw[Aa x];exact k x
theorem jh {i:Decidable (¬c)}{a b:Ret}(h: ¬c->dm bs s a)(k:c->dm bs s b):dm bs s (@ite Ret (¬c) i a b):=ig h λx=>k (Decidable.byContradiction (dec:=Classical.propDecidable _) x)
end
def Aw (E:Int->Int->Ret)(so k:Int)(ks:CF)(t:B5)(R:Ret):Ret:=
 if¬so<=k then E 2 so else if¬bx t=true then E 2 so else if 64<=ks.length then E 4 k else if¬eW ks t=0 then E (eW ks t) k else R
section
variable (s:B5)(n:Nat)(E:Int->Ret)(R:Bool->B5->Ret)
def uT (so:Int)(E:Int->Int->Ret)(k1 k2 k3 k4:CF)(R1 R2 R3 R4:B5->Ret):Ret:=if bn (aw s).1=0 then E 2 so else
 if (aw s).1=cH then Aw E so 1 k1 (aw s).2 (R1 (aw s).2) else
 if (aw s).1=cG then Aw E so 2 k2 (aw s).2 (R2 (aw s).2) else
 if (aw s).1=cz then Aw E so 3 k3 (aw s).2 (R3 (aw s).2) else Aw E so 4 k4 (aw s).2 (R4 (aw s).2)
theorem R0 {s w:B5}(h:(aw s).1=w):aw s=(w,(aw s).2):=Prod.ext h rfl
def KR (R:Ret):Ret:=if¬(J.plP s).2=0 then E 2 else if 64<=n then E 4 else R
def Cw:Ret:=match dJ s with
 |none=>E 2
 |some (b,t)=>if (ff t).isSome=true then (if 64<=n then E 4 else R b t) else E 2
def Cy:Ret:=match dJ s with
 |none=>E 2
 |some (b,t)=>if (eY b t n).1=0 then R b t else E (eY b t n).1
def KU (tr:Int)(E:Int->Ret)(R:Int->Ret)(R2:Ret):Ret:=if s=im then R 1 else if s=il then R 2 else
 if¬(aw s).1=d8 then E 2 else if¬bx (aw s).2=true then E 2 else if 64<=n then E 4 else if¬tr=0 then E tr else R2
def KO (n m:Nat)(mt:Mat->Int)(E:Int->Ret)(R:Int->Ret)(M:Mat->Ret)(A:Actn->Ret):Ret:=if s=cW then R 1 else if s=cU then R 2 else if s=ca then R 3 else
 if (aw s).1=cI then (if¬m=0 then E 2 else match lX (aw s).2 with
  |none=>E 2
  |some x=>if 64<=n then E 4 else if¬mt x=0 then E (mt x) else M x) else
 if (aw s).1=fY then (match oc (aw s).2 with
  |none=>E 2
  |some x=>if 64<=m then E 4 else if¬gx x=0 then E (gx x) else A x) else E 2
end
theorem ey: ∀{l:B6}{x:B7},ab l=true->aM x=true->ab (l++[x])=true
 | [],x,_,h=>by simp only[A9,ab,h,Bool.and_true]
 |a::r,x,k,h=>by
  simp only[ab,At] at k;simp only[BD,ab,k.1,ey k.2 h,Bool.and_true]
section
variable (e1 e2 e3 e4:B6)(p1:ab e1=true)(p2:ab e2=true)(p3:ab e3=true)(p4:ab e4=true)(k1 k2 k3 k4:CF)(so:Int)
include p1 p2 p3 p4
theorem gtX (s:B5)(hs:s.length<2^30){z e:Int}(h:ag G 585 [.ref 0 0 0,.str s] (bP e1.length e2.length e3.length e4.length so false false e1 e2 e3 e4 k1 k2 k3 k4 []) ⟨pnV (.ifc 138 (.agg [.int .i64 e])),rP e1.length e2.length e3.length e4.length z false false (.vec 2 e1) (.vec 2 e2) (.vec 2 e3) (.vec 3 e4) k1 k2 k3 k4 []⟩):dm (bP e1.length e2.length e3.length e4.length so false false e1 e2 e3 e4 k1 k2 k3 k4 []) s ⟨.int .i64 e,rP e1.length e2.length e3.length e4.length z false false (.vec 2 e1) (.vec 2 e2) (.vec 2 e3) (.vec 3 e4) k1 k2 k3 k4 []⟩:=NF p1 p2 p3 p4 s e (abU e1 e2 e3 e4 p1 p2 p3 p4 k1 k2 k3 k4 so false false s (by omega) z e h)
theorem gtop (l1:e1.length<2^30)(l2:e2.length<2^30)(l3:e3.length<2^30)(l4:e4.length<2^30)(q1:k1.length<2^30)(q2:k2.length<2^30)(q3:k3.length<2^30)(q4:k4.length<2^30)(s:B5)(hs:s.length<2^30)(hn:bn (aw s).1=0->so≠1/\so≠2/\so≠3):dm (bP e1.length e2.length e3.length e4.length so false false e1 e2 e3 e4 k1 k2 k3 k4 []) s (uT s so (λe z=>⟨.int .i64 e,rP e1.length e2.length e3.length e4.length z false false (.vec 2 e1) (.vec 2 e2) (.vec 2 e3) (.vec 3 e4) k1 k2 k3 k4 []⟩) k1 k2 k3 k4 (λt=>⟨.int .i64 0,mkR [(true,.cells [.vs 1 0 (e1.length+1),.vs 2 0 e2.length,.vs 3 0 e3.length,.vs 4 0 e4.length,.vs 5 0 (k1.length+1),.vs 6 0 k2.length,.vs 7 0 k3.length,.vs 8 0 k4.length,.int .i64 1,.bool false,.bool false]),(false,.vec 2 (e1++[[.str t,.con (.slice none 0 0)]])),(true,.vec 2 e2),(true,.vec 2 e3),(true,.vec 3 e4),(false,.vec 1 (k1.map ah++[[.str t]])),(true,.vec 1 (k2.map ah)),(true,.vec 1 (k3.map ah)),(true,.vec 1 (k4.map ah))]⟩) (λt=>⟨.int .i64 0,mkR [(true,.cells [.vs 1 0 e1.length,.vs 2 0 (e2.length+1),.vs 3 0 e3.length,.vs 4 0 e4.length,.vs 5 0 k1.length,.vs 6 0 (k2.length+1),.vs 7 0 k3.length,.vs 8 0 k4.length,.int .i64 2,.bool false,.bool false]),(true,.vec 2 e1),(false,.vec 2 (e2++[[.str t,.con (.slice none 0 0)]])),(true,.vec 2 e3),(true,.vec 3 e4),(true,.vec 1 (k1.map ah)),(false,.vec 1 (k2.map ah++[[.str t]])),(true,.vec 1 (k3.map ah)),(true,.vec 1 (k4.map ah))]⟩) (λt=>⟨.int .i64 0,mkR [(true,.cells [.vs 1 0 e1.length,.vs 2 0 e2.length,.vs 3 0 (e3.length+1),.vs 4 0 e4.length,.vs 5 0 k1.length,.vs 6 0 k2.length,.vs 7 0 (k3.length+1),.vs 8 0 k4.length,.int .i64 3,.bool false,.bool false]),(true,.vec 2 e1),(true,.vec 2 e2),(false,.vec 2 (e3++[[.str t,.con (.slice none 0 0)]])),(true,.vec 3 e4),(true,.vec 1 (k1.map ah)),(true,.vec 1 (k2.map ah)),(false,.vec 1 (k3.map ah++[[.str t]])),(true,.vec 1 (k4.map ah))]⟩) (λt=>⟨.int .i64 0,mkR [(true,.cells [.vs 1 0 e1.length,.vs 2 0 e2.length,.vs 3 0 e3.length,.vs 4 0 (e4.length+1),.vs 5 0 k1.length,.vs 6 0 k2.length,.vs 7 0 k3.length,.vs 8 0 (k4.length+1),.int .i64 4,.bool true,.bool false]),(true,.vec 2 e1),(true,.vec 2 e2),(true,.vec 2 e3),(false,.vec 3 (e4++[[.str t,.con (.slice none 0 0),.int .i64 0]])),(true,.vec 1 (k1.map ah)),(true,.vec 1 (k2.map ah)),(true,.vec 1 (k3.map ah)),(false,.vec 1 (k4.map ah++[[.str t]]))]⟩)):=by
 unfold uT;refine ig (λhq=>NF p1 p2 p3 p4 s 2 (abZ e1 e2 e3 e4 p1 p2 p3 p4 k1 k2 k3 k4 so false false l1 l2 l3 l4 q1 q2 q3 q4 s (by omega) hq (hn hq).1 (hn hq).2.1 (hn hq).2.2)) λw0=>ig (λw=>?_) λw1=>ig (λw=>?_) λw2=>ig (λw=>?_) λw3=>?_
 ·have hc:=R0 w;exact jh (λh=>gtX e1 e2 e3 e4 p1 p2 p3 p4 k1 k2 k3 k4 so s hs (afs e1 e2 e3 e4 p1 p2 p3 p4 k1 k2 k3 k4 so false false l1 l2 l3 l4 q1 q2 q3 q4 s _ (by omega) hc h)) λh=>jh (λho=>gtX e1 e2 e3 e4 p1 p2 p3 p4 k1 k2 k3 k4 so s hs (Yx e1 e2 e3 e4 p1 p2 p3 p4 k1 k2 k3 k4 so false false l1 l2 l3 l4 q1 q2 q3 q4 s _ (by omega) hc h ho)) λho=>ig (λhk=>gtX e1 e2 e3 e4 p1 p2 p3 p4 k1 k2 k3 k4 so s hs (YN e1 e2 e3 e4 p1 p2 p3 p4 k1 k2 k3 k4 so false false l1 l2 l3 l4 q1 q2 q3 q4 s _ (by omega) hc h ho hk)) λhk=>jh (λhn=>gtX e1 e2 e3 e4 p1 p2 p3 p4 k1 k2 k3 k4 so s hs (YJ e1 e2 e3 e4 p1 p2 p3 p4 k1 k2 k3 k4 so false false l1 l2 l3 l4 q1 q2 q3 q4 s _ (by omega) hc h ho (by omega) hn)) λhn=>yk p1 p2 p3 p4 s (abY e1 e2 e3 e4 p1 p2 p3 p4 k1 k2 k3 k4 so false false l1 l2 l3 l4 q1 q2 q3 q4 s _ (by omega) hc h ho (by omega) hn) ⟨ey p1 rfl,p2,p3,p4,ey (pkE k1) rfl,pkE k2,pkE k3,pkE k4⟩
 ·have hc:=R0 w;exact jh (λh=>gtX e1 e2 e3 e4 p1 p2 p3 p4 k1 k2 k3 k4 so s hs (afr e1 e2 e3 e4 p1 p2 p3 p4 k1 k2 k3 k4 so false false l1 l2 l3 l4 q1 q2 q3 q4 s _ (by omega) hc h)) λh=>jh (λho=>gtX e1 e2 e3 e4 p1 p2 p3 p4 k1 k2 k3 k4 so s hs (Yw e1 e2 e3 e4 p1 p2 p3 p4 k1 k2 k3 k4 so false false l1 l2 l3 l4 q1 q2 q3 q4 s _ (by omega) hc h ho)) λho=>ig (λhk=>gtX e1 e2 e3 e4 p1 p2 p3 p4 k1 k2 k3 k4 so s hs (YM e1 e2 e3 e4 p1 p2 p3 p4 k1 k2 k3 k4 so false false l1 l2 l3 l4 q1 q2 q3 q4 s _ (by omega) hc h ho hk)) λhk=>jh (λhn=>gtX e1 e2 e3 e4 p1 p2 p3 p4 k1 k2 k3 k4 so s hs (YI e1 e2 e3 e4 p1 p2 p3 p4 k1 k2 k3 k4 so false false l1 l2 l3 l4 q1 q2 q3 q4 s _ (by omega) hc h ho (by omega) hn)) λhn=>yk p1 p2 p3 p4 s (abX e1 e2 e3 e4 p1 p2 p3 p4 k1 k2 k3 k4 so false false l1 l2 l3 l4 q1 q2 q3 q4 s _ (by omega) hc h ho (by omega) hn) ⟨p1,ey p2 rfl,p3,p4,pkE k1,ey (pkE k2) rfl,pkE k3,pkE k4⟩
 ·have hc:=R0 w;exact jh (λh=>gtX e1 e2 e3 e4 p1 p2 p3 p4 k1 k2 k3 k4 so s hs (afq e1 e2 e3 e4 p1 p2 p3 p4 k1 k2 k3 k4 so false false l1 l2 l3 l4 q1 q2 q3 q4 s _ (by omega) hc h)) λh=>jh (λho=>gtX e1 e2 e3 e4 p1 p2 p3 p4 k1 k2 k3 k4 so s hs (Yv e1 e2 e3 e4 p1 p2 p3 p4 k1 k2 k3 k4 so false false l1 l2 l3 l4 q1 q2 q3 q4 s _ (by omega) hc h ho)) λho=>ig (λhk=>gtX e1 e2 e3 e4 p1 p2 p3 p4 k1 k2 k3 k4 so s hs (YL e1 e2 e3 e4 p1 p2 p3 p4 k1 k2 k3 k4 so false false l1 l2 l3 l4 q1 q2 q3 q4 s _ (by omega) hc h ho hk)) λhk=>jh (λhn=>gtX e1 e2 e3 e4 p1 p2 p3 p4 k1 k2 k3 k4 so s hs (Yz e1 e2 e3 e4 p1 p2 p3 p4 k1 k2 k3 k4 so false false l1 l2 l3 l4 q1 q2 q3 q4 s _ (by omega) hc h ho (by omega) hn)) λhn=>yk p1 p2 p3 p4 s (abW e1 e2 e3 e4 p1 p2 p3 p4 k1 k2 k3 k4 so false false l1 l2 l3 l4 q1 q2 q3 q4 s _ (by omega) hc h ho (by omega) hn) ⟨p1,p2,ey p3 rfl,p4,pkE k1,pkE k2,ey (pkE k3) rfl,pkE k4⟩
 ·have hc:=R0 (aby w0 w1 w2 w3);exact jh (λh=>gtX e1 e2 e3 e4 p1 p2 p3 p4 k1 k2 k3 k4 so s hs (afp e1 e2 e3 e4 p1 p2 p3 p4 k1 k2 k3 k4 so false false l1 l2 l3 l4 q1 q2 q3 q4 s _ (by omega) hc h)) λh=>jh (λho=>gtX e1 e2 e3 e4 p1 p2 p3 p4 k1 k2 k3 k4 so s hs (Yu e1 e2 e3 e4 p1 p2 p3 p4 k1 k2 k3 k4 so false false l1 l2 l3 l4 q1 q2 q3 q4 s _ (by omega) hc h ho)) λho=>ig (λhk=>gtX e1 e2 e3 e4 p1 p2 p3 p4 k1 k2 k3 k4 so s hs (YK e1 e2 e3 e4 p1 p2 p3 p4 k1 k2 k3 k4 so false false l1 l2 l3 l4 q1 q2 q3 q4 s _ (by omega) hc h ho hk)) λhk=>jh (λhn=>gtX e1 e2 e3 e4 p1 p2 p3 p4 k1 k2 k3 k4 so s hs (Yy e1 e2 e3 e4 p1 p2 p3 p4 k1 k2 k3 k4 so false false l1 l2 l3 l4 q1 q2 q3 q4 s _ (by omega) hc h ho (by omega) hn)) λhn=>yk p1 p2 p3 p4 s (abV e1 e2 e3 e4 p1 p2 p3 p4 k1 k2 k3 k4 so false false l1 l2 l3 l4 q1 q2 q3 q4 s _ (by omega) hc h ho (by omega) hn) ⟨p1,p2,p3,ey p4 rfl,pkE k1,pkE k2,pkE k3,ey (pkE k4) rfl⟩
end
section
variable (e1 e2 e3 e4 rl:B6)(p1:ab e1=true)(p2:ab e2=true)(p3:ab e3=true)(p4:ab e4=true)(pr:ab rl=true)(k1 k2 k3 k4:CF)(nm:B5)(n:Nat)(l1:e1.length<2^30)(l2:e2.length<2^30)(l3:e3.length<2^30)(l4:e4.length<2^30)
include p1 p2 p3 p4 pr l1 l2 l3 l4
theorem gr1 (hn:n=e1.length+1)(s:B5)(hs:s.length<2^30)(hq:bn (aw s).1=0):dm (bP n e2.length e3.length e4.length 1 false false (e1++[[AV.str nm,AV.vs 9 0 rl.length]]) e2 e3 e4 k1 k2 k3 k4 [.vec 5 rl]) s (KR s rl.length (λe=>⟨.int .i64 e,rP n e2.length e3.length e4.length 1 false false (.nest 2 e1 [[AV.str nm,AV.vs 9 0 rl.length]]) (.vec 2 e2) (.vec 2 e3) (.vec 3 e4) k1 k2 k3 k4 [(true,.vec 5 rl)]⟩) ⟨.int .i64 0,rP n e2.length e3.length e4.length 1 false false (.nest 2 e1 [[AV.str nm,AV.vs 9 0 (rl.length+1)]]) (.vec 2 e2) (.vec 2 e3) (.vec 3 e4) k1 k2 k3 k4 [(false,.vec 5 (rl++[(J.plP s).1.enc]))]⟩):=
 jh (λh=>Ib p1 p2 p3 p4 pr s 2 (acq e1 e2 e3 e4 rl p1 p2 p3 p4 pr k1 k2 k3 k4 false false nm n l1 l2 l3 l4 hn s (by omega) hq h)) λh=>ig (λhk=>Ib p1 p2 p3 p4 pr s 4 (Xb e1 e2 e3 e4 rl p1 p2 p3 p4 pr k1 k2 k3 k4 false false nm n l1 l2 l3 l4 hn s (by omega) hq h hk)) λhk=>ack p1 p2 p3 p4 pr (ey pr rfl) s (aed e1 e2 e3 e4 rl p1 p2 p3 p4 pr k1 k2 k3 k4 false false nm n l1 l2 l3 l4 hn s (by omega) hq h (by omega))
theorem gr2 (hn:n=e2.length+1)(s:B5)(hs:s.length<2^30)(hq:bn (aw s).1=0):dm (bP e1.length n e3.length e4.length 2 false false e1 (e2++[[AV.str nm,AV.vs 9 0 rl.length]]) e3 e4 k1 k2 k3 k4 [.vec 2 rl]) s (Cw s rl.length (λe=>⟨.int .i64 e,rP e1.length n e3.length e4.length 2 false false (.vec 2 e1) (.nest 2 e2 [[AV.str nm,AV.vs 9 0 rl.length]]) (.vec 2 e3) (.vec 3 e4) k1 k2 k3 k4 [(true,.vec 2 rl)]⟩) λb t=>⟨.int .i64 0,rP e1.length n e3.length e4.length 2 false false (.vec 2 e1) (.nest 2 e2 [[AV.str nm,AV.vs 9 0 (rl.length+1)]]) (.vec 2 e3) (.vec 3 e4) k1 k2 k3 k4 [(false,.vec 2 (rl++[[.bool b,.str t]]))]⟩):=by
 unfold Cw;split
 ·rename_i hP;exact wM p1 p2 p3 p4 pr s 2 (Xg e1 e2 e3 e4 rl p1 p2 p3 p4 pr k1 k2 k3 k4 false false nm n l1 l2 l3 l4 hn s (by omega) hq hP)
 ·rename_i b t hP;exact ig (λh=>ig (λhk=>wM p1 p2 p3 p4 pr s 4 (Xh e1 e2 e3 e4 rl p1 p2 p3 p4 pr k1 k2 k3 k4 false false nm n l1 l2 l3 l4 hn s (by omega) hq b t hP h hk)) λhk=>acj p1 p2 p3 p4 pr (ey pr rfl) s (aei e1 e2 e3 e4 rl p1 p2 p3 p4 pr k1 k2 k3 k4 false false nm n l1 l2 l3 l4 hn s (by omega) hq b t hP h (by omega))) λh=>wM p1 p2 p3 p4 pr s 2 (acv e1 e2 e3 e4 rl p1 p2 p3 p4 pr k1 k2 k3 k4 false false nm n l1 l2 l3 l4 hn s (by omega) hq b t hP (by simpa using h))
theorem gr3 (hn:n=e3.length+1)(s:B5)(hs:s.length<2^30)(hq:bn (aw s).1=0):dm (bP e1.length e2.length n e4.length 3 false false e1 e2 (e3++[[AV.str nm,AV.vs 9 0 rl.length]]) e4 k1 k2 k3 k4 [.vec 3 rl]) s (Cy s rl.length (λe=>⟨.int .i64 e,rP e1.length e2.length n e4.length 3 false false (.vec 2 e1) (.vec 2 e2) (.nest 2 e3 [[AV.str nm,AV.vs 9 0 rl.length]]) (.vec 3 e4) k1 k2 k3 k4 [(true,.vec 3 rl)]⟩) λb t=>⟨.int .i64 0,rP e1.length e2.length n e4.length 3 false false (.vec 2 e1) (.vec 2 e2) (.nest 2 e3 [[AV.str nm,AV.vs 9 0 (rl.length+1)]]) (.vec 3 e4) k1 k2 k3 k4 [(false,.vec 3 (rl++[(eY b t rl.length).2.enc]))]⟩):=by
 unfold Cy;split
 ·rename_i hP;exact GZ p1 p2 p3 p4 pr s 2 (aaS e1 e2 e3 e4 rl p1 p2 p3 p4 pr k1 k2 k3 k4 false false nm n l1 l2 l3 l4 hn s (by omega) hq hP)
 ·rename_i b t hP
  exact ig (λhc=>aci p1 p2 p3 p4 pr (ey pr rfl) s (DV e1 e2 e3 e4 rl p1 p2 p3 p4 pr k1 k2 k3 k4 false false nm n l1 l2 l3 l4 hn s (by omega) hq b t hP _ (λe he h0=>absurd (he.symm.trans hc) h0) (λ_=>rfl))) λhc=>GZ p1 p2 p3 p4 pr s _ (DV e1 e2 e3 e4 rl p1 p2 p3 p4 pr k1 k2 k3 k4 false false nm n l1 l2 l3 l4 hn s (by omega) hq b t hP _ (λe he _=>congrArg (λz=>(⟨pnV (.ifc 138 (.agg [.int .i64 z])),_⟩:Ret)) he) (λhe=>absurd he hc))
end
theorem pkT (l:C4):ab (l.map Trm.enc)=true:=by simp
theorem pkM (l:C9):ab (l.map Mat.enc)=true:=by simp
theorem pkA (l:C8):ab (l.map Actn.enc)=true:=by simp
section
variable (e1 e2 e3 e4:B6)(p1:ab e1=true)(p2:ab e2=true)(p3:ab e3=true)(p4:ab e4=true)(k1 k2 k3 k4:CF)(so:Int)(nm:B5)(n:Nat)(hn:n=e4.length+1)(l4:e4.length<2^30)(ts:C4)(lt:ts.length<2^30)(hf:Kn.fit ⟨k1,k2,k3,k4⟩)(s:B5)(hs:s.length<2^30)
include p1 p2 p3 p4 hn l4 lt hf hs
theorem gpo:dm (bP e1.length e2.length e3.length n so true false e1 e2 e3 (e4++[[AV.str nm,AV.vs 9 0 ts.length,AV.int .i64 0]]) k1 k2 k3 k4 [.vec 4 (ts.map Trm.enc)]) s (KU s ts.length (kG ⟨k1,k2,k3,k4⟩ ts ⟨(aw s).2,[],[],1⟩) (λe=>⟨.int .i64 e,rP e1.length e2.length e3.length n so true false (.vec 2 e1) (.vec 2 e2) (.vec 2 e3) (.nest 3 e4 [[AV.str nm,AV.vs 9 0 ts.length,AV.int .i64 0]]) k1 k2 k3 k4 [(true,.vec 4 (ts.map Trm.enc))]⟩) (λv=>⟨.int .i64 0,rP e1.length e2.length e3.length n so false false (.vec 2 e1) (.vec 2 e2) (.vec 2 e3) (.nest 3 e4 [[AV.str nm,AV.vs 9 0 ts.length,AV.int .i64 v]]) k1 k2 k3 k4 [(true,.vec 4 (ts.map Trm.enc))]⟩) ⟨.int .i64 0,rP e1.length e2.length e3.length n so true true (.vec 2 e1) (.vec 2 e2) (.vec 2 e3) (.nest 3 e4 [[AV.str nm,AV.vs 9 0 (ts.length+1),AV.int .i64 0]]) k1 k2 k3 k4 [(false,.vec 4 (ts.map Trm.enc++[[.str (aw s).2,.con (.slice none 0 0),.con (.slice none 0 0),.int .i64 0]]))]⟩):=by
 unfold KU;refine ig (λd=>?_) λd1=>ig (λd=>?_) λd2=>jh (λhw=>vr p1 p2 p3 p4 (pkT ts) s 2 (adK e1 e2 e3 e4 p1 p2 p3 p4 k1 k2 k3 k4 so false nm 0 n hn l4 ts lt s (by omega) d1 d2 hw)) λhw=>jh (λho=>vr p1 p2 p3 p4 (pkT ts) s 2 (adH e1 e2 e3 e4 p1 p2 p3 p4 k1 k2 k3 k4 so false nm 0 n hn l4 ts lt s (by omega) d1 d2 hw ho)) λho=>ig (λhk=>vr p1 p2 p3 p4 (pkT ts) s 4 (adJ e1 e2 e3 e4 p1 p2 p3 p4 k1 k2 k3 k4 so false nm 0 n hn l4 ts lt s (by omega) d1 d2 hw ho hk)) λhk=>jh (λhc=>vr p1 p2 p3 p4 (pkT ts) s _ (adI e1 e2 e3 e4 p1 p2 p3 p4 k1 k2 k3 k4 so false nm 0 n hn l4 ts lt hf s (by omega) d1 d2 hw ho (by omega) hc)) λhc=>Ic p1 p2 p3 p4 (pkT ts) (ey (pkT ts) rfl) s (ahx e1 e2 e3 e4 p1 p2 p3 p4 k1 k2 k3 k4 so false nm 0 n hn l4 ts lt hf s (by omega) d1 d2 hw ho (by omega) hc)
 ·subst d;exact Ic p1 p2 p3 p4 (pkT ts) (pkT ts) _ (ahz e1 e2 e3 e4 p1 p2 p3 p4 k1 k2 k3 k4 so false nm 0 n hn l4 ts lt)
 ·subst d;exact Ic p1 p2 p3 p4 (pkT ts) (pkT ts) _ (ahy e1 e2 e3 e4 p1 p2 p3 p4 k1 k2 k3 k4 so false nm 0 n hn l4 ts lt)
theorem gtr (tn:B5)(ms:C9)(lm:ms.length<2^30)(acs:C8)(la:acs.length<2^30)(m:Nat)(hm:m=ts.length+1):dm (bP e1.length e2.length e3.length n so true true e1 e2 e3 (e4++[[AV.str nm,AV.vs 9 0 m,AV.int .i64 0]]) k1 k2 k3 k4 [.vec 4 (ts.map Trm.enc++[[AV.str tn,AV.vs 10 0 ms.length,AV.vs 11 0 acs.length,AV.int .i64 0]]),.vec 6 (ms.map Mat.enc),.vec 5 (acs.map Actn.enc)]) s (KO s ms.length acs.length (mtE ⟨k1,k2,k3,k4⟩) (λe=>⟨.int .i64 e,rP e1.length e2.length e3.length n so true true (.vec 2 e1) (.vec 2 e2) (.vec 2 e3) (.nest 3 e4 [[AV.str nm,AV.vs 9 0 m,AV.int .i64 0]]) k1 k2 k3 k4 [(true,.nest 4 (ts.map Trm.enc) [[AV.str tn,AV.vs 10 0 ms.length,AV.vs 11 0 acs.length,AV.int .i64 0]]),(true,.vec 6 (ms.map Mat.enc)),(true,.vec 5 (acs.map Actn.enc))]⟩) (λv=>⟨.int .i64 0,rP e1.length e2.length e3.length n so true false (.vec 2 e1) (.vec 2 e2) (.vec 2 e3) (.nest 3 e4 [[AV.str nm,AV.vs 9 0 m,AV.int .i64 0]]) k1 k2 k3 k4 [(true,.nest 4 (ts.map Trm.enc) [[AV.str tn,AV.vs 10 0 ms.length,AV.vs 11 0 acs.length,AV.int .i64 v]]),(true,.vec 6 (ms.map Mat.enc)),(true,.vec 5 (acs.map Actn.enc))]⟩) (λx=>⟨.int .i64 0,rP e1.length e2.length e3.length n so true true (.vec 2 e1) (.vec 2 e2) (.vec 2 e3) (.nest 3 e4 [[AV.str nm,AV.vs 9 0 m,AV.int .i64 0]]) k1 k2 k3 k4 [(true,.nest 4 (ts.map Trm.enc) [[AV.str tn,AV.vs 10 0 (ms.length+1),AV.vs 11 0 acs.length,AV.int .i64 0]]),(false,.vec 6 (ms.map Mat.enc++[x.enc])),(true,.vec 5 (acs.map Actn.enc))]⟩) λx=>⟨.int .i64 0,rP e1.length e2.length e3.length n so true true (.vec 2 e1) (.vec 2 e2) (.vec 2 e3) (.nest 3 e4 [[AV.str nm,AV.vs 9 0 m,AV.int .i64 0]]) k1 k2 k3 k4 [(true,.nest 4 (ts.map Trm.enc) [[AV.str tn,AV.vs 10 0 ms.length,AV.vs 11 0 (acs.length+1),AV.int .i64 0]]),(true,.vec 6 (ms.map Mat.enc)),(false,.vec 5 (acs.map Actn.enc++[x.enc]))]⟩):=by
 unfold KO;refine ig (λd=>?_) λd1=>ig (λd=>?_) λd2=>ig (λd=>?_) λd3=>ig (λhw=>jh (λha=>li p1 p2 p3 p4 (pkT ts) (pkM ms) (pkA acs) s 2 (abP e1 e2 e3 e4 p1 p2 p3 p4 k1 k2 k3 k4 so true nm 0 n hn l4 ts lt tn ms lm acs la m hm s hs d1 d2 d3 hw (λq=>ha (by rw[q];rfl)))) λha=>?_) λhw=>ig (λhw2=>?_) λhw2=>li p1 p2 p3 p4 (pkT ts) (pkM ms) (pkA acs) s 2 (abQ e1 e2 e3 e4 p1 p2 p3 p4 k1 k2 k3 k4 so true nm 0 n hn l4 ts lt tn ms lm acs la m hm s hs d1 d2 d3 hw hw2)
 ·subst d;exact tQ p1 p2 p3 p4 (pkT ts) (pkM ms) (pkA acs) (pkM ms) (pkA acs) _ (agI e1 e2 e3 e4 p1 p2 p3 p4 k1 k2 k3 k4 so true nm 0 n hn l4 ts lt tn ms lm acs la m hm)
 ·subst d;exact tQ p1 p2 p3 p4 (pkT ts) (pkM ms) (pkA acs) (pkM ms) (pkA acs) _ (agH e1 e2 e3 e4 p1 p2 p3 p4 k1 k2 k3 k4 so true nm 0 n hn l4 ts lt tn ms lm acs la m hm)
 ·subst d;exact tQ p1 p2 p3 p4 (pkT ts) (pkM ms) (pkA acs) (pkM ms) (pkA acs) _ (agF e1 e2 e3 e4 p1 p2 p3 p4 k1 k2 k3 k4 so true nm 0 n hn l4 ts lt tn ms lm acs la m hm)
 ·split
  ·rename_i hm2;exact li p1 p2 p3 p4 (pkT ts) (pkM ms) (pkA acs) s 2 (abO e1 e2 e3 e4 p1 p2 p3 p4 k1 k2 k3 k4 so true nm 0 n hn l4 ts lt tn ms lm acs la m hm s hs d1 d2 d3 hw ha hm2)
  ·rename_i x hm2;exact ig (λhk=>li p1 p2 p3 p4 (pkT ts) (pkM ms) (pkA acs) s 4 (Wm e1 e2 e3 e4 p1 p2 p3 p4 k1 k2 k3 k4 so true nm 0 n hn l4 ts lt tn ms lm acs la m hm s hs d1 d2 d3 hw ha x hm2 hk)) λhk=>jh (λhc=>li p1 p2 p3 p4 (pkT ts) (pkM ms) (pkA acs) s _ (abN e1 e2 e3 e4 p1 p2 p3 p4 k1 k2 k3 k4 so true nm 0 n hn l4 ts lt tn ms lm acs la m hm s hs d1 d2 d3 hw ha hf x hm2 (NW hm2) (by omega) hc)) λhc=>tQ p1 p2 p3 p4 (pkT ts) (pkM ms) (pkA acs) (ey (pkM ms) rfl) (pkA acs) s (adW e1 e2 e3 e4 p1 p2 p3 p4 k1 k2 k3 k4 so true nm 0 n hn l4 ts lt tn ms lm acs la m hm s hs d1 d2 d3 hw ha hf x hm2 (NW hm2) (by omega) hc)
 ·split
  ·rename_i hm2;exact li p1 p2 p3 p4 (pkT ts) (pkM ms) (pkA acs) s 2 (abS e1 e2 e3 e4 p1 p2 p3 p4 k1 k2 k3 k4 so true nm 0 n hn l4 ts lt tn ms lm acs la m hm s hs d1 d2 d3 hw2 hm2)
  ·rename_i x hm2;exact ig (λhk=>li p1 p2 p3 p4 (pkT ts) (pkM ms) (pkA acs) s 4 (Wn e1 e2 e3 e4 p1 p2 p3 p4 k1 k2 k3 k4 so true nm 0 n hn l4 ts lt tn ms lm acs la m hm s hs d1 d2 d3 hw2 x hm2 hk)) λhk=>jh (λhc=>li p1 p2 p3 p4 (pkT ts) (pkM ms) (pkA acs) s _ (abR e1 e2 e3 e4 p1 p2 p3 p4 k1 k2 k3 k4 so true nm 0 n hn l4 ts lt tn ms lm acs la m hm s hs d1 d2 d3 hw2 x hm2 (by omega) hc)) λhc=>tQ p1 p2 p3 p4 (pkT ts) (pkM ms) (pkA acs) (pkM ms) (ey (pkA acs) rfl) s (adX e1 e2 e3 e4 p1 p2 p3 p4 k1 k2 k3 k4 so true nm 0 n hn l4 ts lt tn ms lm acs la m hm s hs d1 d2 d3 hw2 x hm2 (by omega) hc)
end
end Go.AM.IR
