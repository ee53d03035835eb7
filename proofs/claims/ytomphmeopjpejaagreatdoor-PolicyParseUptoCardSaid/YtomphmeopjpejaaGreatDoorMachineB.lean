/- An abstract machine: its functions give what the calls of the program give. -/
import Derived.Test.YtomphmeopjpejaaGreatDoorMachineA
import Derived.Recover
set_option linter.unusedSectionVars false
set_option linter.unusedVariables false
set_option linter.unusedSimpArgs false
namespace Go.AM
open Go.RowKit
section
variable {P:Program} {C:Ctx} {U:Nat->Prop} {hp:HF} {w w':World} {S:Nat->Prop} {β:Nat->Place} {used:Nat->Nat->Prop} {g:Nat} {N:Nums}
theorem GW (φ:Nat->Nat->Tgt)(gi:Nat->Nat)(f:HF): ∀(K:Cc)(bs:Co)(i0:Nat),K.length=bs.length->K.Nodup->
  (∀i k x,K[i]? =some k->bs[i]? =some x->hov (nV φ gi i0 K bs) f k=some (gi (i0+i),x.2.ren φ))/\ ∀k,k∉K->hov (nV φ gi i0 K bs) f k=f k
 | [],[],i0,_,_=>⟨λi k x h=>by simp at h,λk _=>rfl⟩
 |k0::K,(b0,x0)::bs,i0,hl,hn=>by
  rw[List.nodup_cons] at hn;obtain ⟨h1,h2⟩:=GW φ gi f K bs (i0+1) (by grind) hn.2
  refine ⟨λi k x hk hx=>?_,λk hk=>?_⟩
  ·cases i with
   |zero=>
    obtain rfl:k0=k:=by grind
    obtain rfl:(b0,x0)=x:=by grind
    simp[nV,hov,up]
   |succ i=>
    have hk':K[i]? =some k:=by grind
    have hne:k≠k0:=λe=>hn.1 (e▸List.mem_of_getElem? hk')
    simp only[nV,hov,up,Aa hne]
    grind
  ·simp only[AI,not_or] at hk
   simp only[nV,hov,up,Aa hk.1]
   grind
 | [],_::_,_,hl,_=>by simp at hl
 |_::_,[],_,hl,_=>by simp at hl
theorem adb (l l':az)(f:HF):hov (l++l') f=hov l (hov l' f):=by
 induction l<;>grind [hov]
theorem qc {r a:AV}(h:dv r=some a): ∃t,r= .ifc t (.tup [.ref 0 1 0,a]):=by
 unfold dv at h
 grind
theorem SY {r:AV}(h:r.dry=true):dv r=none:=by
 cases hu:dv r<;>grind [qc,AV.dry,uE]
theorem OU {r:AV}(h:r.pure=true):dv r=none:=by
 cases hu:dv r<;>grind [qc,AV.pure,aM]
theorem Sc {hg:HF}{c:CIn}{g dst:Nat}{t:Ret}{e:Eff}(h:ck hg c g dst t=some e):dv t.r=none:=by
 unfold ck at h;cases h1:(t.bs.isEmpty&&t.r.dry) with
 |true=>grind [SY]
 |false=>
  rw[h1] at h;dsimp only[cond] at h;cases h2:dv t.r<;>grind
theorem Sb (h:HI C U hp w S β used)(hg: ¬U g)(hg0:g≠0){c:CIn}(hnd:c.D.Nodup)(hlive: ∀k∈c.D,∃x,hp k=some x)(hfz: ∀k∈c.fz,k∉c.D)(hbl:c.bs.length=c.D.length){v:Value}{t:Ret}{S1:Nat->Prop}{β1:Nat->Place}(hr:RetC (dP C hp w S β c.D c.fz) c.bs.length w' v t S1 β1){dst:Nat}{e:Eff}(he:ck hp c g dst t=some e):
  ∃S' β' used',HI C (Or1 U g) (hov e.wr hp) w' S' β' used'/\(aP C S β used hp w).le (aP C S' β' used' (hov e.wr hp) w')/\V (aP C S' β' used' (hov e.wr hp) w') v e.res:=by
 let FZ:Nat->Prop:=λb=> ∃k∈c.fz,∃x,hp k=some x/\(β k).isNil=false/\(β k).blk=b
 let X1:Nat->Prop:=λb=> ∃k∈c.D,(β k).isNil=false/\(β k).blk=b
 have kept1:Kept X1 w w':=hr.kept;have blkS: ∀k x,hp k=some x->(β k).isNil=false->S (β k).blk/\(C.W0.heap.size<=(β k).blk∨C.X (β k).blk):=λk x hk hn=>(h.at_ k x.1 x.2 hk).2.1 hn
 have X1S: ∀b,X1 b->S b/\(C.W0.heap.size<=b∨C.X b):=λb ⟨k,hk,hn,hb⟩=>by
  grind
 have FZS: ∀b,FZ b->S b/\(C.W0.heap.size<=b∨C.X b):=λb ⟨k,hk,x,hx,hn,hb⟩=>by grind
 have S1cases: ∀b,S1 b->w.heap.size<=b∨(S b/\ ¬FZ b):=λb hb=>(hr.s b hb).2
 have keptC:Kept C.X C.W0 w':=h.kept.trans kept1 λb hb hx=>((X1S b hx).2).resolve_left (by omega)
 have cellKeep: ∀b o u,¬X1 b->w.cell? ⟨b,o,none⟩=some u->w'.cell? ⟨b,o,none⟩=some u:=λb o u hx hc=>by
  rw[((SameB.of_block (kept1.block b (rz hc) hx)).at o).1];exact hc
 have fresh_out: ∀b,C.S0 b-> ¬C.X b->S b/\ ¬FZ b:=λb hb hx=>⟨h.keep b hb hx,λhf=>by
  rcases (FZS b hf).2 with q|q
  ·have:=h.s0 b hb;omega
  grind⟩
 have keep1: ∀b,C.S0 b-> ¬C.X b->S1 b:=λb hb hx=>hr.keep b (fresh_out b hb hx) λhx1=>by
  rcases (X1S b hx1).2 with q|q
  ·have:=h.s0 b hb;omega
  grind
 have s1lt: ∀b,S1 b->b<w'.heap.size/\(C.W0.heap.size<=b∨C.S0 b):=λb hb=>⟨(hr.s b hb).1,by
  rcases S1cases b hb with q|q
  ·exact .inl (AJ h.kept.size q)
  ·exact (h.s b q.1).2⟩
 -- a key that the callee did not get keeps its object
 have other: ∀k x,hp k=some x->k∉c.D->k∉c.fz->(β k).isNil=false->S1 (β k).blk/\SameB w w' (β k).blk:=λk x hk hD hf hn=>by
  obtain ⟨q1,q2⟩:=blkS k x hk hn
  have nX: ¬X1 (β k).blk:=λ⟨k',hk',hn',hb⟩=>by
   obtain ⟨x',hx'⟩:=hlive k' hk';exact hD (h.inj k' k _ _ hx' hk hn' hn hb▸hk')
  have nF: ¬FZ (β k).blk:=λ⟨k',hk',x',hx',hn',hb⟩=>hf (h.inj k' k _ _ hx' hk hn' hn hb▸hk')
  exact ⟨hr.keep _ ⟨q1,nF⟩ nX,.of_block (kept1.block _ (h.s _ q1).1 nX)⟩
 unfold ck at he;cases hdry:(t.bs.isEmpty&&t.r.dry) with
 |true=>
  rw[hdry] at he;obtain rfl:=Ad he;simp only[At] at hdry;have hbs:t.bs= []:=List.isEmpty_iff.1 hdry.1
  have hD:c.D= []:=by
   have:=hr.len;simp_all
  have nX: ∀b,¬X1 b:=λb ⟨k,hk,_⟩=>by grind
  refine ⟨λb=>S1 b∨FZ b,β,used,?_⟩
  have hch:=h.change (U':=Or1 U g) (hp':=hp) (w':=w') (S':=λb=>S1 b∨FZ b) (β':=β) (used':=used) keptC (λb o u hs hc=>⟨?_,cellKeep b o u (nX b) hc⟩) (λ_ _=>id) (λk g b hk _=>⟨⟨b,hk⟩,rfl⟩) ?_ (λb hb hx=>.inl (keep1 b hb hx)) (λk g hu=>.inl (h.us k g hu)) ?_ h.inj h.pl
  ·exact ⟨hch.1,hch.2,V.dry_env (E:=aP (dP C hp w S β c.D c.fz) S1 β1 (ij t.bs.length) (hpR t.bs) w') (E':=aP C (λb=>S1 b∨FZ b) β used hp w') rfl rfl hr.val hdry.2⟩
  ·rintro (q|q)
   ·rcases S1cases b q with y|y
    ·have:=rz hc;omega
    grind
   grind
  ·rintro b (q|q)
   ·grind
   ·have:=h.s b (FZS b q).1
    exact ⟨BS this.1 kept1.size,this.2⟩
  ·intro k g b hk
   refine .inl ⟨hk,rfl,λhn=>?_⟩
   have hsame:SameB w w' (β k).blk:=.of_block (kept1.block _ (h.s _ (blkS k _ hk hn).1).1 (nX _))
   by_cases hf:k∈c.fz
   ·exact ⟨.inr ⟨k,hf,_,hk,hn,rfl⟩,hsame⟩
   ·exact ⟨.inl (other k _ hk (by grind) hf hn).1,hsame⟩
 |false=>
  rw[hdry] at he;dsimp only[cond] at he;obtain ⟨lF,hlF⟩:=tq c.D dst t.bs.length;generalize hKd:fc c.D dst t.bs.length=K at he;cases hb:((dv t.r).isNone&&(d9 K&&decide (K.length=t.bs.length))) with
  |false=>grind
  |true=>
   rw[hb] at he;obtain rfl:=Ad he;simp only[At,AK] at hb;obtain ⟨_,hKn,hKl⟩:=hb;have hKn:=we hKn
   have hKD: ∀i k,c.D[i]? =some k->K[i]? =some k:=λi k hk=>by
    rw[<-hKd,hlF];rw[List.getElem?_append_left]
    ·exact hk
    grind
   have hDK: ∀k∈c.D,k∈K:=λk hk=>by grind
   let gi:=iU hp K c.D.length g t.bs
   let φ:=rT hp K c.D.length g t.bs
   let hp1:=hov (bW c.fz) hp
   have hp1eq:hp1=dK hp c.fz:=i7 c.fz hp;obtain ⟨k1,k2⟩:=GW φ gi hp1 K t.bs 0 hKl hKn
   let hp':=hov (nV φ gi 0 K t.bs) hp1
   have hwr:hov (nV φ gi 0 K t.bs++bW c.fz) hp=hp':=adb _ _ _;rw[hwr];have kAt: ∀k,k∈K-> ∃i,idx k K=some i:=λk hk=>idx_at hk
   let β':Nat->Place:=λk=>match idx k K with|some i=>β1 i|none=>β k
   let used':Nat->Nat->Prop:=λk g'=>used k g'∨ ∃i,K[i]? =some k/\i<t.bs.length/\g'=gi i
   have β'K: ∀i k,K[i]? =some k->β' k=β1 i:=λi k hk=>by
    obtain ⟨j,hj⟩:=idx_at (List.mem_of_getElem? hk);have:j=i:=qk hKn (fH hj) hk;subst this;show (match idx k K with|some i=>β1 i|none=>β k)=_
    rw[hj]
   have β'o: ∀k,k∉K->β' k=β k:=λk hk=>by
    grind [fH]
   have bsAt: ∀i k,K[i]? =some k-> ∃x,t.bs[i]? =some x/\i<t.bs.length:=λi k hk=>by
    have:i<K.length:=by
     rcases AO i K.length with q|q
     ·exact q
     ·rw[AA q] at hk;cases hk
    exact ⟨t.bs[i]'(by omega),by rw[AF],by omega⟩
   -- the two kinds of keys
   have hpK: ∀k x,hp' k=some x->(∃i y,K[i]? =some k/\t.bs[i]? =some y/\i<t.bs.length/\x=(gi i,y.2.ren φ))∨(k∉K/\k∉c.fz/\hp k=some x):=λk x hk=>by
    by_cases hm:k∈K
    ·left
     obtain ⟨i,hi⟩:=kAt k hm;obtain ⟨y,hy,hlt⟩:=bsAt i k (fH hi);have:=k1 i k y (fH hi) hy;rw[A3] at this;refine ⟨i,y,fH hi,hy,hlt,?_⟩;exact Ad (hk.symm.trans this)
    ·right
     have:=k2 k hm;have hk1:hp1 k=some x:=this.symm.trans hk;rw[hp1eq] at hk1;unfold dK at hk1;split at hk1
     ·cases hk1
     ·rename_i q;exact ⟨hm,by grind,hk1⟩
   -- an old stamp under a target key
   have giOld: ∀i k,K[i]? =some k->i<t.bs.length->(gi i=g)∨(∃b,c.D[i]? =some k/\hp k=some (gi i,b)/\β1 i=β k):=λi k hk hlt=>by
    show (iU hp K c.D.length g t.bs i=g)∨(∃b,c.D[i]? =some k/\hp k=some (iU hp K c.D.length g t.bs i,b)/\β1 i=β k)
    unfold iU;cases hq:(decide (i<c.D.length)&&(t.bs.getD i default).1) with
    |false=>exact .inl rfl
    |true=>
     right
     simp only[At,AK] at hq;have hDi:c.D[i]? =some (c.D[i]'hq.1):=AF hq.1;have:=hKD i _ hDi;rw[hk] at this;obtain rfl:=Ad this;obtain ⟨⟨g0,b0⟩,hx⟩:=hlive _ (List.getElem_mem hq.1);have hKg:K.getD i 0=c.D[i]'hq.1:=by rw[Ai,hk];rfl
     refine ⟨b0,hDi,by simp only[cond_true,hKg,yW,hx],?_⟩
     have hbi:t.bs[i]? =some (t.bs[i]'hlt):=AF hlt;have hflag:(t.bs[i]'hlt).1=true:=by have:=hq.2;rwa [Ai,hbi] at this
     have:=hr.pl i _ (by omega) hbi hflag
     rw[this];show β (c.D.getD i 0)=_
     rw[Ai,hDi];rfl
   have hro: ∀b o u,¬S b->w.cell? ⟨b,o,none⟩=some u-> ¬S1 b/\w'.cell? ⟨b,o,none⟩=some u:=λb o u hs hc=>
    ⟨λq=>(S1cases b q).elim (λy=>by have:=rz hc;omega) λy=>hs y.1,cellKeep b o u (λq=>hs (X1S b q).1) hc⟩
   have hlv: ∀k g' b,hp' k=some (g',b)->used k g'->(∃b',hp k=some (g',b'))/\β' k=β k:=λk g' b hk hu=>by
    rcases hpK k _ hk with ⟨i,y,q1,q2,q3,q4⟩|⟨q1,q2,q3⟩
    ·obtain ⟨rfl,_⟩:=Prod.mk.inj q4
     rcases giOld i k q1 q3 with z|⟨b0,_,z2,z3⟩
     ·rw[z] at hu;exact absurd (h.us _ _ hu) hg
     ·exact ⟨⟨b0,z2⟩,(β'K i k q1).trans z3⟩
    ·exact ⟨⟨b,q3⟩,β'o k q1⟩
   have l:(aP C S β used hp w).le (aP C S1 β' used' hp' w'):=kO hro (λ_ _=>.inl) hlv
   have hren:RenOk (aP (dP C hp w S β c.D c.fz) S1 β1 (ij t.bs.length) (hpR t.bs) w') (aP C S1 β' used' hp' w') φ:=by
    refine ⟨λb o u q=>q,rfl,rfl,λi g' hu=>?_⟩
    obtain ⟨hlt,rfl⟩:=hu;have hKi:K[i]? =some (K[i]'(by omega)):=AF (by omega)
    show (match φ i 0 with| .to k' g'=>_| .frz b=>_| .dead=>_)
    have hφ:φ i 0= .to (K[i]'(by omega)) (gi i):=by show rT hp K c.D.length g t.bs i 0=_;unfold rT;rw[hKi]
    rw[hφ];refine ⟨.inr ⟨i,hKi,hlt,rfl⟩,λp hp2=>?_⟩
    obtain ⟨b,_,rfl⟩:=fF hp2;rw[β'K i _ hKi];have:hpR t.bs i=some (0,(t.bs[i]'hlt).2):=by simp[hpR,hlt]
    exact bA this
   have hch:=h.change (U':=Or1 U g) (hp':=hp') (w':=w') (S':=S1) (β':=β') (used':=used') keptC hro (λ_ _=>.inl) hlv s1lt keep1 ?_ ?_ ?_ ?_
   ·exact ⟨S1,β',used',hch.1,l,hr.val.ren hren⟩
   ·rintro k g' (hu|⟨i,hi,hlt,rfl⟩)
    ·exact .inl (h.us _ _ hu)
    ·rcases giOld i k hi hlt with z|⟨b0,_,z2,_⟩
     ·exact .inr z
     ·exact .inl (h.us _ _ (h.at_ k _ _ z2).1)
   ·intro k g' b hk
    rcases hpK k _ hk with ⟨i,y,q1,q2,q3,q4⟩|⟨q1,q2,q3⟩
    ·right
     obtain ⟨rfl,rfl⟩:=Prod.mk.inj q4;rw[β'K i k q1];obtain ⟨z1,z2⟩:=hr.at_ i y q2;refine ⟨.inr ⟨i,q1,q3,rfl⟩,λhn=>⟨(z1 hn).1,?_⟩,z2.ren hren⟩
     rcases (z1 hn).2 with y|y
     ·exact .inl (AJ h.kept.size y)
     ·exact (X1S _ y).2
    ·left
     refine ⟨q3,β'o k q1,λhn=>other k _ q3 (λq=>q1 (hDK k q)) q2 hn⟩
   ·have inD: ∀i k,K[i]? =some k->i<t.bs.length->(β1 i).isNil=false-> ∀k2 x2,hp k2=some x2->k2∉K->(β k2).isNil=false->(β1 i).blk≠(β k2).blk:=λi k hi hlt hn k2 x2 h2 hk2 hn2 hbk=>by
     obtain ⟨y,hy,_⟩:=bsAt i k hi;rcases ((hr.at_ i y hy).1 hn).2 with q|⟨k3,hk3,hn3,hb3⟩
     ·have:=(h.s _ (blkS k2 x2 h2 hn2).1).1
      have q':w.heap.size<=(β1 i).blk:=q;omega
     ·obtain ⟨x3,hx3⟩:=hlive k3 hk3
      have:=h.inj k3 k2 _ _ hx3 h2 hn3 hn2 (hb3.trans hbk);exact hk2 (this▸hDK k3 hk3)
    intro k k' x x' h1 h2 n1 n2 hbk;rcases hpK k _ h1 with ⟨i,y,q1,q2,q3,_⟩|⟨q1,q2,q3⟩<;>rcases hpK k' _ h2 with ⟨i',y',p1,p2,p3,_⟩|⟨p1,p2,p3⟩
    ·rw[β'K i k q1] at n1 hbk
     rw[β'K i' k' p1] at n2 hbk;have:=hr.inj i i' q3 p3 n1 n2 hbk;subst this;exact Ad (q1.symm.trans p1)
    ·rw[β'K i k q1] at n1 hbk
     rw[β'o k' p1] at n2 hbk;exact absurd hbk (inD i k q1 q3 n1 k' _ p3 p1 n2)
    ·rw[β'o k q1] at n1 hbk
     rw[β'K i' k' p1] at n2 hbk;exact absurd hbk.symm (inD i' k' p1 p3 n2 k _ q3 q1 n1)
    ·rw[β'o k q1] at n1 hbk
     rw[β'o k' p1] at n2 hbk;exact h.inj k k' _ _ q3 p3 n1 n2 hbk
   ·intro k b hk
    rcases hpK k _ hk with ⟨i,y,q1,q2,q3,q4⟩|⟨q1,q2,q3⟩
    ·obtain ⟨e0,_⟩:=Prod.mk.inj q4
     rcases giOld i k q1 q3 with z|⟨b0,_,z2,z3⟩
     ·exact absurd (e0.trans z).symm hg0
     ·rw[β'K i k q1,z3]
      rw[<-e0] at z2;exact h.pl k b0 z2
    ·rw[β'o k q1];exact h.pl k b q3
end
open Go.RowKit
theorem jY {hg hg':HF}: ∀{D:Cc},(∀k∈D,hg k=hg' k)->bU hg D=bU hg' D
 | [],_=>rfl
 |k::r,h=>by simp only[bU];rw[h k (by simp),jY λk' hk=>h k' (by simp[hk])]
section
variable {hg hg':HF}{raw:Bool}{args:B7}
theorem Fk (h: ∀k∈gZ hg raw args,hg k=hg' k):gZ hg' raw args=gZ hg raw args:=by
 unfold gZ at h⊢;generalize cm raw args=D at h⊢;cases D with
 |nil=>rfl
 |cons d r=>
  dsimp only at h⊢;unfold ru at h⊢;have h0:=λk hk=>h k (List.mem_append_left _ hk)
  suffices hE:fy (d::r++bU hg' (d::r)++bU hg' (d::r++bU hg' (d::r)))=fy (d::r++bU hg (d::r)++bU hg (d::r++bU hg (d::r))) by
   grind [jY]
  clear h;have h:=h0
  rw[jY (hg:=hg') (hg':=hg) (D:=d::r) λk hk=>(h k (eF.2 (List.mem_append_left _ (List.mem_append_left _ hk)))).symm,
   jY (hg:=hg') (hg':=hg) (D:=(d::r)++bU hg (d::r)) λk hk=>(h k (eF.2 (List.mem_append_left _ hk))).symm]
theorem sY {hg hg':HF}{φ φ':Nat->Nat->Tgt}(hφ:φ=φ'): ∀{D:Cc},(∀k∈D,hg k=hg' k)->jo hg φ D=jo hg' φ' D
 | [],_=>rfl
 |k::r,h=>by simp only[jo];rw[h k (by simp),sY hφ λk' hk=>h k' (by simp[hk]),hφ]
theorem qP {k:Nat}{D:Cc}(h:k∉D):idx k D=none:=by
 cases hq:idx k D with
 |none=>rfl
 |some i=>exact absurd (List.mem_of_getElem? (fH hq)) h
theorem Sd {D fz:Cc}(h: ∀k∈fz++D,hg k=hg' k):sC hg D fz=sC hg' D fz:=by
 grind [sC,qP]
theorem KN {c:CIn}(hc:fg hg raw args=some c)(h: ∀k∈c.fz++c.D,hg k=hg' k):fg hg' raw args=some c:=by
 unfold fg at hc⊢;split
 ·grind
 ·rename_i K hK
  split at hc
  ·grind
  ·obtain ⟨bs,hb,rfl⟩:=map_some hc
   grind [Fk,Sd,sY]
theorem FE {c:CIn}{g dst:Nat}{t:Ret}{e:Eff}(he:ck hg c g dst t=some e)(h: ∀k∈c.fz++c.D,hg k=hg' k):ck hg' c g dst t=some e:=by
 have hg1: ∀i,iU hg (fc c.D dst t.bs.length) c.D.length g t.bs i=iU hg' (fc c.D dst t.bs.length) c.D.length g t.bs i:=λi=>by
  unfold iU;cases hq:(decide (i<c.D.length)&&(t.bs.getD i default).1) with
  |false=>rfl
  |true=>
   simp only[At,AK] at hq;simp only[cond_true]
   have:(fc c.D dst t.bs.length).getD i 0=c.D[i]'hq.1:=by
    obtain ⟨lF,hlF⟩:=tq c.D dst t.bs.length
    grind
   grind [yW]
 have hg2:iU hg (fc c.D dst t.bs.length) c.D.length g t.bs=iU hg' (fc c.D dst t.bs.length) c.D.length g t.bs:=funext hg1
 have hg3:rT hg (fc c.D dst t.bs.length) c.D.length g t.bs=rT hg' (fc c.D dst t.bs.length) c.D.length g t.bs:=by
  grind [rT]
 grind [ck]
end
theorem Sa {hg:HF}{c:CIn}{g dst:Nat}{t:Ret}{e:Eff}(he:ck hg c g dst t=some e):e.rd=c.fz++c.D:=by
 grind [ck]
section
variable (P:Program)(N:Nums)(n:Nat)(ops:Array Oper)(i:Nat)(o:Oper)
def abz:CV->Bool
 |none=>true
 |some d=>decide (d<n)
def DU:Dn->Option Dn
 |none=>some none
 |some (j,w)=>match (ops[j]?).bind (·.dst) with
  |some t=>if t<D0 then some (some (t,w)) else none
  |none=>none
def OD:Cc:=(o.after.toList.filter λe=>Region.binds .any e).map (·.on)
def Km:Option AOper:=
 match bF P N o,DU ops o.guard with
 |some op,some gd=>if abz n o.dst=true/\(OD o).all (λj=>decide (j<i))=true then some {dst:=o.dst,op:=op,guard:=gd,after:=OD o} else none
 |_,_=>none
end
def fp (P:Program)(N:Nums)(n:Nat)(ops:Array Oper):Nat->List Oper->Option Cb
 |_,[]=>some []
 |i,o::r=>match Km P N n ops i o,fp P N n ops (i+1) r with
  |some a,some l=>some (a::l)
  |_,_=>none
def Lq (x y:AOper):Bool:=
 (match x.dst with|some t=> !(looks y).contains t&&y.dst !=some t|none=>true)&&(match y.dst with|some t=> !(looks x).contains t|none=>true)
def vq:Nat->Cb->Bool
 |_,[]=>true
 |k,o::r=>r.all (λo'=>o'.after.contains k||Lq o o')&&vq (k+1) r
def ch (acc:List Cc):Cb->Cb
 | []=>[]
 |o::r=> {o with after:=fy (o.after++o.after.flatMap λk=>acc.getD k [])}::ch (acc++[fy (o.after++o.after.flatMap λk=>acc.getD k [])]) r
def abq:AOp->Bool
 | .mv _| .pick .. | .build .. | .fadr .. | .bin .. | .eqb .. | .eqn .. | .eqs .. | .un .. | .conv .. | .ext .. | .minmax .. | .istr .. | .slstr .. | .mkfn .. | .nilck _| .iarr .. | .ival .. =>false
 |_=>true
def agY (l:Cb)(j:Nat):Bool:=match l[j]? with
 |some o=>abq o.op
 |none=>true
def lC (draw:Bool)(l:Cb):Cb:=bif draw then l.map (λo=> {o with after:=bif abq o.op then o.after.filter (λj=>agY l j) else []}) else l.map λo=> {o with after:=[]}
def ce (P:Program)(N:Nums)(n:Nat):Code->Option ACode
 | .skip=>some .skip
 | .region _ ops draw=>match fp P N n ops 0 ops.toList with
  |some l=>if draw=true->vq 0 (ch [] l)=true then some (.region (lC draw (ch [] l)) draw) else none
  |none=>none
 | .seq a b=>match ce P N n a,ce P N n b with
  |some a,some b=>some (.seq a b)
  |_,_=>none
 | .cond c a b=>match aQ N c,ce P N n a,ce P N n b with
  |some c,some a,some b=>some (.cond c a b)
  |_,_,_=>none
 | .block id b=>(ce P N n b).map (.block id)
 | .loop b=>(ce P N n b).map .loop
 | .scope b=>(ce P N n b).map .scope
 | .exit id=>some (.exit id)
 | .ret=>some .ret
 | .label _=>some .skip
 |_=>none
def jq (P:Program):ResultVar->Option RVar
 | .tmp t=>if t<D0 then some (.t t) else none
 | .cell a t=>match rH P t with
  |some sz=>if sz≠some 0/\a<D0 then some (.cell a sz) else none
  |none=>none
def ly (P:Program)(N:Nums)(raw:Bool)(fn:Func):Option AFunc:=
 match fn.body with
 |some c=>match ce P N fn.ntmps c,dX (jq P) fn.results.toList with
  |some b,some rs=>if fn.params.size+fn.nfree<=fn.ntmps/\fn.ntmps<=D0/\fn.name≠ "runtime.NumGoroutine" then some {n:=fn.ntmps,np:=fn.params.size+fn.nfree,raw:=raw,results:=rs,body:=b} else none
  |_,_=>none
 |none=>none
section
variable {P:Program} {C:Ctx} {N:Nums}
theorem DJ {F F':FSt}{ao:AOper}(h: ∀t∈looks ao,F'.tm t=F.tm t):ao.op.opds.map (evF F')=ao.op.opds.map (evF F):=by
 apply List.map_congr_left;intro x hx;cases x with
 |c v=>rfl
 |t n=>exact h n (List.mem_append_left _ (List.mem_filterMap.2 ⟨.t n,hx,rfl⟩))
theorem uV {U:Nat->Prop}{F:FSt}{a:Act}{w:World}{S:Nat->Prop}{β:Nat->Place}{used:Nat->Nat->Prop}(h:RelC C U F a w S β used)(hn:ew N C)(x:Operand)(y:Opd)(hx:aQ N x=some y):V (aP C S β used F.hp w) (a.eval x) (evF F y):=by
 cases x with
 |tmp t=>
  simp only[aQ] at hx;split at hx
  ·rename_i hlt
   obtain rfl:=Ad hx;have:=h.tm t;rw[xY hlt] at this;exact this
  grind
 |const v=>
  simp only[aQ] at hx;obtain ⟨av,h1,rfl⟩:=map_some hx;exact abK h1
 |func f=>
  simp only[aQ] at hx;split at hx
  ·rename_i hf
   obtain rfl:=Ad hx;have:=V.fn (E:=aP C S β used F.hp w) (N.fid f) #[] [] rfl (λi hi=>by simp at hi)
   unfold bV fnF fnC at this;rw[hf.2] at this;dsimp only[cond] at this;have e:(aP C S β used F.hp w).num (N.fid f)=f:=by show C.num _=f;rw[hn.1];exact hf.1
   rw[e] at this;exact this
  grind
 |global g=>
  simp only[aQ] at hx;split at hx
  ·rename_i cs hg
   split at hx
   ·rename_i hp
    obtain rfl:=Ad hx;exact hn.2.1.at_hi h.hi hg hp
   grind
  grind
theorem adw {ops:Array Oper}{i g:Nat}{o:Oper}{ao:AOper}(hr:OpRel P N C.n ops i o ao)(hn:ew N C)(ht:C.tnum=N.tnum)(hcall: ∀f args,ao.op≠ .call f args)(hg0:g≠0){key:Nat}{e:Eff}{F:FSt}(he:aX ao.op g key (ao.op.opds.map (evF F)) F.hp=some e):LC P C o g ao.dst e F:=by
 intro U a w K Q hg hR hK;obtain ⟨S,β,used,hRC⟩:=hR;have hs:Sit P C U F.hp w S β used g N a.eval (evF F):=⟨hRC.hi,hn.1,ht,λx y hx=>uV hRC hn x y hx,hg,hg0⟩
 obtain ⟨v,w',hrun,S',β',used',q1,q2,q3⟩:=agO hs hr.op hcall he;have hstep:=hRC.step q1 q2 ao.dst (λd hd=>hr.bd d (by rw[<-hr.dst];exact hd)) q3
 have hk:=hK _ w' ⟨S',β',used',hstep⟩;unfold Oper.wp;rw[hr.dst] at hk;rcases hrun with h|⟨h,rfl⟩<;>rw[h]
 ·exact hk
 ·exact hk
theorem Nh {o:Oper}{fo:Opd}{args:Do}(h:bF P N o=some (.call fo args)):
  ∃cf cargs tys,o.op= .call {callee:=.value cf,args:=cargs,argTypes:=tys}/\aQ N cf=some fo/\dX (aQ N) cargs.toList=some args:=by
 cases ho:o.op with
 |call c=>
  obtain ⟨callee,cargs,tys⟩:=c;cases callee with
  |value f=>
   simp only[bF,ho] at h
   grind
  |invoke r m=>simp_all[bF]
  |builtin b=>
   exfalso;simp only[bF,ho] at h
   (repeat' split at h)<;>first|(cases h;done)|(obtain ⟨_,_,q⟩:=map_some h;grind)|(have q:=Ad h;cases q;done)
 |binOp op t x y t'=>
  exfalso;simp only[bF,ho] at h;split at h
  ·cases op<;>dsimp only at h
   case eql|neq=>
    unfold rx at h
    (repeat' split at h)<;>first|(cases h;done)|(obtain ⟨_,_,q⟩:=map_some h;grind)|(have q:=Ad h;cases q;done)
   all_goals grind
  ·cases h
 |makeFunc fn first cap=>
  exfalso;cases fn<;>simp only[bF,ho] at h<;>first|(cases h;done)|skip
  (repeat' split at h)<;>first|(cases h;done)|(obtain ⟨_,_,q⟩:=map_some h;grind)
 |_=>
  exfalso;simp only[bF,ho] at h
  first
  |(cases h;done)
  |(obtain ⟨_,_,q⟩:=map_some h;cases q;done)
  |((repeat' split at h)<;>first|(cases h;done)|(obtain ⟨_,_,q⟩:=map_some h;grind)|(have q:=Ad h;cases q;done)|(simp at h;done))
theorem Ko {o:Oper}{x:Opd}(h:bF P N o=some (.panic x)): ∃y,o.op= .panic y/\aQ N y=some x:=by
 cases ho:o.op with
 |panic y=>
  simp_all[bF]
 |call c=>
  obtain ⟨callee,cargs,tys⟩:=c;cases callee with
  |value f=>
   exfalso;simp only[bF,ho] at h
   grind
  |invoke r m=>simp_all[bF]
  |builtin b=>
   exfalso;simp only[bF,ho] at h
   (repeat' split at h)<;>first|(cases h;done)|(obtain ⟨_,_,q⟩:=map_some h;grind)|(have q:=Ad h;cases q;done)
 |binOp op t x y t'=>
  exfalso;simp only[bF,ho] at h;split at h
  ·cases op<;>dsimp only at h
   case eql|neq=>
    unfold rx at h
    (repeat' split at h)<;>first|(cases h;done)|(obtain ⟨_,_,q⟩:=map_some h;grind)|(have q:=Ad h;cases q;done)
   all_goals grind
  ·cases h
 |makeFunc fn first cap=>
  exfalso;cases fn<;>simp only[bF,ho] at h<;>first|(cases h;done)|skip
  (repeat' split at h)<;>first|(cases h;done)|(obtain ⟨_,_,q⟩:=map_some h;grind)
 |_=>
  exfalso;simp only[bF,ho] at h
  first
  |(cases h;done)
  |(obtain ⟨_,_,q⟩:=map_some h;cases q;done)
  |((repeat' split at h)<;>first|(cases h;done)|(obtain ⟨_,_,q⟩:=map_some h;grind)|(have q:=Ad h;cases q;done)|(simp at h;done))
theorem abL {E:Env}{xs ys:Array Value}{as bs:B7}(h1:xs.size=as.length)(v1: ∀i,i<as.length->V E (xs.getD i undef) (as.getD i .any))(v2: ∀i,i<bs.length->V E (ys.getD i undef) (bs.getD i .any)): ∀i,i<(as++bs).length->V E ((xs++ys).getD i undef) ((as++bs).getD i .any):=λi hi=>by
 by_cases q:i<as.length
 all_goals simp_all[Array.getElem?_append,Aa]
section
variable {ops:Array Oper}{i g:Nat}{o:Oper}{ao:AOper}{fo:Opd}{args:Do}(hr:OpRel P N C.n ops i o ao)(hn:ew N C)(ht:C.tnum=N.tnum)(hop:ao.op= .call fo args)(hg0:g≠0){F:FSt}{f:Nat}{cap:B7}(hf:evF F fo= .fn f cap){raw:Bool}{c:CIn}(hc:fg F.hp raw (bif isB f then cap++args.map (evF F) else args.map (evF F)++cap)=some c){t:Ret}(hsem:fq P N (bV f) c.args c.bs t){fn:Func}(hfn:P.funcs[N.num (bV f)]? =some fn)(hb:fn.body.isSome=true)(hname:fn.name≠ "runtime.NumGoroutine"){dst:Nat}{e:Eff}
include hr hn ht hop hg0 hf hc hsem hfn hb hname
theorem zp (he:ck F.hp c g dst (unR t)=some e){U:Nat->Prop}{a:Act}{w:World}(hg: ¬U g)(hR:Rel C U F a w):
  ∃S β used args,RelC C U F a w S β used/\(execOp a.eval o).run P w= .ok (.enter (N.num (bV f)) args) w/\Calls P (N.num (bV f)) args w λe' w'=> ∃v,e'=iA t.r v/\
   ∃S' β' used',HI C (Or1 U g) (hov e.wr F.hp) w' S' β' used'/\(aP C S β used F.hp w).le (aP C S' β' used' (hov e.wr F.hp) w')/\V (aP C S' β' used' (hov e.wr F.hp) w') v e.res:=by
 obtain ⟨S,β,used,hRC⟩:=hR;have hcomp:=hr.op;rw[hop] at hcomp
 -- the machine's operation
 obtain ⟨cf,cargs,tys,hoc,h1,h2⟩: ∃cf cargs tys,o.op= .call {callee:=.value cf,args:=cargs,argTypes:=tys}/\aQ N cf=some fo/\dX (aQ N) cargs.toList=some args:=Nh hcomp
 have hs:Sit P C U F.hp w S β used g N a.eval (evF F):=⟨hRC.hi,hn.1,ht,λx y hx=>uV hRC hn x y hx,hg,hg0⟩
 have vf:=hs.at_ cf fo h1;rw[hf] at vf;obtain ⟨cs,e1,e2,e3⟩:=vf.fn_inv;obtain ⟨l1,l2⟩:=hs.list _ _ h2;have hnum:(aP C S β used F.hp w).num (bV f)=N.num (bV f):=by show C.num _=_;rw[hn.1]
 rw[hnum] at e1;have hl:cargs.size=args.length:=by grind
 have hl2: ∀i,i<(args.map (evF F)).length->V (aP C S β used F.hp w) ((cargs.map a.eval).getD i undef) ((args.map (evF F)).getD i .any):=λi hi=>by
  simp_all
 have hnone:fn.body≠none:=by grind
 have hrun:(execOp a.eval o).run P w= .ok (.enter (N.num (bV f)) (bif isB f then cs++cargs.map a.eval else cargs.map a.eval++cs)) w:=by
  cases hbf:isB f<;>simp[fnF,fnC,hbf] at e1<;>simp[execOp,hoc,resolve,e1,Deferred.ofValue,invoke,callFunc,hfn,hname,hnone]
 have hargsz:(bif isB f then cs++cargs.map a.eval else cargs.map a.eval++cs).size=(bif isB f then cap++args.map (evF F) else args.map (evF F)++cap).length:=by
  grind
 have hv: ∀i,i<(bif isB f then cap++args.map (evF F) else args.map (evF F)++cap).length->V (aP C S β used F.hp w) ((bif isB f then cs++cargs.map a.eval else cargs.map a.eval++cs).getD i undef) ((bif isB f then cap++args.map (evF F) else args.map (evF F)++cap).getD i .any):=λi hi=>by
  cases hbf:isB f with
  |true=>rw[hbf] at hi;exact abL e2 e3 hl2 i hi
  |false=>rw[hbf] at hi;exact abL (by grind) hl2 e3 i hi
 obtain ⟨hent,d1,d2,d3,d4⟩:=VN hRC.hi hn ht hargsz hv hc;have hcalls:=hsem _ _ hent;refine ⟨S,β,used,_,hRC,hrun,hcalls.mono ?_⟩
 rintro e' w' ⟨v,rfl,S1,β1,hret⟩
 obtain ⟨S',β',used',q1,q2,q3⟩:=Sb hRC.hi hg hg0 d1 d2 d3 d4 hret he
 grind
theorem Vr (he:ck F.hp c g dst t=some e):LC P C o g ao.dst e F:=by
 intro U a w K Q hg hR hK;have hnp:=Sc he;obtain ⟨S,β,used,vs,hRC,hrun,hcalls⟩:=zp hr hn ht hop hg0 hf hc hsem hfn hb hname (by rw[xX hnp];exact he) hg hR
 unfold Oper.wp;rw[hrun];show Calls P (N.num (bV f)) vs w _
 refine hcalls.mono ?_
 rintro e' w' ⟨v,rfl,S',β',used',q1,q2,q3⟩
 rw[sy hnp];have hstep:=hRC.step q1 q2 ao.dst (λd hd=>hr.bd d (by rw[<-hr.dst];exact hd)) q3
 have hk:=hK _ w' ⟨S',β',used',hstep⟩;rw[hr.dst] at hk;exact hk
theorem RZ (he:jG F.hp c g dst t=some e):vO P C o g e F:=by
 intro U a w K Q hg hR hK;unfold jG at he;split at he
 ·rename_i av hu
  obtain ⟨S,β,used,vs,hRC,hrun,hcalls⟩:=zp hr hn ht hop hg0 hf hc hsem hfn hb hname (by rw[agJ hu];exact he) hg hR
  unfold Oper.wp;rw[hrun];show Calls P (N.num (bV f)) vs w _
  refine hcalls.mono ?_
  rintro e' w' ⟨v,rfl,S',β',used',q1,q2,q3⟩
  rw[adu hu];refine hK v w' S' β' used' ⟨q1,hRC.size,hRC.defers,λt=>(hRC.tm t).mono q2⟩ q3
 grind
end
theorem RY {ops:Array Oper}{i g:Nat}{o:Oper}{ao:AOper}{x:Opd}(hr:OpRel P N C.n ops i o ao)(hn:ew N C)(hop:ao.op= .panic x){F:FSt}{ty:Nat}{av:AV}(hx:evF F x= .ifc ty av):vO P C o g {res:=.ifc ty av} F:=by
 intro U a w K Q hg hR hK;obtain ⟨S,β,used,hRC⟩:=hR;have hcomp:=hr.op;rw[hop] at hcomp;obtain ⟨y,hoc,h1⟩: ∃y,o.op= .panic y/\aQ N y=some x:=Ko hcomp
 have hv:=uV hRC hn y x h1;rw[hx] at hv
 have hrun:(execOp a.eval o).run P w= .halt (.panic (a.eval y)) w:=by
  cases hq:a.eval y<;>rw[hq] at hv<;>cases hv
  simp[execOp,hoc,hq];rfl
 unfold Oper.wp;rw[hrun];exact hK _ w S β used ⟨hRC.hi.wide λ_=>.inl,hRC.size,hRC.defers,hRC.tm⟩ hv
end
open Go.RowKit
def OkS (after:Cc)(e:Eff):Df->Prop
 | []=>True
 |(j,rd,wk,sf)::r=>(after.contains j=true∨(jf wk e.rd=false/\jf wk (wks e.wr)=false/\ ∀k∈wks e.wr,k∈rd-> ∀f,Sft sf k (hov e.wr f k)))/\OkS after e r
theorem OkS.of {after:Cc}{e:Eff}: ∀{dn:Df},kj after e dn=true->OkS after e dn
 | [],_=>trivial
 |(j,rd,wk,sf)::r,h=>by
  simp only[kj,At,Bool.or_eq_true,Bool.not_eq_true'] at h;refine ⟨?_,OkS.of h.2⟩;rcases h.1 with q|⟨⟨q1,q2⟩,q3⟩
  ·exact .inl q
  ·refine .inr ⟨q1,q2,λk hk hr=>?_⟩
   exfalso;have:jf (wks e.wr) rd=true:=by unfold jf;rw[List.any_eq_true];exact ⟨k,hk,by simpa using hr⟩
   rw[this] at q3;cases q3
def nK (G:Nat->Fun)(Q:(Cfg->C3)->Prop)(draw:Bool):Cb->Nat->Df->AS->List C6->AS->Prop
 | [],_,_,A,[],A'=>A'=A
 |o::r,i,dn,A,none::es,A'=>bL A.tm o.guard=some false/\nK G Q draw r (i+1) dn (A.put o.dst iP) es A'
 |o::r,i,dn,A,some e::es,A'=>bL A.tm o.guard=some true/\(∃ih,Q ih/\ik G ih o (A.ctr+i) A=some e)/\(draw=true->OkS o.after e dn)/\nK G Q draw r (i+1) (mb i e dn) (A.app o.dst e) es A'
 |_,_,_,_,_,_=>False
def Wk0 (A A':AS):Prop:=A'.ctr=A.ctr/\ ∀C U a w,Rel C U A.fs a w->Rel C U A'.fs a w
theorem Wk0.refl (A:AS):Wk0 A A:=⟨rfl,λ_ _ _ _ h=>h⟩
theorem Wk0.trans {A B D:AS}(h:Wk0 A B)(k:Wk0 B D):Wk0 A D:=⟨k.1.trans h.1,λC U a w r=>k.2 C U a w (h.2 C U a w r)⟩
def RegPan (G:Nat->Fun)(Q:(Cfg->C3)->Prop)(rs:CT)(m:Nat)(t:Ret):Cb->Nat->AS->Prop
 | [],_,_=>False
 | o::r,i,A=> ∃A1,Wk0 A A1/\((bL A1.tm o.guard=some false/\RegPan G Q rs m t r (i+1) (A1.put o.dst iP))∨
   (∃A2 e,Wk0 A1 A2/\bL A1.tm o.guard=some true/\(∃ih,Q ih/\ik G ih o (A.ctr+i) A2=some e)/\RegPan G Q rs m t r (i+1) (A2.app o.dst e))∨
   ∃A2 e,Wk0 A1 A2/\bL A1.tm o.guard=some true/\(∃ih,Q ih/\iR G ih o (A.ctr+i) A2=some e)/\ef {A2 with hp:=e.wr++A2.hp} rs m e.res=some t)
section
variable {G:Nat->Fun}{Q:(Cfg->C3)->Prop}{rs:CT}{m:Nat}{t:Ret}{l:Cb}
theorem RegPan.pre {i:Nat}{A B:AS}(h:Wk0 A B)(k:RegPan G Q rs m t l i B):RegPan G Q rs m t l i A:=by
 cases l with
 |nil=>exact k.elim
 |cons o r=>
  obtain ⟨A1,h1,h2⟩:=k;rw[h.1] at h2;exact ⟨A1,h.trans h1,h2⟩
def RegSeq (G:Nat->Fun)(Q:(Cfg->C3)->Prop):Cb->Nat->AS->AS->Prop
 | [],_,A,A'=>Wk0 A A'
 | o::r,i,A,A'=> ∃A1,Wk0 A A1/\((bL A1.tm o.guard=some false/\RegSeq G Q r (i+1) (A1.put o.dst iP) A')∨
   ∃A2 e,Wk0 A1 A2/\bL A1.tm o.guard=some true/\(∃ih,Q ih/\ik G ih o (A.ctr+i) A2=some e)/\RegSeq G Q r (i+1) (A2.app o.dst e) A')
theorem RegSeq.pre {i:Nat}{A B A':AS}(h:Wk0 A B)(k:RegSeq G Q l i B A'):RegSeq G Q l i A A':=by
 cases l with
 |nil=>exact h.trans k
 |cons o r=>
  obtain ⟨A1,h1,h2⟩:=k;rw[h.1] at h2;exact ⟨A1,h.trans h1,h2⟩
end
theorem AS.put_ctr (A:AS)(d:CV)(v:AV):(A.put d v).ctr=A.ctr:=by cases d<;>rfl
theorem AS.app_ctr (A:AS)(d:CV)(e:Eff):(A.app d e).ctr=A.ctr:=by cases d<;>rfl
def o7:C1->Bool
 | .inReg _ _ _ _::_=>false
 |_=>true
def Wk (A A':AS):Prop:= ∀C a w,0<A.ctr->Rel C (λg=>g<A.ctr) A.fs a w->Rel C (λg=>g<A'.ctr) A'.fs a w
def wkR:DF->Cc
 | []=>[]
 |(_,e)::r=>dt e++wkR r
def rC (G:Nat->Fun)(c p:Nat)(d:CV):Cb->Nat->AS->DF->Prop
 | [],_,_,[]=>True
 |x::r,j,A,(d',none)::es=>(x.after.contains p=true∨ ∃t,d=some t/\t∈looks x)/\d'=none/\rC G c p d r (j+1) A es
 |x::r,j,A,(d',some e)::es=>d'=x.dst/\bL A.tm x.guard=some true/\ik G (λ_=>none) x (c+j) A=some e/\e.rd= []/\rC G c p d r (j+1) (A.app x.dst e) es
 |_,_,_,_=>False
inductive Ev (G:Nat->Fun):Cfg->Ret->Prop
 |step {c:Cfg} {t:Ret} (ih:Cfg->C3) (hih: ∀c t,ih c=some t->Ev G c t) (h:ja G ih c=some t):Ev G c t
 |weakR {rest:Cb} {i:Nat} {dn:Df} {k:C1} {A A':AS} {rs:CT} {m:Nat} {t:Ret} (hw:Wk0 A A') (h:Ev G ⟨.inReg rest i dn false::k,A',rs,m⟩ t):Ev G ⟨.inReg rest i dn false::k,A,rs,m⟩ t
 | opS {o:AOper} {rest:Cb} {i:Nat} {dn:Df} {k:C1} {A:AS} {rs:CT} {m:Nat} {t:Ret} {e:Eff} (ih:Cfg->C3) (hih: ∀c t,ih c=some t->Ev G c t) (hw:bL A.tm o.guard=some true) (he:ik G ih o (A.ctr+i) A=some e)
   (h:Ev G ⟨.inReg rest (i+1) dn false::k,A.app o.dst e,rs,m⟩ t):Ev G ⟨.inReg (o::rest) i dn false::k,A,rs,m⟩ t
 | opD {o:AOper} {rest:Cb} {i:Nat} {dn:Df} {k:C1} {A:AS} {rs:CT} {m:Nat} {t:Ret} {e:Eff} (ih:Cfg->C3) (hih: ∀c t,ih c=some t->Ev G c t) (hw:bL A.tm o.guard=some true) (he:ik G ih o (A.ctr+i) A=some e) (hok:OkS o.after e dn)
   (h:Ev G ⟨.inReg rest (i+1) (mb i e dn) true::k,A.app o.dst e,rs,m⟩ t):Ev G ⟨.inReg (o::rest) i dn true::k,A,rs,m⟩ t
 | panS {o:AOper} {rest:Cb} {i:Nat} {dn:Df} {k:C1} {A:AS} {rs:CT} {m:Nat} {t:Ret} {e:Eff} (ih:Cfg->C3) (hih: ∀c t,ih c=some t->Ev G c t) (hw:bL A.tm o.guard=some true) (he:iR G ih o (A.ctr+i) A=some e)
   (ht:ef {A with hp:=e.wr++A.hp} rs m e.res=some t):Ev G ⟨.inReg (o::rest) i dn false::k,A,rs,m⟩ t
 | panM {o:AOper} {rest:Cb} {i:Nat} {dn:Df} {k:C1} {A:AS} {rs:CT} {m:Nat} {t:Ret} {e:Eff} (ih:Cfg->C3) (esr:DF) (hih: ∀c t,ih c=some t->Ev G c t) (hw:bL A.tm o.guard=some true) (he:iR G ih o (A.ctr+i) {A with hp:=bW (wkR esr)++A.hp}=some e)
   (hd: ∀x∈dn,o.after.contains x.1=true/\jf (wkR esr) x.2.1=false/\jf (wkR esr) x.2.2.1=false) (hr:ou rs=true) (hq:rC G A.ctr i o.dst rest (i+1) A esr) (hn:d9 (wkR esr)=true)
   (ht:ef {A with hp:=e.wr++(bW (wkR esr)++A.hp)} rs m e.res=some t):Ev G ⟨.inReg (o::rest) i dn true::k,A,rs,m⟩ t
 |weak {todo:C1} {A A':AS} {rs:CT} {m:Nat} {t:Ret} (hr:o7 todo=true) (hc:A.ctr<=A'.ctr) (hw:Wk A A') (h:Ev G ⟨todo,A',rs,m⟩ t):Ev G ⟨todo,A,rs,m⟩ t
def ag (G:Nat->Fun)(f:Nat)(args:B7)(bs:C5)(t:Ret):Prop:=
 match G f with
 | .code F=>args.length=F.np/\Ev G (F.start args bs) t
 | .prim _ p=>p args bs=some t
 | .none=>False
theorem Vg {G:Nat->Fun}: ∀(n:Nat){c:Cfg}{t:Ret},run G n c=some t->Ev G c t
 |0,_,_,h=>by cases h
 |n+1,c,t,h=>by
  rw[WD] at h;exact .step (run G n) (λ_ _ k=>Vg n k) h
def cY (r:Cb)(es:List C6):nl:=(r.map (·.dst)).zip es
structure OneA (G:Nat->Fun)(Q:(Cfg->C3)->Prop)(c0 i:Nat)(o:AOper)(e:C6)(F:FSt):Prop where
 none_:e=none->dZ F o.guard=some false
 some_: ∀x,e=some x->dZ F o.guard=some true/\ ∃ih A,Q ih/\A.fs=F/\ik G ih o (c0+i) A=some x
theorem p9: ∀(es:nl)(L:Nat->Bool)(k:Nat)(F:FSt),(∀j,k<=j->L j=false)->FL es L k F=F
 | [],_,_,_,_=>rfl
 |(d,e)::r,L,k,F,h=>by simp only[FL];rw[h k (A7 k)];exact p9 r L (k+1) F λj hj=>h j (by omega)
theorem oq {G:Nat->Fun}{Q:(Cfg->C3)->Prop}{draw:Bool}{c0:Nat}: ∀(r:Cb)(i:Nat)(dn:Df)(A:AS)(es:List C6)(A':AS),nK G Q draw r i dn A es A'->A.ctr=c0->
  es.length=r.length/\(∀(j:Nat)(o:AOper)(e:C6),r[j]? =some o->es[j]? =some e->OneA G Q c0 (i+j) o e (FL (cY r es) (λx=>decide (x<i+j)) i A.fs))/\FL (cY r es) (λ_=>true) i A.fs=A'.fs
 | [],i,dn,A,[],A',h,_=>⟨rfl,λj o e h=>by simp at h,by rw[show A'=A from h];rfl⟩
 |o::r,i,dn,A,none::es,A',h,hc=>by
  obtain ⟨h1,h2⟩:=h;obtain ⟨q1,q2,q3⟩:=oq (c0:=c0) r (i+1) dn _ es A' h2 (by grind [AS.put_ctr])
  have hz:cY (o::r) (none::es)=(o.dst,none)::cY r es:=rfl;rw[hz];refine ⟨by simp[q1],λj o' e' ho he=>?_,?_⟩
  ·cases j with
   |zero=>
    obtain rfl:o=o':=by grind
    obtain rfl:none=e':=by grind
    rw[p9 _ _ _ _ (λj hj=>by grind)]
    exact ⟨λ_=>by grind [fa],λx hx=>by cases hx⟩
   |succ j=>
    have:=q2 j o' e' (by grind) (by grind)
    simp only[FL];rw[show decide (i<i+(j+1))=true from by simp,cond_true]
    rw[AS.fs_put] at this;rw[show i+(j+1)=i+1+j from by omega]
    exact this
  ·simp only[FL,cond_true]
   rw[<-q3,AS.fs_put];rfl
 |o::r,i,dn,A,some e::es,A',h,hc=>by
  obtain ⟨h1,⟨m,hm,he1⟩,_,h2⟩:=h;obtain ⟨q1,q2,q3⟩:=oq (c0:=c0) r (i+1) _ _ es A' h2 (by grind [AS.app_ctr])
  have hz:cY (o::r) (some e::es)=(o.dst,some e)::cY r es:=rfl;rw[hz];refine ⟨by simp[q1],λj o' e' ho he=>?_,?_⟩
  ·cases j with
   |zero=>
    obtain rfl:o=o':=by grind
    obtain rfl:some e=e':=by grind
    rw[p9 _ _ _ _ (λj hj=>by grind)]
    refine ⟨λq=>(by cases q),λx hx=>⟨by grind [fa],m,A,hm,rfl,?_⟩⟩
    grind
   |succ j=>
    have:=q2 j o' e' (by grind) (by grind)
    simp only[FL];rw[show decide (i<i+(j+1))=true from by simp,cond_true]
    rw[AS.fs_app] at this;rw[show i+(j+1)=i+1+j from by omega]
    exact this
  ·simp only[FL,cond_true]
   rw[<-q3,AS.fs_app];rfl
 | [],_,_,_,_::_,_,h,_=>h.elim
 |_::_,_,_,_,[],_,h,_=>h.elim
theorem tU {G:Nat->Fun}{c p:Nat}{d:CV}: ∀(r:Cb)(j:Nat)(A:AS)(es:DF),rC G c p d r j A es->
  es.length=r.length/\ ∀(k:Nat)(x:AOper)(y:CV×C6),r[k]? =some x->es[k]? =some y->
   ((x.after.contains p=true∨ ∃t,d=some t/\t∈looks x)/\y=(none,none))∨ ∃e,y=(x.dst,some e)/\e.rd= []/\ ∃A',A'.fs=FL es (λq=>decide (q<j+k)) j A.fs/\bL A'.tm x.guard=some true/\ik G (λ_=>none) x (c+(j+k)) A'=some e
 | [],_,_,[],_=>⟨rfl,λk x y h=>by simp at h⟩
 |x::r,j,A,(d',none)::es,h=>by
  obtain ⟨h1,rfl,h2⟩:=h;obtain ⟨q1,q2⟩:=tU r (j+1) A es h2;refine ⟨by simp[q1],λk x' y hx hy=>?_⟩
  cases k with
  |zero=>
   grind
  |succ k=>
   rcases q2 k x' y (by grind) (by grind) with q|⟨e,z1,z2,A',z3,z4,z5⟩
   ·grind
   ·refine .inr ⟨e,z1,z2,A',?_,z4,by grind⟩
    rw[z3];simp only[FL];rw[show decide (j<j+(k+1))=true from by simp,cond_true,show j+(k+1)=j+1+k from by omega]
    rfl
 |x::r,j,A,(d',some e)::es,h=>by
  obtain ⟨rfl,h1,h2,h3,h4⟩:=h;obtain ⟨q1,q2⟩:=tU r (j+1) (A.app x.dst e) es h4;refine ⟨by simp[q1],λk x' y hx hy=>?_⟩
  cases k with
  |zero=>
   grind [p9]
  |succ k=>
   rcases q2 k x' y (by grind) (by grind) with q|⟨e',z1,z2,A',z3,z4,z5⟩
   ·grind
   ·refine .inr ⟨e',z1,z2,A',?_,z4,by grind⟩
    rw[z3];simp only[FL];rw[show decide (j<j+(k+1))=true from by simp,cond_true,AS.fs_app,show j+(k+1)=j+1+k from by omega]
    rfl
theorem zK {k:Nat}: ∀{es:DF}{i:Nat}{y:CV×C6},es[i]? =some y->k∈dt y.2->k∈wkR es
 | [],_,_,h,_=>by simp at h
 |(d,e)::r,0,y,h,hk=>by
  obtain rfl:(d,e)=y:=by grind
  exact List.mem_append_left _ hk
 |(d,e)::r,i+1,y,h,hk=>List.mem_append_right _ (zK (es:=r) (i:=i) (by grind) hk)
theorem CI {k:Nat}: ∀{es:DF}{i j:Nat}{y z:CV×C6},(wkR es).Nodup->i<j->es[i]? =some y->es[j]? =some z->k∈dt y.2->k∉dt z.2
 | [],_,_,_,_,_,_,h,_,_=>by simp at h
 |(d,e)::r,0,j+1,y,z,hn,_,hy,hz,hk=>λhk'=>by
  obtain rfl:(d,e)=y:=by grind
  exact (List.nodup_append.1 hn).2.2 k hk k (zK (es:=r) (i:=j) (by grind) hk') rfl
 |(d,e)::r,i+1,j+1,y,z,hn,hij,hy,hz,hk=>CI (es:=r) (List.nodup_append.1 hn).2.1 (Nat.lt_of_succ_lt_succ hij) (by grind) (by grind) hk
def RegPanD (G:Nat->Fun)(Q:(Cfg->C3)->Prop)(rs:CT)(m:Nat)(t:Ret)(r:Cb)(i:Nat)(dn:Df)(A:AS):Prop:=
 ∃(init:Cb)(last:AOper)(rest:Cb)(es:List C6)(esr:DF)(A1:AS)(e:Eff),r=init++last::rest/\nK G Q true init i dn A es A1/\bL A1.tm last.guard=some true/\(∃ih,Q ih/\iR G ih last (A.ctr+(i+init.length)) {A1 with hp:=bW (wkR esr)++A1.hp}=some e)/\
  (∀x∈dn,last.after.contains x.1=true/\jf (wkR esr) x.2.1=false/\jf (wkR esr) x.2.2.1=false)/\(∀j e',es[j]? =some (some e')->(last.after.contains (i+j)=true∨(e'.rd= []/\wks e'.wr= []))/\jf (wkR esr) e'.rd=false/\jf (wkR esr) (wks e'.wr)=false)/\(ou rs=true/\rC G A.ctr (i+init.length) last.dst rest (i+init.length+1) A1 esr/\d9 (wkR esr)=true)/\ef {A1 with hp:=e.wr++(bW (wkR esr)++A1.hp)} rs m e.res=some t
theorem XT (a:Cc):jf a []=false:=by grind [jf]
section
variable {G:Nat->Fun}{Q:(Cfg->C3)->Prop}{rs:CT}{m:Nat}{t:Ret}{o:AOper}{r:Cb}{i:Nat}
theorem RegPanD.skip {dn:Df}{A:AS}(hw:bL A.tm o.guard=some false)(h:RegPanD G Q rs m t r (i+1) dn (A.put o.dst iP)):RegPanD G Q rs m t (o::r) i dn A:=by
 obtain ⟨init,last,rest,es,esr,A1,e,rfl,h2,h3,h4,h5,h6,h7,h8⟩:=h;rw[AS.put_ctr] at h4 h7;have hlen:i+(o::init).length=i+1+init.length:=by grind
 refine ⟨o::init,last,rest,none::es,esr,A1,e,rfl,⟨hw,h2⟩,h3,by grind,h5,λj e' he=>?_,by grind,h8⟩
 grind
theorem ue {a b:Cc}(h:jf a b=false): ∀k∈a,k∉b:=λk ha hb=>by
 grind [jf]
theorem I7 {after:Cc}{e:Eff}: ∀{dn:Df},OkS after e dn-> ∀(j:Nat)(rd wk:Cc)(sf:Dd),(j,rd,wk,sf)∈dn->j∈after∨((∀k∈wk,k∉e.rd/\k∉wks e.wr)/\ ∀k∈wks e.wr,k∉rd∨ ∀f,Sft sf k (hov e.wr f k))
 | [],_,_,_,_,_,h=>by cases h
 |(j0,rd0,wk0,sf0)::r,h,j,rd,wk,sf,hm=>by
  rcases AI.1 hm with q|q
  ·obtain ⟨rfl,rfl,rfl,rfl⟩:j=j0/\rd=rd0/\wk=wk0/\sf=sf0:=by grind
   rcases h.1 with q|⟨q1,q2,q3⟩
   all_goals grind [ue]
  ·exact I7 h.2 j rd wk sf q
theorem DM {e:Eff}{dn:Df}:(∀x∈dn,x∈mb i e dn)/\((i,e.rd,wks e.wr,e.sf)∈mb i e dn∨(e.rd= []/\wks e.wr= [])):=by
 grind [mb]
theorem RegPanD.cons {dn:Df}{A:AS}{e0:Eff}(hw:bL A.tm o.guard=some true)(he0: ∃ih,Q ih/\ik G ih o (A.ctr+i) A=some e0)(hok:OkS o.after e0 dn)(h:RegPanD G Q rs m t r (i+1) (mb i e0 dn) (A.app o.dst e0)):RegPanD G Q rs m t (o::r) i dn A:=by
 obtain ⟨init,last,rest,es,esr,A1,e,rfl,h2,h3,h4,h5,h6,h7,h8⟩:=h;rw[AS.app_ctr] at h4 h7;obtain ⟨m1,m2⟩:=DM (i:=i) (e:=e0) (dn:=dn);have hlen:i+(o::init).length=i+1+init.length:=by grind
 refine ⟨o::init,last,rest,some e0::es,esr,A1,e,rfl,⟨hw,he0,λ_=>hok,h2⟩,h3,by grind,λx hx=>h5 x (m1 x hx),λj e' he=>?_,by grind,h8⟩
 cases j<;>grind [XT]
end
theorem nq {G:Nat->Fun}{Q:(Cfg->C3)->Prop}: ∀(r:Cb)(i:Nat)(dn:Df)(A:AS)(es:List C6)(A':AS),nK G Q true r i dn A es A'->
  (∀(p:Nat)(rd wk:Cc)(sf:Dd),(p,rd,wk,sf)∈dn-> ∀(j:Nat)(o:AOper)(e:Eff),r[j]? =some o->es[j]? =some (some e)->p∈o.after∨((∀k∈wk,k∉e.rd/\k∉wks e.wr)/\ ∀k∈wks e.wr,k∉rd∨ ∀f,Sft sf k (hov e.wr f k)))/\
  ∀(j1 j2:Nat)(o2:AOper)(e1 e2:C6),j1<j2->r[j2]? =some o2->es[j1]? =some e1->es[j2]? =some e2->i+j1∈o2.after∨sn e1 e2
 | [],i,dn,A,[],A',_=>⟨λp rd wk sf _ j o e h=>by simp at h,λj1 j2 o2 e1 e2 _ h=>by simp at h⟩
 |o::r,i,dn,A,none::es,A',h=>by
  obtain ⟨_,h2⟩:=h;obtain ⟨q1,q2⟩:=nq r (i+1) dn _ es A' h2;refine ⟨λp rd wk sf hp j o' e' ho he=>?_,λj1 j2 o2 e1 e2 hj ho h1 h3=>?_⟩
  ·cases j<;>grind
  ·cases j2 with
   |zero=>omega
   |succ j2=>
    cases j1 with
    |zero=>
     obtain rfl:none=e1:=by grind
     exact .inr λk=>⟨λq=>by grind [dt],λ_=>.inl (by simp[rdO])⟩
    |succ j1=>
     grind
 |o::r,i,dn,A,some e::es,A',h=>by
  obtain ⟨_,_,hok,h2⟩:=h;have hok:=I7 (hok rfl);obtain ⟨m1,m2⟩:=DM (i:=i) (e:=e) (dn:=dn);obtain ⟨q1,q2⟩:=nq r (i+1) _ _ es A' h2;refine ⟨λp rd wk sf hp j o' e' ho he=>?_,λj1 j2 o2 e1 e2 hj ho h1 h3=>?_⟩
  ·cases j with
   |zero=>
    obtain rfl:o=o':=by grind
    obtain rfl:e=e':=by grind
    grind
   |succ j=>grind
  ·cases j2 with
   |zero=>omega
   |succ j2=>
    cases j1 with
    |zero=>
     obtain rfl:some e=e1:=by grind
     cases e2 with
     |none=>exact .inr λk=>⟨λ_=>⟨by simp[rdO],by simp[dt]⟩,λq=>by grind [dt]⟩
     |some e2=>
      rcases m2 with m2|⟨m2,m3⟩
      ·rcases q1 i e.rd (wks e.wr) e.sf m2 j2 o2 e2 (by grind) (by grind) with q|⟨p1,p2⟩
       ·grind
       ·exact .inr λk=>⟨λq=>p1 k q,λq=>p2 k q⟩
      ·exact .inr λk=>⟨λq=>by grind [dt],λ_=>.inl (by grind [rdO])⟩
    |succ j1=>
     grind
 | [],_,_,_,_::_,_,h=>h.elim
 |_::_,_,_,_,[],_,h=>h.elim
section
variable {P:Program} {C:Ctx} {U:Nat->Prop} {w:World} {S:Nat->Prop} {β:Nat->Place} {used:Nat->Nat->Prop} {N:Nums}
def yh (tmps:Array Value):ResultVar->Sem Value
 | .tmp t=>pure (tmps.getD t undef)
 | .cell a t=>do loadVar t (<-asAddr (tmps.getD a undef))
theorem Pq (fn:Func)(tmps:Array Value):results fn tmps=(do
  let vs<-fn.results.mapM (yh tmps)
  pure (if h:vs.size=1 then vs[0] else .tuple vs)):=by
 unfold results
 congr 1
theorem NB {A:AS}{a:Act}(h:RelC C U A.fs a w S β used): ∀(rv:List ResultVar)(rs:CT)(l:B7),dX (jq P) rv=some rs->qG A rs=some l->
  ∃vs:List Value,(rv.mapM (yh a.tmps)).run P w= .ok vs w/\vs.length=l.length/\ ∀i,i<l.length->V (aP C S β used (aY A.hp) w) (vs.getD i undef) (l.getD i .any)
 | [],rs,l,h1,h2=>by
  simp_all[dX,qG]
 |v::rv,rs,l,h1,h2=>by
  obtain ⟨r,rs',q1,q2,rfl⟩:=ql h1;simp only[qG] at h2;cases hr:vp A r with
  |none=>grind
  |some av=>
   cases hl:qG A rs' with
   |none=>grind
   |some l'=>
    rw[hr,hl] at h2;obtain rfl:=Ad h2;obtain ⟨vs,k1,k2,k3⟩:=NB h rv rs' l' q2 hl
    have one: ∃x,(yh a.tmps v).run P w= .ok x w/\V (aP C S β used (aY A.hp) w) x av:=by
     cases v with
     |tmp t=>
      simp only[jq] at q1;split at q1
      ·rename_i hlt
       obtain rfl:=Ad q1;obtain rfl:bI A.tm t=av:=by grind [vp]
       have:=h.tm t;rw[xY hlt] at this;exact ⟨_,rfl,this⟩
      grind
     |cell ad t=>
      simp only[jq] at q1;split at q1
      ·rename_i sz hsz
       split at q1
       ·rename_i h0
        obtain rfl:=Ad q1;simp only[vp] at hr;split at hr
        ·rename_i cs rr hcs
         have hne:cs≠ []:=by
          have h0:=h0.1
          rintro rfl
          cases sz<;>grind [fD]
         have htm:=h.tm ad;rw[xY h0.2] at htm;have hat:=zw h.hi htm hcs hne;obtain ⟨u,y1,y2⟩:=CZ hsz hat hr;obtain ⟨b,o,e1,_⟩:=hat.ex;refine ⟨u,?_,y2⟩
         grind [Instr.loadAt,Instr.sureAddr,yh,asAddr]
        grind
       grind
      grind
    obtain ⟨x,o1,o2⟩:=one;refine ⟨x::vs,?_,by simp[k2],λi hi=>?_⟩
    ·simp_all
    grind
theorem lG {A:AS}{a:Act}(h:RelC C U A.fs a w S β used){fn:Func}{rs:CT}(hrs:dX (jq P) fn.results.toList=some rs){av:AV}(hr:kw A rs=some av):
  ∃v,(results fn a.tmps).run P w= .ok v w/\V (aP C S β used (aY A.hp) w) v av:=by
 unfold kw at hr;cases hl:qG A rs with
 |none=>grind
 |some l=>
  obtain ⟨vs,k1,k2,k3⟩:=NB (P:=P) h _ rs l hrs hl
  have hrun:(results fn a.tmps).run P w= .ok (if h:vs.toArray.size=1 then vs.toArray[0] else .tuple vs.toArray) w:=by
   grind [Pq,Array.mapM_eq_mapM_toList,Sem.run_bind,Sem.run_map,Result.andThen_ok,Sem.run_pure]
  rw[hl] at hr;split at hr
  ·simp_all
  ·rename_i l' hne e
   obtain rfl:=Ad e;obtain rfl:=Ad hr
   have hlen:vs.toArray.size≠1:=by
    grind [List.length_eq_one_iff]
   refine ⟨.tuple vs.toArray,by grind,.tup _ _ (by grind) λi hi=>?_⟩
   simp_all
  grind
end
open Go.RowKit
section
variable {P:Program} {C:Ctx} {U:Nat->Prop} {w:World} {S:Nat->Prop} {β:Nat->Place} {used:Nat->Nat->Prop} {N:Nums}
theorem yC {hp:az}{φ:Nat->Nat->Tgt}{m:Nat}: ∀{K:Cc}{bs:Co},iW hp φ m K=some bs->bs.length=K.length/\ ∀(i k:Nat),K[i]? =some k-> ∃g b,aY hp k=some (g,b)/\bs[i]? =some (decide (k<m/\g=0),b.ren φ)
 | [],bs,h=>by grind [iW]
 |k::r,bs,h=>by
  simp only[iW] at h;split at h
  ·rename_i g b bs' h1 h2
   obtain rfl:=Ad h;obtain ⟨q1,q2⟩:=yC h2
   grind
  ·cases h
theorem ym {m:Nat}{N:Cc}{i:Nat}:(List.range m++N)[i]? =if i<m then some i else N[i-m]? :=by
 grind
theorem o8 {hp:az}{m:Nat}{r:AV}:(jm hp m r).Nodup/\ ∀k∈jm hp m r,m<=k:=by
 grind [jm,wo,eF]
section
variable {A:AS}(h:HI C U (aY A.hp) w S β used){v:Value}{rs:CT}{m:Nat}{t:Ret}{av:AV}
include h
theorem rX (hv:V (aP C S β used (aY A.hp) w) v av)(ht:rh A m av=some t): ∃S1 β1,RetC C m w v t S1 β1:=by
 unfold rh at ht;cases hq:(m==0&&av.pure) with
 |true=>
  rw[hq] at ht;obtain rfl:=Ad ht;simp only[At,beq_iff_eq] at hq;exact ⟨S,β,h.kept,h.s,h.keep,V.pure_env (E:=aP C S β used (aY A.hp) w) (E':=aP C S β (ij 0) (hpR []) w) (λ_ _ _ q=>q) rfl rfl hv hq.2,λk x hk=>by simp at hk,λk k' hk=>by simp at hk,λk x hk hx=>by simp at hx,by grind⟩
 |false=>
  rw[hq] at ht;dsimp only[cond] at ht;obtain ⟨bs,hb,rfl⟩:=map_some ht;obtain ⟨n1,n2⟩:=o8 (hp:=A.hp) (m:=m) (r:=av);generalize jm A.hp m av=K at hb n1 n2⊢;obtain ⟨b1,b2⟩:=yC hb;have hlen:bs.length=m+K.length:=by rw[b1];simp
  let key:Nat->Nat:=λi=>if i<m then i else K.getD (i-m) 0
  have hkey: ∀i,i<bs.length->(List.range m++K)[i]? =some (key i):=λi hi=>by
   grind
  have hk0: ∀i,i<m->key i=i:=λi hi=>by grind
  have hk1: ∀i,¬i<m->i<bs.length->K[i-m]? =some (key i):=λi hi hl=>by
   grind
  have hinjk: ∀i j,i<bs.length->j<bs.length->key i=key j->i=j:=λi j hi hj e=>by
   by_cases q1:i<m<;>by_cases q2:j<m
   ·grind
   ·grind
   ·grind
   grind [qk]
  have hφ:RenOk (aP C S β used (aY A.hp) w) (aP C S (λi=>β (key i)) (ij bs.length) (hpR bs) w) (wW A.hp m K):=by
   refine ⟨λ_ _ _ q=>q,rfl,rfl,λk g hu=>?_⟩
   unfold wW;cases hk:aY A.hp k with
   |none=>trivial
   |some x=>
    obtain ⟨g',b⟩:=x;dsimp only
    by_cases eg:g'=g
    ·subst eg
     rw[Ac rfl]
     have fin: ∀i,i<bs.length->key i=k->((aP C S (λi=>β (key i)) (ij bs.length) (hpR bs) w).used i 0/\ ∀p,(aP C S (λi=>β (key i)) (ij bs.length) (hpR bs) w).lv i 0=some p->(aP C S β used (aY A.hp) w).lv k g'=some p):=λi hi e=>by
      refine ⟨⟨hi,rfl⟩,λp hp=>?_⟩
      grind [fF,bA]
     by_cases hm:k<m
     ·rw[Ac hm]
      exact fin k (by omega) (hk0 k hm)
     ·rw[Aa hm]
      cases hi:idx k K with
      |none=>trivial
      |some i=>
       have hKi:=fH hi
       have hil:i<K.length:=by
        grind
       refine fin (m+i) (by omega) ?_
       have:=hk1 (m+i) (by omega) (by omega)
       rw[show m+i-m=i from by omega,hKi] at this
       grind
    grind
  have atk: ∀i x,bs[i]? =some x-> ∃g b,aY A.hp (key i)=some (g,b)/\x=(decide (key i<m/\g=0),b.ren (wW A.hp m K))/\i<bs.length:=λi x hx=>by
   have hi:i<bs.length:=by
    grind
   obtain ⟨g,b,q1,q2⟩:=b2 i _ (hkey i hi)
   grind
  refine ⟨S,λi=>β (key i),h.kept,h.s,h.keep,hv.ren hφ,λi x hx=>?_,λi j hi hj n1' n2' hbk=>?_,λi x hi hx hf=>?_,by grind⟩
  ·obtain ⟨g,b,q1,q2,_⟩:=atk i x hx
   obtain ⟨z1,z2,z3⟩:=h.at_ _ g b q1;rw[q2];exact ⟨z2,z3.ren hφ⟩
  ·dsimp only at hi hj
   obtain ⟨g,b,q1,_⟩:=b2 i _ (hkey i hi);obtain ⟨g',b',q2,_⟩:=b2 j _ (hkey j hj);exact hinjk i j hi hj (h.inj _ _ _ _ q1 q2 n1' n2' hbk)
  ·obtain ⟨g,b,q1,q2,_⟩:=atk i x hx
   rw[q2] at hf;have:key i<m/\g=0:=by grind
   obtain ⟨_,rfl⟩:=this;have:=h.pl _ _ q1
   grind
theorem nB (hav:kw A rs=some av)(hv:V (aP C S β used (aY A.hp) w) v av)(ht:fC A rs m=some t): ∃S1 β1,RetC C m w v t S1 β1:=by
 unfold fC at ht;rw[hav] at ht;exact rX h hv ht
end
theorem RetC.np {m:Nat}{v:Value}{t:Ret}{S1:Nat->Prop}{β1:Nat->Place}(h:RetC C m w v t S1 β1):dv t.r=none:=by
 cases hu:dv t.r with
 |none=>rfl
 |some a=>
  obtain ⟨ty,e⟩:=qc hu;have hv:=h.val;rw[e] at hv;cases hv with
  |ifc _ v' _ hv'=>
   obtain ⟨cs,_,_,hc⟩:=hv'.tup_inv;obtain ⟨_,hus,_⟩:=(hc 0 (by simp)).ref_inv
   exact absurd hus.2 (by decide)
end
def ny (P:Program)(N:Nums)(n:Nat):Item->AItem->Prop
 | .code c,.code a=>ce P N n c=some a
 | .code c,.inLoop a=> ∃c',c= .loop c'/\ce P N n c'=some a
 | .inLoop c,.inLoop a=>ce P N n c=some a
 | .inBlock i,.inBlock j=>i=j
 | .inScope _,.inScope=>True
 |_,_=>False
def vc (P:Program)(N:Nums)(n:Nat):List Item->C1->Prop
 | [],[]=>True
 |i::r,a::s=>ny P N n i a/\vc P N n r s
 |_,_=>False
theorem BU {P:Program}{N:Nums}{n id:Nat}: ∀{k:List Item}{ak ak':C1},vc P N n k ak->qB id ak=some ak'-> ∃k',exitTo id k=some k'/\vc P N n k' ak'
 | [],[],_,_,h=>by cases h
 |i::r,a::s,ak',⟨h1,h2⟩,h=>by
  cases a with
  |inBlock j=>
   cases i<;>simp only[ny] at h1
   subst h1;simp only[qB] at h;split at h
   ·grind [exitTo]
   ·rename_i e
    obtain ⟨k',q1,q2⟩:=BU h2 h
    grind [exitTo]
  |code|inLoop|inScope=>
   obtain ⟨k',q1,q2⟩:=BU (id:=id) h2 (by simpa[qB] using h)
   refine ⟨k',?_,q2⟩;cases i<;>simp only[ny] at h1<;>simpa[exitTo] using q1
  |inReg=>grind [ny]
 | [],_::_,_,h,_=>h.elim
 |_::_,[],_,h,_=>h.elim
section
variable {P:Program}{b:Frame}{a:Act}{k:List Item}{cs:List Frame}{w:World}{c:Code}
theorem LY:step P (lone (b.at a (.code (.scope c)::k)) cs w)= .next (lone (b.at a (.code c:: .inScope c::k)) cs w):=
 step_lone_go (by simp[stepG,stepG.exec,Frame.at])
theorem Ec:step P (lone (b.at a (.inScope c::k)) cs w)= .next (lone (b.at a k) cs w):=
 step_lone_go (by simp[stepG,stepG.exec,Frame.at])
end
theorem Bh: ∀(seen:Cc)(l:Cf)(t:Nat),t∉seen->bI (nub seen l) t=bI l t
 |_,[],_,_=>rfl
 |seen,(u,v)::r,t,h=>by
  simp only[nub];cases hs:seen.contains u with
  |true=>
   have hne:u≠t:=λe=>h (e▸by grind)
   simp only[cond_true,bI,Aa hne];exact Bh seen r t h
  |false=>
   simp only[cond_false,bI]
   by_cases e:u=t
   ·grind
   ·rw[Aa e,Aa e]
    exact Bh (u::seen) r t (by grind)
theorem wY: ∀(seen:Cc)(l:az)(t:Nat),t∉seen->aY (Jc seen l) t=aY l t
 |_,[],_,_=>rfl
 |seen,(u,v)::r,t,h=>by
  simp only[Jc];cases hs:seen.contains u with
  |true=>
   have hne:u≠t:=λe=>h (e▸by grind)
   simp only[cond_true,aY,Aa hne];exact wY seen r t h
  |false=>
   simp only[cond_false,aY]
   by_cases e:u=t
   ·grind
   ·rw[Aa e,Aa e]
    exact wY (u::seen) r t (by grind)
theorem AS.nub_fs (A:AS):A.nub.fs=A.fs:=FSt.ext' (λt=>Bh [] A.tm t (by simp)) λk=>wY [] A.hp k (by simp)
theorem zW: ∀(l:B7)(i t:Nat),bI (tms i l) t=if i<=t then l.getD (t-i) .any else .any
 | [],i,t=>by simp[tms,bI]
 |a::r,i,t=>by
  simp only[tms,bI]
  by_cases e:i=t
  ·subst e;simp
  ·rw[Aa e,zW r (i+1) t]
   grind
theorem JQ: ∀(l:C5)(i t:Nat),aY (jM i l) t=if i<=t then (l[t-i]?).map (λb=>(0,b)) else none
 | [],i,t=>by simp[jM,aY]
 |a::r,i,t=>by
  simp only[jM,aY]
  by_cases e:i=t
  ·subst e;simp
  ·rw[Aa e,JQ r (i+1) t]
   grind
open Go.RowKit
def GOk (P:Program)(N:Nums)(G:Nat->Fun):Prop:= ∀f,match G f with
 | .code F=> ∃fn,P.funcs[N.num f]? =some fn/\ly P N F.raw fn=some F
 | .prim _ p=>(∃fn,P.funcs[N.num f]? =some fn/\fn.body.isSome=true/\fn.name≠ "runtime.NumGoroutine")/\ ∀args bs t,p args bs=some t->fq P N f args bs t
 | .none=>True
def wO:World->List Addr->List (List Value)->World
 |w,p::ps,ws::wss=>wO (w.setCells p.block p.off ws) ps wss
 |w,_,_=>w
def Lx:World->List Addr->List (List Value)->Prop
 |w,p::ps,ws::wss=>p.spot=none/\(∀j,j<ws.length->(w.cell? ⟨p.block,p.off+j,none⟩).isSome=true/\w.frozen? ⟨p.block,p.off+j,none⟩=false)/\Lx (w.setCells p.block p.off ws) ps wss
 |_,[],[]=>True
 |_,_,_=>False
def Vss (E:Env):List (List Value)->B6->Prop
 |ws::wss,cs::css=>ws.length=cs.length/\(∀j,j<cs.length->(ws.getD j undef).oneCell'=true/\V E (ws.getD j undef) (cs.getD j .any))/\Vss E wss css
 | [],[]=>True
 |_,_=>False
def more (w:World)(os:Array Obj):World:= {w with heap:=w.heap++os}
section
variable {C:Ctx}{U:Nat->Prop}
theorem HI.more {hp:HF}{w:World}{S:Nat->Prop}{β:Nat->Place}{used:Nat->Nat->Prop}(h:HI C U hp w S β used)(os:Array Obj):HI C U hp (more w os) S β used/\(aP C S β used hp w).le (aP C S β used hp (Go.AM.more w os)):=by
 have hb: ∀b,b<w.heap.size->(Go.AM.more w os).heap[b]? =w.heap[b]? :=λb hb=>by
  show (w.heap++os)[b]? =_
  grind
 have hz:w.heap.size<=(Go.AM.more w os).heap.size:=by grind
 refine (HI.change (w':=Go.AM.more w os) (S':=S) (β':=β) (used':=used) (hp':=hp) (U':=U) h ⟨h.kept.os,h.kept.tape,h.kept.output,AJ h.kept.size hz,λb h1 h2=>(hb b (BS h1 h.kept.size)).trans (h.kept.block b h1 h2)⟩ (λb o u hs hc=>⟨hs,by rw[((SameB.of_block (hb b (rz hc))).at o).1];exact hc⟩) (λ_ _ x=>x) (λk g b hk _=>⟨⟨b,hk⟩,rfl⟩) (λb hs=>⟨BS (h.s b hs).1 hz,(h.s b hs).2⟩) h.keep h.us (λk g b hk=>.inl ⟨hk,rfl,λhn=>?_⟩) h.inj h.pl)
 have:=((h.at_ k g b hk).2.1 hn).1;exact ⟨this,SameB.of_block (hb _ (h.s _ this).1)⟩
theorem RelC.more {F:FSt}{a:Act}{w:World}{S:Nat->Prop}{β:Nat->Place}{used:Nat->Nat->Prop}(h:RelC C U F a w S β used)(os:Array Obj):RelC C U F a (Go.AM.more w os) S β used:=
 ⟨(h.hi.more os).1,h.size,h.defers,λt=>(h.tm t).mono (h.hi.more os).2⟩
end
structure DSem (P:Program)(C:Ctx)(fn:Func)(sp:AV->Option B6):Prop where
 ret: ∀(tmps:Array Value)(w:World)(R:Ending->World->Prop),(∀os,∃v,(results fn tmps).run P (more w os)= .ok v (more w os)/\R (.returned v) (more w os))->Leaves P fn tmps R C.dfr .returning w
 pan: ∀(E:Env)(v:Value)(a:AV)(css:B6),E.num=C.num->E.tnum=C.tnum->V E v a->sp a=some css-> ∃wss,Vss E wss css/\ ∀(tmps:Array Value)(w:World)(R:Ending->World->Prop)(fv:Fn)(ps:List Addr),C.dval= .func fv #[] (ps.map λp=>Value.pointer (some p)).toArray->Lx w ps wss->
  (∀os,∃v,(results fn tmps).run P (more (wO w ps wss) os)= .ok v (more (wO w ps wss) os)/\R (.returned v) (more (wO w ps wss) os))->Leaves P fn tmps R C.dfr (.panicking [{v:=v,recovered:=false}]) w
section
variable (P:Program)(N:Nums)
def Sy (C:Ctx)(fn:Func)(rs:CT):Prop:=dX (jq P) fn.results.toList=some (fQ rs)/\match rs with
 | .dfd sp::_=>DSem P C fn sp
 |_=>C.dfr= []
def sD (cfg:Cfg)(t:Ret):Prop:=
 ∀(C:Ctx)(todo:List Item)(a:Act)(w:World)(b:Frame)(cs:List Frame)(fn:Func),
  vc P N C.n todo cfg.todo->ew N C->C.tnum=N.tnum->0<cfg.A.ctr->Rel C (λg=>g<cfg.A.ctr) cfg.A.fs a w->
  P.funcs[b.fn]? =some fn->Sy P C fn cfg.rs->b.kind= .normal->
  ∃v w' fr S1 β1,RetC C cfg.m w' v (unR t) S1 β1/\Steps P (lone (b.at a todo) cs w) (lone fr cs w')/\fr.fn=b.fn/\fr.leaving P w' (iA t.r v)
def gu (ih:Cfg->C3):Prop:= ∀c t,ih c=some t->o7 c.todo=true->sD P N c t
end
section
variable {P:Program} {N:Nums} {G:Nat->Fun}
section
variable {raw:Bool}{fn:Func}{F:AFunc}
theorem ox (h:ly P N raw fn=some F):
  ∃c,fn.body=some c/\ce P N fn.ntmps c=some F.body/\dX (jq P) fn.results.toList=some F.results/\(fn.params.size+fn.nfree<=fn.ntmps/\fn.ntmps<=D0)/\F.np=fn.params.size+fn.nfree/\fn.name≠ "runtime.NumGoroutine" :=by
 grind [ly]
theorem Ql: ∀{l:List ResultVar}{rs:CT},dX (jq P) l=some rs->fQ rs=rs/\ ∀sp r,rs≠ .dfd sp::r
 | [], rs, h => by obtain rfl: []=rs:=by grind [dX]
                   exact ⟨rfl,λ_ _ q=>by cases q⟩
 |v::l,rs,h=>by
  obtain ⟨r,rs',q1,q2,rfl⟩:=ql h;cases r with
  |t n=>exact ⟨rfl,λ_ _ q=>by cases q⟩
  |cell a sz=>exact ⟨rfl,λ_ _ q=>by cases q⟩
  |dfd sp=>
   exfalso;cases v<;>grind [jq]
theorem Pg (h:ly P N raw fn=some F){C:Ctx}(hd:C.dfr= []):Sy P C fn F.results:=by
 obtain ⟨c,_,_,h3,_⟩:=ox h;obtain ⟨q1,q2⟩:=Ql h3;refine ⟨by grind,?_⟩
 grind
end
theorem CM {C:Ctx}{N:Nums}{vs:Array Value}{args:B7}{bs:C5}{n:Nat}(hent:Entry C N vs args bs)(h4:args.length<=n/\n<=D0):
  Rel {C with n:=n,dfr:=[],dval:=undef} (λg=>g<1) (AS.mk (tms 0 args) (jM 0 bs) 1).fs {tmps:=vs++Array.replicate (n-vs.size) undef,defers:=[]} C.W0:=by
 have hi:=hent.hi
 have hhp:aY (jM 0 bs)=hpB bs:=by
  funext k
  rw[JQ,Ac (Nat.zero_le k),Nat.sub_zero];rfl
 refine ⟨C.S0,C.π,ij bs.length,?_,?_,rfl,λt=>?_⟩
 ·show HI {C with n:=n,dfr:=[],dval:=undef} _ (aY (jM 0 bs)) C.W0 C.S0 C.π (ij bs.length)
  rw[hhp];exact ⟨hi.kept,hi.s,hi.s0,hi.keep,λk g u=>by rw[hi.us k g u];omega,hi.at_,hi.inj,hi.pl⟩
 ·refine ⟨?_,h4.2⟩
  show (vs++Array.replicate (n-vs.size) undef).size=n
  have:=hent.size
  grind
 ·have hd0:t=D0->args.getD t .any= .any:=λe=>by grind
  show V (aP {C with n:=n,dfr:=[],dval:=undef} C.S0 C.π (ij bs.length) (aY (jM 0 bs)) C.W0) (if t=D0 then undef else (vs++Array.replicate (n-vs.size) undef).getD t undef) (bI (tms 0 args) t)
  rw[hhp,zW,Ac (Nat.zero_le t),Nat.sub_zero]
  by_cases hq0:t=D0
  ·rw[hd0 hq0];exact .any _
  rw[Aa hq0]
  by_cases ht:t<args.length
  ·have hv:=hent.at_ t ht
   have hsz:=hent.size
   have:(vs++Array.replicate (n-vs.size) undef).getD t undef=vs.getD t undef:=by
    simp_all[Array.getElem?_append_left]
   rw[this];exact hv
  ·have:args.getD t .any= .any:=by grind
   rw[this];exact .any _
theorem wx {P:Program}{m m':Machine}{r:AV}{v:Value}(h:Steps P m m'):Comes P m m' (iA r v):=by
 unfold iA;split<;>exact h
theorem Bt (hG:GOk P N G){f:Nat}{F:AFunc}(hf:G f= .code F){args:B7}{bs:C5}{t:Ret}(hl:args.length=F.np)(hs:sD P N (F.start args bs) t):fq P N f args bs t:=by
 intro C vs hent cs;have hg:=hG f;rw[hf] at hg;obtain ⟨fn,hfn,hcf⟩:=hg;obtain ⟨c,h1,h2,h3,h4,h5,h6⟩:=ox hcf
 let C':Ctx:= {C with n:=fn.ntmps,dfr:=[],dval:=undef}
 let b:Frame:= { (default:Frame) with fn:=N.num f,kind:=.normal}
 let a:Act:= {tmps:=vs++Array.replicate (fn.ntmps-vs.size) undef,defers:=[]}
 have henter:Frame.enter P (N.num f) vs .normal=b.at a [.code c]:=by
  grind [Frame.enter,Frame.at]
 have hrel:Rel C' (λg=>g<1) (F.start args bs).A.fs a C.W0:=CM hent ⟨by omega,h4.2⟩
 obtain ⟨v,w',fr,S1,β1,hret,hst,hfr,hlv⟩:=hs C' [.code c] a C.W0 b cs fn ⟨h2,trivial⟩ hent.num hent.tnum (Nat.zero_lt_one) hrel hfn (Pg hcf rfl) rfl;refine ⟨iA t.r v,w',fr,⟨v,rfl,S1,β1,⟨hret.kept,hret.s,hret.keep,hret.val,hret.at_,hret.inj,hret.pl,hret.len⟩⟩,?_,hfr,hlv⟩
 grind [wx]
theorem R8 {hg:Nat->Cl}{c:CIn}{g dst:Nat}{t:Ret}{e:Eff}(h:ck hg c g dst t=some e):e.sf= []:=by
 grind [ck]
section
variable (hG:GOk P N G){C:Ctx}{ops:Array Oper}{i g:Nat}{o:Oper}{ao ao':AOper}(hr:OpRel P N C.n ops i o ao)(hop:ao'.op=ao.op)(hdst:ao'.dst=ao.dst)(hn:ew N C)(ht:C.tnum=N.tnum)(hg0:g≠0){ih:Cfg->C3}(hih:gu P N ih){A:AS}{e:Eff}
include hG hr hop hdst hn ht hg0 hih
theorem nf (he:ik G ih ao' g A=some e):
  ∀F',(∀t∈looks ao,F'.tm t=A.fs.tm t)->(∀k∈e.rd,F'.hp k=A.fs.hp k∨Sft e.sf k (F'.hp k))->LC P C o g ao.dst e F':=by
 intro F' hF1 hF2;have hvals:=DJ hF1;rw[zh] at hvals;unfold ik at he;rw[hop] at he;split at he
 ·rename_i f args hao
  rw[hao] at hvals;simp only[AOp.opds,An,List.cons.injEq] at hvals;obtain ⟨hv1,hv2⟩:=hvals;simp only[An] at he;unfold oM at he;split at he
  ·rename_i fi cap args' heq
   obtain ⟨hq1,hq2⟩:=List.cons.inj heq;cases hci:fg (aY A.hp) (G (bV fi)).raw (bif isB fi then cap++args' else args'++cap) with
   |none=>grind
   |some c=>
    rw[hci] at he;dsimp only at he;have hfo:evF F' f= .fn fi cap:=by grind
    have hargs:args.map (evF F')=args':=by grind
    have fin: ∀t,fq P N (bV fi) c.args c.bs t->(∃fn,P.funcs[N.num (bV fi)]? =some fn/\fn.body.isSome=true/\fn.name≠ "runtime.NumGoroutine")->ck (aY A.hp) c g (ao'.dst.getD 0) t=some e->LC P C o g ao.dst e F':=by
     rintro t hsem ⟨fn,hfn,hb,hname⟩ hco
     have hrd:=Sa hco;have hag: ∀k∈c.fz++c.D,aY A.hp k=F'.hp k:=λk hk=>((hF2 k (by grind)).resolve_right λq=>by rw[R8 hco] at q;exact q.nil).symm
     have hci':=KN hci hag;rw[<-hargs] at hci';exact Vr hr hn ht hao hg0 hfo hci' hsem hfn hb hname (FE hco hag)
    cases hGf:G (bV fi) with
    |none=>grind
    |code F=>
     rw[hGf] at he;dsimp only at he;split at he
     ·rename_i hl
      cases hrn:ih (F.start c.args c.bs) with
      |none=>grind
      |some t=>
       rw[hrn] at he;have hg:=hG (bV fi);rw[hGf] at hg;obtain ⟨fn,hfn,hcf⟩:=hg;obtain ⟨cc,k1,_,_,_,_,k6⟩:=ox hcf;exact fin t (Bt hG hGf hl (hih _ _ hrn rfl)) ⟨fn,hfn,by grind,k6⟩ he
     grind
    |prim raw p=>
     rw[hGf] at he;dsimp only at he;cases hp:p c.args c.bs with
     |none=>grind
     |some t=>
      rw[hp] at he;have hg:=hG (bV fi)
      grind
  grind
 ·rename_i hnc
  have he':=VY (hg':=F'.hp) he hF2
  grind [adw]
theorem Db (he:iR G ih ao' g A=some e): ∀F',(∀t∈looks ao,F'.tm t=A.fs.tm t)->F'.hp=A.fs.hp->vO P C o g e F':=by
 intro F' hF1 hF2;have hvals:=DJ hF1;rw[zh] at hvals;have hF2':aY A.hp=F'.hp:=hF2.symm;unfold iR at he;rw[hop] at he;split at he
 ·rename_i f args hao
  rw[hao] at hvals;simp only[AOp.opds] at hvals;rw[<-hvals,hF2'] at he;simp only[An] at he;unfold nH at he;split at he
  ·rename_i fi cap args' heq
   obtain ⟨hq1,hq2⟩:=List.cons.inj heq;cases hci:fg F'.hp (G (bV fi)).raw (bif isB fi then cap++args' else args'++cap) with
   |none=>grind
   |some c=>
    rw[hci] at he;dsimp only at he;rw[<-hq2] at hci
    have fin: ∀t,fq P N (bV fi) c.args c.bs t->(∃fn,P.funcs[N.num (bV fi)]? =some fn/\fn.body.isSome=true/\fn.name≠ "runtime.NumGoroutine")->jG F'.hp c g (ao'.dst.getD 0) t=some e->vO P C o g e F':=by
     grind [RZ]
    cases hGf:G (bV fi) with
    |none=>grind
    |code F=>
     rw[hGf] at he;dsimp only at he;split at he
     ·rename_i hl
      cases hrn:ih (F.start c.args c.bs) with
      |none=>grind
      |some t=>
       rw[hrn] at he;have hg:=hG (bV fi);rw[hGf] at hg;obtain ⟨fn,hfn,hcf⟩:=hg;obtain ⟨cc,k1,_,_,_,_,k6⟩:=ox hcf;exact fin t (Bt hG hGf hl (hih _ _ hrn rfl)) ⟨fn,hfn,by grind,k6⟩ he
     grind
    |prim raw p=>
     rw[hGf] at he;dsimp only at he;cases hp:p c.args c.bs with
     |none=>grind
     |some t=>
      rw[hp] at he;have hg:=hG (bV fi)
      grind
  grind
 all_goals grind [AOp.opds,RY]
theorem Xl (he:iR G ih ao' g A=some e):vO P C o g e A.fs:=Db hG hr hop hdst hn ht hg0 hih he A.fs (λ_ _=>rfl) rfl
end
theorem gm {n:Nat}{ops:Array Oper}: ∀{os:List Oper}{i:Nat}{l:Cb},fp P N n ops i os=some l->l.length=os.length/\ ∀(j:Nat)(o:Oper)(ao:AOper),os[j]? =some o->l[j]? =some ao->OpRel P N n ops (i+j) o ao
 | [],i,l,h=>by grind [fp]
 |o::os,i,l,h=>by
  simp only[fp] at h;split at h
  ·rename_i a l' h1 h2
   obtain rfl:=Ad h;obtain ⟨q1,q2⟩:=gm h2;refine ⟨by simp[q1],λj o' ao ho ha=>?_⟩
   cases j with
   |succ j=>
    grind
   |zero=>
    obtain rfl:o=o':=by grind
    obtain rfl:a=ao:=by grind
    unfold Km at h1;split at h1
    ·rename_i op gd g1 g2
     split at h1
     ·rename_i hq
      obtain rfl:=Ad h1;refine ⟨g1,rfl,λd hd=>?_,?_,λe he hb=>?_,λj hj=>?_⟩
      ·grind [abz]
      ·dsimp only
       cases hg:o.guard<;>grind [DU]
      ·exact Bd.2 ⟨e,List.mem_filter.2 ⟨by grind,hb⟩,rfl⟩
      ·obtain ⟨e,he,rfl⟩:=Bd.1 hj
       grind
     grind
    grind
  ·cases h
theorem Nl {x y:AOper}(h:Lq x y=true):iB x y:=by
 unfold Lq at h;simp only[At] at h;refine ⟨λt ht=>?_,λt ht=>?_⟩
 all_goals grind
theorem rZ: ∀{l:Cb}{k:Nat},vq k l=true-> ∀(i j:Nat)(ai aj:AOper),i<j->l[i]? =some ai->l[j]? =some aj->k+i∈aj.after∨iB ai aj
 | [],_,_,i,_,_,_,_,h,_=>by simp at h
 |o::r,k,h,i,j,ai,aj,hij,hi,hj=>by
  simp only[vq,At] at h;cases j with
  |zero=>omega
  |succ j=>
   cases i with
   |zero=>
    grind [Nl]
   |succ i=>
    have:=rZ h.2 i j ai aj (by omega) (by grind) (by grind)
    grind
theorem lg (φ:Nat->Nat->Tgt): ∀(l:Cf)(t:Nat),bI (jt φ l) t=(bI l t).ren φ:=by
 intro z0;induction z0<;>grind [jt,bI,AV.ren]
theorem jJ (φ:Nat->Nat->Tgt): ∀(l:az)(k:Nat),aY (renH φ l) k=(aY l k).map λx=>(x.1,x.2.ren φ)
 | [],k=>rfl
 |(u,some (g,b))::r,k=>by
  simp only[renH,aY];split
  ·rfl
  ·exact jJ φ r k
 |(u,none)::r,k=>by
  simp only[renH,aY];split
  ·rfl
  ·exact jJ φ r k
section
variable {C:Ctx}{U:Nat->Prop}
theorem HI.renH {hp hp':HF}{w:World}{S S':Nat->Prop}{β:Nat->Place}{used:Nat->Nat->Prop}{φ:Nat->Nat->Tgt}(h':HI C U hp' w S' β used)(h:HI C U hp w S β used)(r:RenOk (aP C S β used hp w) (aP C S' β used hp' w) φ)(hsub: ∀k x,hp' k=some x->hp k=some x):
  aP C S' β used (λk=>(hp' k).map λx=>(x.1,x.2.ren φ)) w=aP C S' β used hp' w/\
  HI C U (λk=>(hp' k).map λx=>(x.1,x.2.ren φ)) w S' β used:=by
 have he:aP C S' β used (λk=>(hp' k).map λx=>(x.1,x.2.ren φ)) w=aP C S' β used hp' w:=by
  grind [aP]
 refine ⟨he,h'.kept,h'.s,h'.s0,h'.keep,h'.us,λk g b hk=>?_,λk k' x x' hk hk'=>?_,λk b hk=>?_⟩
 ·obtain ⟨x,hx,e⟩:=map_some hk
  obtain ⟨g',b'⟩:=x;obtain ⟨rfl,rfl⟩:g'=g/\b'.ren φ=b:=by grind
  obtain ⟨q1,q2,q3⟩:=h'.at_ k g' b' hx;refine ⟨q1,q2,?_⟩;rw[he];exact BlkOk.ren r (h.at_ k g' b' (hsub _ _ hx)).2.2
 ·obtain ⟨y,hy,_⟩:=map_some hk
  obtain ⟨y',hy',_⟩:=map_some hk';exact h'.inj k k' y y' hy hy'
 ·obtain ⟨x,hx,e⟩:=map_some hk
  obtain ⟨g',b'⟩:=x;obtain ⟨rfl,rfl⟩:g'=0/\b'.ren φ=b:=by grind
  exact h'.pl k b' hx
theorem Rel.frz {A:AS}{a:Act}{w:World}(h:Rel C U A.fs a w)(D:Cc):Rel C U (A.frz D).fs a w:=by
 obtain ⟨S,β,used,hR⟩:=h;have hd:=hR.hi.drop D;have hf:=hR.hi.frz D;dsimp only at hd hf
 have hren:RenOk (aP C S β used A.fs.hp w) _ (qm (aY A.hp) D):=⟨hf.ro,hf.num,hf.tnum,λk g u=>by
  unfold qm;cases hc:D.contains k with
  |true=>exact hf.at_ k g u
  |false=>exact ⟨u,λp hp=>hd.2.lv k g p u hp⟩⟩
 have hsub: ∀k x,dK A.fs.hp D k=some x->A.fs.hp k=some x:=λk x hx=>by
  grind [dK]
 obtain ⟨e1,e2⟩:=HI.renH hd.1 hR.hi hren hsub
 have hhp:(A.frz D).fs.hp=λk=>(dK A.fs.hp D k).map λx=>(x.1,x.2.ren (qm (aY A.hp) D)):=by
  show aY (bW D++_)=_
  rw[gX,i7]
  funext k
  unfold dK;split
  ·rfl
  ·exact jJ _ _ _
 refine ⟨_,β,used,by rw[hhp];exact e2,hR.size,hR.defers,λt=>?_⟩
 rw[hhp,e1];show V _ _ (bI (jt _ _) t)
 rw[lg];exact (hR.tm t).ren hren
end
theorem GH (hG:GOk P N G){C:Ctx}{ops:Array Oper}{aops:Cb}{c0:Nat}(hc0:0<c0)(hn:ew N C)(ht:C.tnum=N.tnum)(hl:aops.length=ops.size)(hrel: ∀i o ao,ops[i]? =some o->aops[i]? =some ao-> ∃al,OpRel P N C.n ops i o al/\ao.op=al.op/\ao.dst=al.dst/\ao.guard=al.guard){A':AS}{Q:Exit->Act->World->Prop}(hQ: ∀a w,Rel C (fj c0 λj=>decide (j<ops.size)) A'.fs a w->Q .normal a w):
  ∀(r:Cb)(i:Nat)(A:AS)(a:Act)(w:World),aops.drop i=r->A.ctr=c0->i+r.length=ops.size->RegSeq G (gu P N) r i A A'->Rel C (fj c0 λj=>decide (j<i)) A.fs a w->wpOps P ops Q (List.range' i r.length) a w
 | [],i,A,a,w,_,_,hi,hs,hR=>by
  obtain rfl:i=ops.size:=by grind
  exact hQ a w (hs.2 _ _ _ _ hR)
 |ao::r,i,A,a,w,hd,hc,hi,hs,hR=>by
  have hlt:i<ops.size:=by grind
  have ho:ops[i]? =some ops[i]:=by simp[hlt]
  generalize ops[i]=o at ho
  have ha:aops[i]? =some ao:=by
   have:(aops.drop i)[0]? =some ao:=by grind
   grind
  obtain ⟨al,hrl,x1,x2,x3⟩:=hrel i o ao ho ha;have hd':aops.drop (i+1)=r:=by rw[<-List.drop_drop,hd];rfl
  have hU: ∀g,Or1 (fj c0 λj=>decide (j<i)) (c0+i) g->fj c0 (λj=>decide (j<i+1)) g:=by
   rintro g ((hg|⟨j,hj,rfl⟩)|rfl)
   ·exact .inl hg
   ·exact .inr ⟨j,by grind,rfl⟩
   ·exact .inr ⟨i,by simp,rfl⟩
  rw[Ar,List.range'_succ,wpOps_cons];unfold wpOp;simp only[ho];obtain ⟨A0,hA0,hs⟩:=hs;have hR:=hA0.2 _ _ _ _ hR;have hc0':A0.ctr=c0:=hA0.1.trans hc;rcases hs with ⟨h1,h2⟩|⟨A1,e,hA1,hw,⟨ih,hih,he⟩,h2⟩
  ·rw[dQ hR hrl (by rw[<-x3,fa];exact h1)]
   simp only[AR,if_false];refine GH hG hc0 hn ht hl hrel hQ r (i+1) (A0.put ao.dst iP) _ _ hd' (by grind [AS.put_ctr]) (by grind) h2 ?_
   rw[AS.fs_put,<-hrl.dst,<-x2];exact (hR.put ao.dst (λd hd=>hrl.bd d (by rw[<-hrl.dst,<-x2];exact hd))).wide λy hy=>hU y (.inl hy)
  ·rw[dQ hR hrl (by rw[<-x3,fa];exact hw)]
   simp only[if_true]
   have hR1:Rel C (fj c0 λj=>decide (j<i)) A1.fs a w:=by
    exact hA1.2 _ _ _ _ hR
   have hc1:A1.ctr=c0:=hA1.1.trans hc0';rw[hc] at he;have hdo:=nf hG hrl x1 x2 hn ht (by omega) hih he A1.fs (λ_ _=>rfl) (λ_ _=>.inl rfl)
   refine .inl (hdo _ a w _ Q ?_ hR1 λa' w' hR'=>?_)
   ·rintro (hg|⟨j,hj,hg⟩)
    all_goals grind
   ·refine GH hG hc0 hn ht hl hrel hQ r (i+1) (A1.app ao.dst e) _ _ hd' (by grind [AS.app_ctr]) (by grind) h2 ?_
    rw[AS.fs_app,x2];exact hR'.wide hU
theorem Ae (hG:GOk P N G){C:Ctx}{ops:Array Oper}{aops:Cb}{c0:Nat}(hc0:0<c0)(hn:ew N C)(ht:C.tnum=N.tnum)(hl:aops.length=ops.size)(hrel: ∀i o ao,ops[i]? =some o->aops[i]? =some ao-> ∃al,OpRel P N C.n ops i o al/\ao.op=al.op/\ao.dst=al.dst/\ao.guard=al.guard){rs:CT}{m:Nat}{t:Ret}{Q:Exit->Act->World->Prop}(hQ: ∀a w A v x S β used U,RelC C U A.fs a w S β used->V (aP C S β used A.fs.hp w) v x->ef A rs m x=some t->Q (.panic [{v:=v,recovered:=false}]) a w):
  ∀(r:Cb)(i:Nat)(A:AS)(a:Act)(w:World),aops.drop i=r->A.ctr=c0->i+r.length=ops.size->RegPan G (gu P N) rs m t r i A->Rel C (fj c0 λj=>decide (j<i)) A.fs a w->wpOps P ops Q (List.range' i r.length) a w
 | [],i,A,a,w,_,_,hi,hs,hR=>hs.elim
 |ao::r,i,A,a,w,hd,hc,hi,hs,hR=>by
  have hlt:i<ops.size:=by grind
  have ho:ops[i]? =some ops[i]:=by simp[hlt]
  generalize ops[i]=o at ho
  have ha:aops[i]? =some ao:=by
   have:(aops.drop i)[0]? =some ao:=by grind
   grind
  obtain ⟨al,hrl,x1,x2,x3⟩:=hrel i o ao ho ha;have hd':aops.drop (i+1)=r:=by rw[<-List.drop_drop,hd];rfl
  have hU: ∀g,Or1 (fj c0 λj=>decide (j<i)) (c0+i) g->fj c0 (λj=>decide (j<i+1)) g:=by
   rintro g ((hg|⟨j,hj,rfl⟩)|rfl)
   ·exact .inl hg
   ·exact .inr ⟨j,by grind,rfl⟩
   ·exact .inr ⟨i,by simp,rfl⟩
  have hfr: ¬fj c0 (λj=>decide (j<i)) (c0+i):=by
   rintro (hg|⟨j,hj,hg⟩)
   all_goals grind
  rw[Ar,List.range'_succ,wpOps_cons];unfold wpOp;simp only[ho];obtain ⟨A0,hA0,hs⟩:=hs;have hR:=hA0.2 _ _ _ _ hR;have hc0':A0.ctr=c0:=hA0.1.trans hc;rcases hs with ⟨h1,h2⟩|⟨A1,e,hA1,hw,⟨ih,hih,he⟩,h2⟩|⟨A1,e,hA1,hw,⟨ih,hih,he⟩,h2⟩
  ·rw[dQ hR hrl (by rw[<-x3,fa];exact h1)]
   simp only[AR,if_false];refine Ae hG hc0 hn ht hl hrel hQ r (i+1) (A0.put ao.dst iP) _ _ hd' (by grind [AS.put_ctr]) (by grind) h2 ?_
   rw[AS.fs_put,<-hrl.dst,<-x2];exact (hR.put ao.dst (λd hd=>hrl.bd d (by rw[<-hrl.dst,<-x2];exact hd))).wide λy hy=>hU y (.inl hy)
  ·rw[dQ hR hrl (by rw[<-x3,fa];exact hw)]
   simp only[if_true]
   have hR1:Rel C (fj c0 λj=>decide (j<i)) A1.fs a w:=by
    exact hA1.2 _ _ _ _ hR
   have hc1:A1.ctr=c0:=hA1.1.trans hc0';rw[hc] at he;have hdo:=nf hG hrl x1 x2 hn ht (by omega) hih he A1.fs (λ_ _=>rfl) (λ_ _=>.inl rfl)
   refine .inl (hdo _ a w _ Q hfr hR1 λa' w' hR'=>?_)
   refine Ae hG hc0 hn ht hl hrel hQ r (i+1) (A1.app ao.dst e) _ _ hd' (by grind [AS.app_ctr]) (by grind) h2 ?_
   rw[AS.fs_app,x2];exact hR'.wide hU
  ·rw[dQ hR hrl (by rw[<-x3,fa];exact hw)]
   simp only[if_true]
   have hR1:Rel C (fj c0 λj=>decide (j<i)) A1.fs a w:=by
    exact hA1.2 _ _ _ _ hR
   rw[hc] at he;have hdo:=Xl hG hrl x1 x2 hn ht (by omega) hih he
   refine .inl (hdo _ a w _ Q hfr hR1 λv w' S β used hR' hv=>?_)
   have ee:({A1 with hp:=e.wr++A1.hp}:AS).fs= {A1.fs with hp:=hov e.wr A1.fs.hp}:=by
    show FSt.mk _ (aY (e.wr++A1.hp))=_
    rw[gX];rfl
   refine hQ a w' {A1 with hp:=e.wr++A1.hp} v e.res S β used _ (by rw[ee];exact hR') ?_ h2
   grind
end
open Go.RowKit
section
variable {P:Program} {N:Nums} {G:Nat->Fun}
theorem Rel.drew {C:Ctx}{U:Nat->Prop}{F:FSt}{a:Act}{w:World}(h:Rel C U F a w):Rel C U F a {w with drawn:=w.drawn+1}:=
 let ⟨S,β,used,hi,b,c,d⟩:=h
 ⟨S,β,used,hi.drew,b,c,d⟩
theorem ni: ∀(r:Cb)(acc:List Cc)(i:Nat)(x:AOper),(ch acc r)[i]? =some x-> ∃y,r[i]? =some y/\x.op=y.op/\x.dst=y.dst/\x.guard=y.guard/\(∀j∈y.after,j∈x.after)/\
  ∀j∈x.after,j∈y.after∨ ∃k∈y.after,j∈ (acc++(ch acc r).map (·.after)).getD k []
 | [],_,_,_,h=>by grind [ch]
 |o::r,acc,0,x,h=>by
  simp only[ch,List.getElem?_cons_zero,Option.some.injEq] at h;subst h;refine ⟨o,rfl,rfl,rfl,rfl,λj hj=>eF.2 (List.mem_append_left _ hj),λj hj=>?_⟩
  grind [eF]
 |o::r,acc,i+1,x,h=>by
  simp only[ch,List.getElem?_cons_succ] at h;obtain ⟨y,h1,h2,h3,h4,h5,h6⟩:=ni r _ i x h;refine ⟨y,by grind,h2,h3,h4,h5,λj hj=>?_⟩
  grind [ch]
theorem uK: ∀(r:Cb)(acc:List Cc),(ch acc r).length=r.length
 | [],_=>rfl
 |o::r,acc=>by simp only[ch,Ar,uK r]
section
variable {draw:Bool}{l:Cb}{i:Nat}{x:AOper}
theorem mu (h:(lC draw l)[i]? =some x): ∃y,l[i]? =some y/\x.op=y.op/\x.dst=y.dst/\x.guard=y.guard/\ ∀j∈x.after,j∈y.after:=by
 cases draw<;>grind [lC]
theorem vi (h:(lC draw (ch [] l))[i]? =some x): ∃y,l[i]? =some y/\x.op=y.op/\x.dst=y.dst/\x.guard=y.guard/\True:=by
 grind [mu,ni]
theorem Gy:(lC draw l).length=l.length:=by grind [lC]
theorem kg:(lC draw (ch [] l)).length=l.length:=by rw[Gy,uK]
end
theorem nz {r:Cb}{es:List C6}{i:Nat}{x:CV×C6}(h:(cY r es)[i]? =some x): ∃o e,r[i]? =some o/\es[i]? =some e/\x=(o.dst,e):=by
 grind [cY]
theorem Eu (hG:GOk P N G)(hm:P.follows .mixedOrders=true){C:Ctx}(hn:ew N C)(ht:C.tnum=N.tnum){id:Nat}{rops:Array Oper}{aops:Cb}{l:Cb}(hl:fp P N C.n rops 0 rops.toList=some l)(hreg:vq 0 (ch [] l)=true)(haops:aops=lC true (ch [] l)){A A':AS}{es:List C6}(hout:nK G (gu P N) true aops 0 [] A es A')(hctr:0<A.ctr){a:Act}{w:World}(hR:Rel C (λg=>g<A.ctr) A.fs a w):
  (Code.region id rops true).wp P (λe a' w'=>e= .normal/\Rel C (fj A.ctr λj=>decide (j<rops.size)) A'.fs a' w') a w:=by
 obtain ⟨l1,l2⟩:=gm hl;have hll:l.length=rops.size:=by grind
 obtain ⟨q1,q2,q3⟩:=oq aops 0 [] A es A' hout rfl;have hal:aops.length=rops.size:=by grind [kg]
 have hesl:(cY aops es).length=rops.size:=by grind [cY]
 have hone: ∀i o ao x,rops[i]? =some o->l[i]? =some ao->(cY aops es)[i]? =some x->x.1=ao.dst/\OneOk P C N rops A.ctr i o ao x.2 (FL (cY aops es) (λj=>decide (j<i)) 0 A.fs):=by
  intro i o ao x ho ha hx;obtain ⟨o',e,h1,h2,rfl⟩:=nz hx;rw[haops] at h1;obtain ⟨y,y1,y2,y3,y4,_⟩:=vi h1;obtain rfl:y=ao:=by grind
  have hrel:=l2 i o y (by grind) ha
  rw[A3] at hrel;have h1':aops[i]? =some o':=by grind
  have h:=q2 i o' e h1' h2;simp only[A3] at h;refine ⟨y3,hrel,λhe=>?_,λx hx2=>?_⟩
  ·rw[<-y4];exact h.none_ he
  ·obtain ⟨z1,ih,A2,z2,z3,z4⟩:=h.some_ x hx2
   refine ⟨by grind,?_⟩
   rw[<-z3];exact nf hG hrel y2 y3 hn ht (by omega) z2 z4
 have hclo: ∀i ao,l[i]? =some ao-> ∀j∈ ((ch [] l).map (·.after)).getD i [],j∈ao.after∨ ∃k∈ao.after,j∈ ((ch [] l).map (·.after)).getD k []:=by
  grind [ni]
 refine wp_region_any hm (agp (c0:=A.ctr) (F0:=A.fs) (λi=>((ch [] l).map (·.after)).getD i []) hclo hll hesl hone ?_ (λa' w' hR'=>⟨rfl,by grind⟩) rops.size (Array.replicate rops.size false) a _ (by simp) ?_ ?_ ?_)
 ·intro i j ai aj xi xj hij hi hj hxi hxj
  obtain ⟨oi,ei,y1,y2,rfl⟩:=nz hxi;obtain ⟨oj,ej,y3,y4,rfl⟩:=nz hxj;rw[haops] at y1 y3;obtain ⟨zi,zi1,zi2,zi3,zi4,_⟩:=mu y1;obtain ⟨zj,zj1,zj2,zj3,zj4,zj5⟩:=mu y3;obtain ⟨wi,wi1,wi2,wi3,wi4,wi5,_⟩:=ni l [] i zi zi1;obtain ⟨wj,wj1,wj2,wj3,wj4,wj5,_⟩:=ni l [] j zj zj1;obtain rfl:wi=ai:=by grind
  obtain rfl:wj=aj:=by grind
  have hcl: ∀k∈zj.after,k∈ ((ch [] l).map (·.after)).getD j []:=λk hk=>by
   rw[Ai,B3,zj1];exact hk
  rcases rZ (hreg) i j zi zj hij zi1 zj1 with z|z
  ·rw[A3] at z;exact .inl (hcl _ z)
  ·rw[<-haops] at y1 y3
   rcases (nq aops 0 [] A es A' hout).2 i j oj ei ej hij y3 y2 y4 with z2|z2
   ·rw[A3] at z2;exact .inl (hcl _ (zj5 _ z2))
   ·refine .inr ⟨?_,z2⟩
    have l1:looks zi=looks wi:=by unfold looks;grind
    have l2:looks zj=looks wj:=by unfold looks;grind
    unfold iB at z⊢;rw[l1,l2,wi3,wj3] at z;exact z
 ·grind [List.countP_le_length]
 ·intro i h
  simp only[Aj] at h
  grind
 ·have hf: ∀i,(Array.replicate rops.size false).getD i false=false:=λi=>by
   simp only[Aj]
   grind
  rw[p9 _ _ _ _ (λj _=>hf j)]
  exact hR.drew.wide λx hx=>.inl hx
section
variable (hG:GOk P N G){C:Ctx}(hn:ew N C)(ht:C.tnum=N.tnum){id:Nat}{rops:Array Oper}{aops:Cb}{l:Cb}(hl:fp P N C.n rops 0 rops.toList=some l)(haops:aops=lC false (ch [] l))
include hG hn ht hl haops
theorem Eo {A A':AS}(hout:RegSeq G (gu P N) aops 0 A A')(hctr:0<A.ctr){a:Act}{w:World}(hR:Rel C (λg=>g<A.ctr) A.fs a w):
  (Code.region id rops false).wp P (λe a' w'=>e= .normal/\Rel C (fj A.ctr λj=>decide (j<rops.size)) A'.fs a' w') a w:=by
 obtain ⟨l1,l2⟩:=gm hl;have hll:l.length=rops.size:=by grind
 have hal:aops.length=rops.size:=by grind [kg]
 refine wp_region ?_;rw[List.range_eq_range',show List.range' 0 rops.size=List.range' 0 aops.length from by rw[hal]]
 refine GH hG hctr hn ht hal (λi o ao ho ha=>?_) (λa' w' hR'=>⟨rfl,hR'⟩) aops 0 A a w rfl rfl (by omega) hout (hR.wide λx hx=>.inl hx)
 grind [vi]
theorem Py {A:AS}{rs:CT}{m:Nat}{t:Ret}(hout:RegPan G (gu P N) rs m t aops 0 A)(hctr:0<A.ctr){a:Act}{w:World}(hR:Rel C (λg=>g<A.ctr) A.fs a w):
  (Code.region id rops false).wp P (λe a' w'=> ∃v x A S β used U,e= .panic [{v:=v,recovered:=false}]/\RelC C U A.fs a' w' S β used/\V (aP C S β used A.fs.hp w') v x/\ef A rs m x=some t) a w:=by
 obtain ⟨l1,l2⟩:=gm hl;have hll:l.length=rops.size:=by grind
 have hal:aops.length=rops.size:=by grind [kg]
 refine wp_region ?_;rw[List.range_eq_range',show List.range' 0 rops.size=List.range' 0 aops.length from by rw[hal]]
 refine Ae (t:=t) hG hctr hn ht hal (λi o ao ho ha=>?_) (λa' w' A v x S β used U h1 h2 h3=>⟨v,x,A,S,β,used,U,rfl,h1,h2,h3⟩) aops 0 A a w rfl rfl (by omega) hout (hR.wide λx hx=>.inl hx)
 grind [vi]
end
theorem ur (hp:az)(key:Nat)(z:Cl):aY ((key,z)::hp)=up (aY hp) key z:=by
 grind [aY,up]
theorem OX {α:Type}{l cs:List α}(h:cs.length=l.length):dw l 0 cs=cs:=by
 grind [dw]
theorem Vss.mono {E E':Env}(l:E.le E'): ∀{wss:List (List Value)}{css:B6},Vss E wss css->Vss E' wss css
 | [],[],_=>trivial
 |_::_,_::_,h=>⟨h.1,λj hj=>⟨(h.2.1 j hj).1,(h.2.1 j hj).2.mono l⟩,Vss.mono l h.2.2⟩
 | [],_::_,h=>h.elim
 |_::_,[],h=>h.elim
theorem yq {C:Ctx}{a:Act}: ∀(caps:B7)(css:B6)(vs:List Value)(wss:List (List Value))(A A':AS)(w:World)(U:Nat->Prop)(S:Nat->Prop)(β:Nat->Place)(used:Nat->Nat->Prop),
  vs.length=caps.length->(∀i,i<caps.length->V (aP C S β used A.fs.hp w) (vs.getD i undef) (caps.getD i .any))->Vss (aP C S β used A.fs.hp w) wss css->RelC C U A.fs a w S β used->mG A caps css=some A'->
  ∃ps:List Addr,vs=ps.map (λp=>Value.pointer (some p))/\Lx w ps wss/\ ∃U' used',RelC C U' A'.fs a (wO w ps wss) S β used'
 | [],css,vs,wss,A,A',w,U,S,β,used,hl,hv,hs,hR,hp=>by
  cases css with
  |cons _ _=>cases hp
  |nil=>
   obtain rfl:=Ad hp;obtain rfl:vs= []:=AD hl;cases wss with
   |cons _ _=>exact hs.elim
   |nil=>exact ⟨[],rfl,trivial,U,used,hR⟩
 |c::caps,css,vs,wss,A,A',w,U,S,β,used,hl,hv,hs,hR,hp=>by
  cases css with
  |nil=>
   grind [mG]
  |cons cs css=>
  cases wss with
  |nil=>exact hs.elim
  |cons ws wss=>
  cases vs with
  |nil=>simp at hl
  |cons v vs=>
  obtain ⟨s1,s2,s3⟩:=hs;unfold mG at hp;split at hp
  ·grind
  ·rename_i k g caps' cs' css' e1 e2
   obtain ⟨rfl,rfl⟩:=List.cons.inj e1;obtain ⟨rfl,rfl⟩:=List.cons.inj e2;split at hp
   ·rename_i g' l hk
    split at hp
    ·rename_i hq
     obtain ⟨rfl,hlen⟩:=hq;have v0:=hv 0 (by simp)
     simp only[List.getD_cons_zero] at v0;obtain ⟨_,_,hx⟩:=v0.ref_inv;have e0:=hx _ (bA (show A.fs.hp k=some (g',.cells l) from hk))
     obtain ⟨u1,u2,u3⟩:=hR.hi.at_ k g' _ hk;obtain ⟨hnn,hco⟩:=u3;have hcs:Cs (aP C S β used A.fs.hp w) ws.toArray cs:=⟨by grind,λi hi=>by simp_all,λi hi=>by simp_all⟩
     obtain ⟨used',k1,k2,k3⟩:=hR.hi.write hk hnn ((β k).off) ws g' (.cells cs) (.inl rfl) (λE l=>⟨hnn,by
      have:=nj (hco.le' l) (hcs.mono l) 0 (by omega)
      grind [OX]⟩)
     have hR1:RelC C (λx=>U x∨x=g') ({A with hp:=(k,some (g',.cells cs))::A.hp}:AS).fs a (w.setCells (β k).blk (β k).off ws) S β used':=by
      have eh:({A with hp:=(k,some (g',.cells cs))::A.hp}:AS).fs= {A.fs with hp:=up A.fs.hp k (some (g',.cells cs))}:=by
       show FSt.mk _ (aY ((k,some (g',.cells cs))::A.hp))=_
       rw[ur];rfl
      rw[eh];exact ⟨k1,hR.size,hR.defers,λt=>(hR.tm t).mono k2⟩
     have eh2:({A with hp:=(k,some (g',.cells cs))::A.hp}:AS).fs.hp=up A.fs.hp k (some (g',.cells cs)):=by
      show aY ((k,some (g',.cells cs))::A.hp)=_
      rw[ur];rfl
     obtain ⟨ps,p1,p2,U',used2,p3⟩:=yq caps css vs wss _ A' _ _ S β used' (by grind) (λi hi=>by
      have:=hv (i+1) (by grind)
      simp only[List.getD_cons_succ] at this;rw[eh2];exact this.mono k2) (by rw[eh2];exact s3.mono k2) hR1 hp
     refine ⟨⟨(β k).blk,(β k).off,none⟩::ps,?_,⟨rfl,λj hj=>?_,p2⟩,U',used2,p3⟩
     ·grind
     ·obtain ⟨u,y1,y2,_⟩:=hco j (by omega)
      grind
    grind
   grind
  grind
section
variable {C:Ctx}{fn:Func}{U:Nat->Prop}{A:AS}{F':FSt}{a:Act}{w:World}{S:Nat->Prop}{β:Nat->Place}{used:Nat->Nat->Prop}{rs:CT}{m:Nat}{t:Ret}{v:Value}{x:AV}
theorem acx {cs:List Frame}(hR:RelC C U A.fs a w S β used)(hv:V (aP C S β used A.fs.hp w) v x)(hend:ef A rs m x=some t)(hrs:Sy P C fn rs)(fr:Frame)(h1:fr.mode= .panicking [{v:=v,recovered:=false}])(h2:fr.defers=a.defers)(h3:fr.tmps=a.tmps)(h4:fr.kind= .normal)(h5:P.funcs[fr.fn]? =some fn):
  ∃v' w' fr' S1 β1,RetC C m w' v' (unR t) S1 β1/\Steps P (lone fr cs w) (lone fr' cs w')/\fr'.fn=fr.fn/\fr'.leaving P w' (iA t.r v'):=by
 have h0:=hrs.2;have h00:=hrs.1;unfold ef at hend;split at hend
 ·rename_i sp rs'
  dsimp only at h0;split at hend
  ·rename_i f caps hd
   cases hib:isB f with
   |true=>grind
   |false=>
   rw[hib,cond_false] at hend;split at hend
   ·rename_i css hsp
    cases hpc:mG A caps css with
    |none=>grind
    |some A'=>
     rw[hpc] at hend;have hend:fC A' rs' m=some t:=hend;have hdv:=hR.tm D0;have ed:tmv C a D0=C.dval:=Ac rfl;rw[ed,show A.fs.tm D0=bI A.tm D0 from rfl,hd] at hdv
     obtain ⟨cv,c1,c2,c3⟩:=hdv.fn_inv;obtain ⟨wss,w1,w2⟩:=h0.pan _ v x css rfl rfl hv hsp;obtain ⟨ps,p1,p2,U',used',p3⟩:=yq caps css cv.toList wss A A' w U S β used (by grind) (λi hi=>by simp_all) w1 hR hpc
     cases hav:kw A' rs' with
     |none=>grind [fC]
     |some av=>
      have hnp:dv t.r=none:=by
       obtain ⟨v',r1,r2⟩:=lG (P:=P) p3 h00 hav;obtain ⟨S1,β1,hret⟩:=nB p3.hi hav r2 hend;exact hret.np
      rw[xX hnp]
      have hl:=w2 a.tmps w (λe w'=> ∃v' S1 β1,e= .returned v'/\RetC C m w' v' t S1 β1) (.func (C.num (bV f))) ps (by rw[c1,<-p1];unfold fnF fnC;rw[hib];rfl) p2 λos=>by
       obtain ⟨v',r1,r2⟩:=lG (P:=P) (p3.more os) h00 hav;obtain ⟨S1,β1,hret⟩:=nB (p3.more os).hi hav r2 hend
       grind
      obtain ⟨e',w',fr',⟨v',S1,β1,rfl,hret⟩,hst,q1,q2⟩:=leaves_steps C.dfr _ w fr cs h1 (by rw[h2];exact hR.defers) h3 h5 h4 hl
      exact ⟨v',_,fr',S1,β1,hret,hst,q1,by grind [sy]⟩
   grind
  grind
 ·rename_i hne
  have h0':C.dfr= []:=by
   grind
  obtain ⟨t0,hto,rfl⟩:=map_some hend;obtain ⟨S1,β1,hret⟩:=rX hR.hi hv hto;exact ⟨v,w,fr,S1,β1,hret,.refl _ _,rfl,h1,by rw[h2,hR.defers,h0'],fn,h5⟩
theorem Xk (hR:RelC C U {F' with hp:=aY A.hp} a w S β used)(hv:V (aP C S β used (aY A.hp) w) v x)(hnr:ou rs=true)(hend:ef A rs m x=some t)(hrs:Sy P C fn rs)(fr:Frame)(h1:fr.mode= .panicking [{v:=v,recovered:=false}])(h2:fr.defers=a.defers)(h5:P.funcs[fr.fn]? =some fn):
  ∃v' S1 β1,RetC C m w v' (unR t) S1 β1/\fr.leaving P w (iA t.r v'):=by
 have h0:=hrs.2
 have h0':C.dfr= []:=by
  split at h0
  ·cases hnr
  grind
 unfold ef at hend;split at hend
 ·cases hnr
 ·obtain ⟨t0,hto,rfl⟩:=map_some hend
  obtain ⟨S1,β1,hret⟩:=rX hR.hi hv hto;exact ⟨v,S1,β1,hret,h1,by rw[h2,hR.defers,h0'],fn,h5⟩
end
theorem vg: ∀(es r:nl)(L:Nat->Bool)(k:Nat)(F:FSt),FL (es++r) L k F=FL r L (k+es.length) (FL es L k F)
 | [],r,L,k,F=>by simp[FL]
 |(d,e)::es,r,L,k,F=>by
  simp only[BD,FL];rw[vg es r L (k+1)]
  grind
theorem OH (es:nl)(L L':Nat->Bool)(k:Nat)(F:FSt)(h: ∀j,j<es.length->L (k+j)=L' (k+j)):FL es L k F=FL es L' k F:=by
 induction es generalizing k F with
 |nil=>rfl
 |cons x es ih=>
  obtain ⟨d,e⟩:=x;simp only[FL];have h0:=h 0 (by simp)
  rw[Nat.add_zero] at h0;rw[h0];exact ih (k+1) _ λj hj=>by have:=h (j+1) (by grind);grind
theorem rY {Q:(Cfg->C3)->Prop}{draw:Bool}: ∀{r:Cb}{i:Nat}{dn:Df}{A:AS}{es:List C6}{A':AS},nK G Q draw r i dn A es A'->A'.ctr=A.ctr
 | [],_,_,A,[],A',h=>by rw[show A'=A from h]
 |o::r,i,dn,A,none::es,A',h=>by rw[rY h.2,AS.put_ctr]
 |o::r,i,dn,A,some e::es,A',h=>by rw[rY h.2.2.2,AS.app_ctr]
 | [],_,_,_,_::_,_,h=>h.elim
 |_::_,_,_,_,[],_,h=>h.elim
theorem Ma (hG:GOk P N G)(hm:P.follows .mixedOrders=true){C:Ctx}(hn:ew N C)(ht:C.tnum=N.tnum){id:Nat}{rops:Array Oper}{aops:Cb}{l:Cb}(hl:fp P N C.n rops 0 rops.toList=some l)(hreg:vq 0 (ch [] l)=true)(haops:aops=lC true (ch [] l)){A:AS}{rs:CT}{m:Nat}{t:Ret}(hout:RegPanD G (gu P N) rs m t aops 0 [] A)(hctr:0<A.ctr){a:Act}{w:World}(hR:Rel C (λg=>g<A.ctr) A.fs a w):
  (Code.region id rops true).wp P (λe a' w'=> ∃v x A,∃F':FSt,∃S β used U,e= .panic [{v:=v,recovered:=false}]/\RelC C U {F' with hp:=aY A.hp} a' w' S β used/\V (aP C S β used (aY A.hp) w') v x/\ou rs=true/\ef A rs m x=some t) a w:=by
 obtain ⟨l1,l2⟩:=gm hl;have hll:l.length=rops.size:=by grind
 obtain ⟨init,last,rest,es,esr,A1,ep,hr0,h2,h3,⟨ih,hih,h4⟩,_,h6,⟨h7,hq,hnd⟩,h8⟩:=hout;have hnd:=we hnd;have hal:aops.length=rops.size:=by grind [kg]
 have hp1:init.length+1+rest.length=rops.size:=by grind
 obtain ⟨q1,q2,q3⟩:=oq init 0 [] A es A1 h2 rfl;have hctr1:A1.ctr=A.ctr:=rY h2;obtain ⟨r1,r2⟩:=tU rest _ A1 esr hq;have hesl:(cY init es).length=init.length:=by grind [cY]
 let es':nl:=cY init es++(none,none)::esr
 have hes':es'.length=rops.size:=by grind
 have elo: ∀i,i<init.length->es'[i]? =(cY init es)[i]? :=λi hi=>by grind
 have emid:es'[init.length]? =some (none,none):=by show (cY init es++(none,none)::esr)[init.length]? =_;rw[Be (by omega),hesl];simp
 have ehi: ∀k,es'[init.length+1+k]? =esr[k]? :=λk=>by show (cY init es++(none,none)::esr)[init.length+1+k]? =_;rw[Be (by omega),hesl,show init.length+1+k-init.length=k+1 from by omega];simp
 have alo: ∀i,i<init.length->aops[i]? =init[i]? :=λi hi=>by rw[hr0,List.getElem?_append_left hi]
 have amid:aops[init.length]? =some last:=by rw[hr0];simp
 have ahi: ∀k,aops[init.length+1+k]? =rest[k]? :=λk=>by rw[hr0,Be (by omega),show init.length+1+k-init.length=k+1 from by omega];simp
 have hFL: ∀i,i<=init.length->FL es' (λj=>decide (j<i)) 0 A.fs=FL (cY init es) (λj=>decide (j<i)) 0 A.fs:=λi hi=>by
  show FL (cY init es++(none,none)::esr) _ _ _=_
  rw[vg];exact p9 _ _ _ _ λj hj=>by rw[hesl] at hj;grind
 have hA1:FL es' (λj=>decide (j<init.length)) 0 A.fs=A1.fs:=by
  rw[hFL _ (A7 _),<-q3];exact OH _ _ _ _ _ λj hj=>by rw[hesl] at hj;simp[hj]
 have hFL2: ∀k,FL es' (λj=>decide (j<init.length+1+k)) 0 A.fs=FL esr (λj=>decide (j<init.length+1+k)) (init.length+1) A1.fs:=λk=>by
  show FL (cY init es++(none,none)::esr) _ _ _=_
  rw[vg,hesl]
  have e1:FL (cY init es) (λj=>decide (j<init.length+1+k)) 0 A.fs=A1.fs:=by
   rw[<-q3];exact OH _ _ _ _ _ λj hj=>by rw[hesl] at hj;grind
  rw[e1];simp only[FL];rw[show decide (0+init.length<init.length+1+k)=true from by grind,cond_true,A3]
  rfl
 have hrelA: ∀i o ao,rops[i]? =some o->l[i]? =some ao->OpRel P N C.n rops i o ao:=λi o ao ho ha=>by
  have hrel:=l2 i o ao (by simpa using ho) ha
  rwa [A3] at hrel
 have hat: ∀(i:Nat)(o':AOper),aops[i]? =some o'-> ∃y:AOper,l[i]? =some y/\o'.op=y.op/\o'.dst=y.dst/\o'.guard=y.guard:=λi o' h1=>by
  rw[haops] at h1;obtain ⟨y,y1,y2,y3,y4,_⟩:=vi h1;exact ⟨y,y1,y2,y3,y4⟩
 have hcloA: ∀(j:Nat)(oj:AOper),aops[j]? =some oj-> ∀k∈oj.after,k∈ ((ch [] l).map (·.after)).getD j []:=λj oj hj k hk=>by
  rw[haops] at hj;obtain ⟨zj,zj1,zj2,zj3,zj4,zj5⟩:=mu hj;rw[Ai,B3,zj1];exact zj5 k hk
 have hord: ∀(i j:Nat)(oi oj:AOper),i<j->aops[i]? =some oi->aops[j]? =some oj->i∈ ((ch [] l).map (·.after)).getD j []∨iB oi oj:=λi j oi oj hij hi hj=>by
  rw[haops] at hi hj;obtain ⟨zi,zi1,zi2,zi3,zi4,_⟩:=mu hi;obtain ⟨zj,zj1,zj2,zj3,zj4,_⟩:=mu hj;rcases rZ hreg i j zi zj hij zi1 zj1 with z|z
  ·rw[A3] at z
   left;rw[Ai,B3,zj1];exact z
  ·right
   have l1:looks oi=looks zi:=by unfold looks;grind
   have l2:looks oj=looks zj:=by unfold looks;grind
   unfold iB at z⊢;rw[l1,l2,zi3,zj3];exact z
 have hsame: ∀(i:Nat)(o' ao:AOper),aops[i]? =some o'->l[i]? =some ao->looks o'=looks ao/\o'.dst=ao.dst:=λi o' ao h1 h2=>by
  obtain ⟨y,y1,y2,y3,y4⟩:=hat i o' h1;obtain rfl:y=ao:=by rw[h2] at y1;exact (Ad y1).symm
  exact ⟨by unfold looks;grind,y3⟩
 have hapT: ∀(oi oj ai aj:AOper),looks oi=looks ai->oi.dst=ai.dst->looks oj=looks aj->oj.dst=aj.dst->iB oi oj->iB ai aj:=λoi oj ai aj e1 e2 e3 e4 h=>by
  unfold iB at h⊢;rw[<-e1,<-e2,<-e3,<-e4];exact h
 have getA: ∀i,i<rops.size-> ∃o',aops[i]? =some o':=λi hi=>⟨aops[i]'(by omega),by rw[AF]⟩
 let W:Nat->Bool:=λj=>decide (init.length<j)&&match es'[j]? with
  |some (none,none)=>true
  |_=>false
 have hWspec: ∀j,W j=true->init.length<j/\es'[j]? =some (none,none):=λj hj=>by
  have hj:(decide (init.length<j)&&match es'[j]? with
   |some (none,none)=>true
   |_=>false)=true:=hj
  simp only[At,AK] at hj;refine ⟨hj.1,?_⟩;have:=hj.2;split at this
  ·assumption
  grind
 have quiet: ∀j xj,init.length<j->W j=false->es'[j]? =some xj-> ∃oj e,aops[j]? =some oj/\xj=(oj.dst,some e)/\e.rd= []/\(∀k∈dt xj.2,k∈wkR esr)/\ ∃A',A'.fs=FL es' (λq=>decide (q<j)) 0 A.fs/\bL A'.tm oj.guard=some true/\ik G (λ_=>none) oj (A.ctr+j) A'=some e:=λj xj hj hW hx=>by
  obtain ⟨k,rfl⟩: ∃k,j=init.length+1+k:=⟨j-init.length-1,by omega⟩
  have hx':=hx;rw[ehi] at hx'
  have hk:k<rest.length:=by
   rcases AO k rest.length with q|q
   ·exact q
   ·rw[AA (by omega)] at hx';cases hx'
  obtain ⟨x,hxr⟩: ∃x,rest[k]? =some x:=⟨rest[k],AF hk⟩
  rcases r2 k x xj hxr hx' with ⟨_,rfl⟩|⟨e,e1,e2,A',e3,e4,e5⟩
  ·exfalso
   have:W (init.length+1+k)=true:=by
    show (decide (init.length<init.length+1+k)&&match es'[init.length+1+k]? with
     |some (none,none)=>true
     |_=>false)=true
    rw[hx];grind
   rw[hW] at this;cases this
  ·exact ⟨x,e,by rw[ahi];exact hxr,e1,e2,λq hq=>zK hx' hq,A',by rw[hFL2,e3,A3],e4,by rw[A3] at e5;exact e5⟩
 have hone: ∀i o ao x,i≠init.length->W i=false->rops[i]? =some o->l[i]? =some ao->es'[i]? =some x->x.1=ao.dst/\OneOk P C N rops A.ctr i o ao x.2 (FL es' (λj=>decide (j<i)) 0 A.fs):=by
  intro i o ao x hi hW ho ha hx;rcases AO i init.length with hlt|hge
  ·have hx':(cY init es)[i]? =some x:=by rw[<-elo i hlt];exact hx
   obtain ⟨o',e,h1,h2',rfl⟩:=nz hx';obtain ⟨y,y1,y2,y3,y4⟩:=hat i o' (by rw[alo i hlt];exact h1)
   obtain rfl:y=ao:=by rw[ha] at y1;exact (Ad y1).symm
   have h:=q2 i o' e h1 h2';simp only[A3] at h;rw[hFL i (by omega)]
   refine ⟨y3,hrelA i o y ho ha,λhe=>?_,λx hx2=>?_⟩
   ·rw[<-y4];exact h.none_ he
   ·obtain ⟨z1,ih,A2,z2,z3,z4⟩:=h.some_ x hx2
    refine ⟨by rw[<-y4];exact z1,?_⟩
    rw[<-z3];exact nf hG (hrelA i o y ho ha) y2 y3 hn ht (by omega) z2 z4
  ·obtain ⟨oj,e,g1,rfl,g2,_,A',g3,g4,g5⟩:=quiet i x (by omega) hW hx
   obtain ⟨y,y1,y2,y3,y4⟩:=hat i oj g1;obtain rfl:y=ao:=by rw[ha] at y1;exact (Ad y1).symm
   refine ⟨y3,hrelA i o y ho ha,λhe=>(by cases he),λx hx2=>?_⟩
   obtain rfl:=Ad hx2;refine ⟨by rw[<-y4,<-g3,fa];exact g4,?_⟩
   rw[<-g3];exact nf hG (hrelA i o y ho ha) y2 y3 hn ht (by omega) (λc t h _=>by cases h) g5
 have hclo: ∀i ao,l[i]? =some ao-> ∀j∈ ((ch [] l).map (·.after)).getD i [],j∈ao.after∨ ∃k∈ao.after,j∈ ((ch [] l).map (·.after)).getD k []:=by
  intro i ao hi j hj;rw[Ai,B3] at hj;cases hx:(ch [] l)[i]? with
  |none=>rw[hx] at hj;simp at hj
  |some x=>
   rw[hx] at hj;obtain ⟨y,y1,_,_,_,_,y2⟩:=ni l [] i x hx;obtain rfl:y=ao:=by rw[hi] at y1;exact (Ad y1).symm
   have:=y2 j hj;simpa using this
 have hDr:aY (bW (wkR esr)++A1.hp)=dK A1.fs.hp (wkR esr):=by rw[gX,i7];rfl
 refine wp_region_any hm (adN (c0:=A.ctr) (F0:=A.fs) (e:=ep) (K:=wkR esr) (p:=init.length) (λi=>((ch [] l).map (·.after)).getD i []) hclo hll hes' (by omega) W (λj hj=>?_) emid hrelA hone (λo ao ho ha=>?_) ?_
  (λa' w' v S β used U F' hR' hv'=>⟨v,ep.res,{A1 with hp:=ep.wr++(bW (wkR esr)++A1.hp)},F',S,β,used,U,rfl,by rw[hA1] at hR';dsimp only;rw[gX,hDr];exact hR',by rw[hA1] at hv';dsimp only;rw[gX,hDr];exact hv',h7,h8⟩) rops.size (Array.replicate rops.size false) a _ (by simp) ?_ ?_ ?_ ?_)
 ·obtain ⟨hj1,hj2⟩:=hWspec j hj
  refine ⟨hj2,?_⟩;obtain ⟨k,rfl⟩: ∃k,j=init.length+1+k:=⟨j-init.length-1,by omega⟩
  rw[ehi] at hj2
  have hk:k<rest.length:=by
   rcases AO k rest.length with q|q
   ·exact q
   ·rw[AA (by omega)] at hj2;cases hj2
  obtain ⟨x,hxr⟩: ∃x,rest[k]? =some x:=⟨rest[k],AF hk⟩
  rcases r2 k x _ hxr hj2 with ⟨hw|⟨t,ht1,ht2⟩,_⟩|⟨e,e1,_⟩
  ·exact hcloA _ x (by rw[ahi];exact hxr) _ (by simpa using hw)
  ·rcases hord init.length (init.length+1+k) last x (by omega) amid (by rw[ahi];exact hxr) with z|z
   ·exact z
   ·exact absurd ht2 (z.1 t ht1).1
  ·exact absurd (congrArg Prod.snd e1) (by simp)
 ·obtain ⟨y,y1,y2,y3,y4⟩:=hat _ _ amid
  obtain rfl:y=ao:=by rw[ha] at y1;exact (Ad y1).symm
  obtain ⟨s1,s2⟩:=hsame _ _ _ amid ha;rw[hA1];refine ⟨by rw[<-y4,fa];exact h3,λj aj xj hj hWj haj hxj=>?_,λF' f1 f2=>?_⟩
  ·have hjs:j<rops.size:=by
    rcases AO j es'.length with q|q
    ·omega
    ·rw[AA q] at hxj;cases hxj
   obtain ⟨oj,hoj⟩:=getA j hjs;obtain ⟨t1,t2⟩:=hsame j oj aj hoj haj;rcases AO j init.length with hlt|hge
   ·have hxj':(cY init es)[j]? =some xj:=by rw[<-elo j hlt];exact hxj
    obtain ⟨o',e',g1,g2,rfl⟩:=nz hxj';obtain rfl:o'=oj:=by rw[alo j hlt,g1] at hoj;exact Ad hoj
    rcases hord j init.length o' last hlt hoj amid with z|z
    ·exact .inl ⟨hlt,z⟩
    ·have hap: ∀t,o'.dst=some t->t∉looks y:=λt ht=>by rw[<-s1];exact (z.1 t ht).1
     cases e' with
     |none=>exact .inr (.inr ⟨hap,by simp[dt]⟩)
     |some e'=>
          rcases (h6 j e' g2).1 with q|⟨_,q⟩
          ·rw[A3] at q
           exact .inl ⟨hlt,hcloA _ last amid _ (by simpa using q)⟩
          ·exact .inr (.inr ⟨hap,by simp[dt,q]⟩)
   ·obtain ⟨oj',e,g1,rfl,g2,g6,_⟩:=quiet j xj (by omega) hWj hxj
    obtain rfl:oj'=oj:=by rw[hoj] at g1;exact (Ad g1).symm
    rcases hord init.length j last oj' (by omega) amid hoj with z|z
    ·exact .inr (.inl ⟨by omega,z⟩)
    ·exact .inr (.inr ⟨λt ht=>by rw[<-s1];exact z.2 t ht,g6⟩)
  ·have h4':iR G ih last (A.ctr+init.length) {A1 with hp:=bW (wkR esr)++A1.hp}=some ep:=by rw[A3] at h4;exact h4
   exact Db hG (hrelA _ o y ho ha) y2 y3 hn ht (by omega) hih h4' F' f1 (f2.trans hDr.symm)
 ·intro i j ai aj xi xj hij hip hjp hWi hWj hi hj hxi hxj
  have hjs:j<rops.size:=by
   rcases AO j es'.length with q|q
   ·omega
   ·rw[AA q] at hxj;cases hxj
  obtain ⟨oi,hoi⟩:=getA i (by omega)
  obtain ⟨oj,hoj⟩:=getA j hjs;obtain ⟨s1,s2⟩:=hsame i oi ai hoi hi;obtain ⟨t1,t2⟩:=hsame j oj aj hoj hj;rcases hord i j oi oj hij hoi hoj with z|z
  ·exact .inl z
  have hap:=hapT oi oj ai aj s1 s2 t1 t2 z;rcases AO j init.length with hlt|hge
  ·have hxi':(cY init es)[i]? =some xi:=by rw[<-elo i (by omega)];exact hxi
   have hxj':(cY init es)[j]? =some xj:=by rw[<-elo j hlt];exact hxj
   obtain ⟨oi',ei,y1,y2,rfl⟩:=nz hxi';obtain ⟨oj',ej,y3,y4,rfl⟩:=nz hxj';obtain rfl:oj'=oj:=by rw[alo j hlt,y3] at hoj;exact Ad hoj
   rcases (nq init 0 [] A es A1 h2).2 i j oj' ei ej hij y3 y2 y4 with z2|z2
   ·rw[A3] at z2;exact .inl (hcloA _ oj' hoj _ z2)
   ·exact .inr ⟨hap,z2⟩
  ·obtain ⟨oj',e,g1,rfl,g2,g6,_⟩:=quiet j xj (by omega) hWj hxj
   refine .inr ⟨hap,?_⟩;rcases AO i init.length with hli|hgi
   ·have hxi':(cY init es)[i]? =some xi:=by rw[<-elo i hli];exact hxi
    obtain ⟨oi',ei,y1,y2,rfl⟩:=nz hxi';cases ei with
    |none=>exact λk=>⟨λh=>by simp[dt] at h,λ_=>.inl (by simp[rdO])⟩
    |some ei=>
     obtain ⟨_,m1,m2⟩:=h6 i ei y2;refine λk=>⟨λh=>⟨by simp[rdO,g2],λh'=>ue m2 k (g6 k h') h⟩,λh=>.inl (ue m1 k (g6 k h))⟩
   ·obtain ⟨oi',e',k1,rfl,k2,k6,_⟩:=quiet i xi (by omega) hWi hxi
    obtain ⟨a1,rfl⟩: ∃a1,i=init.length+1+a1:=⟨i-init.length-1,by omega⟩
    obtain ⟨a2,rfl⟩: ∃a2,j=init.length+1+a2:=⟨j-init.length-1,by omega⟩
    rw[ehi] at hxi hxj;refine λk=>⟨λh=>⟨by simp[rdO,g2],CI hnd (by omega) hxi hxj h⟩,λ_=>.inl (by simp[rdO,k2])⟩
 ·exact AJ List.countP_le_length (by simp)
 ·intro i h
  simp only[Aj] at h;rw[Array.getElem?_replicate] at h;split at h<;>simp at h
 ·simp only[Aj]
  rw[Array.getElem?_replicate];split<;>rfl
 ·have hf: ∀i,(Array.replicate rops.size false).getD i false=false:=λi=>by
   simp only[Aj];rw[Array.getElem?_replicate];split<;>rfl
  rw[p9 _ _ _ _ (λj _=>hf j)]
  exact hR.drew.wide λx hx=>.inl hx
def Ext (P:Program)(N:Nums)(G:Nat->Fun)(c:Cfg)(t:Ret):Prop:=
 match c.todo with
 | .inReg rest i dn true::k=>(∃es A',nK G (gu P N) true rest i dn c.A es A'/\A'.ctr=c.A.ctr/\sD P N ⟨k,{A' with ctr:=c.A.ctr+(i+rest.length)},c.rs,c.m⟩ t)∨RegPanD G (gu P N) c.rs c.m t rest i dn c.A
 | .inReg rest i _ false::k=>(∃A',RegSeq G (gu P N) rest i c.A A'/\A'.ctr=c.A.ctr/\sD P N ⟨k,{A' with ctr:=c.A.ctr+(i+rest.length)},c.rs,c.m⟩ t)∨RegPan G (gu P N) c.rs c.m t rest i c.A
 |_=>sD P N c t
theorem cX {c:Cfg}{t:Ret}(h:Ext P N G c t):sD P N c t:=by
 obtain ⟨todo,A,rs,m⟩:=c;cases todo with
 |nil=>exact h
 |cons it k=>
  cases it with
  |inReg rest i dn draw=>
   intro C todo' a w b cs fn hit;cases todo' with
   |nil=>exact hit.elim
   |cons x r=>
    obtain ⟨hi,_⟩:=hit
    grind [ny]
  |_=>exact h
theorem Nx {c:Cfg}{t:Ret}(hr:o7 c.todo=true)(h:sD P N c t):Ext P N G c t:=by
 obtain ⟨todo,A,rs,m⟩:=c;cases todo with
 |nil=>exact h
 |cons it k=>
  cases it with
  |inReg rest i dn draw=>cases hr
  |_=>exact h
section
variable (hG:GOk P N G)(hm:P.follows .mixedOrders=true)
include hG hm
theorem Vl {cfg:Cfg}{t:Ret}(hev:Ev G cfg t):Ext P N G cfg t:=by
 induction hev with
 |weakR hw _ IH=>
  rcases IH with ⟨A',h2,h3,h4⟩|hp
  ·dsimp only at h2 h3 h4
   rw[hw.1] at h3 h4;exact .inl ⟨A',h2.pre hw,h3,h4⟩
  ·exact .inr (RegPan.pre hw hp)
 | @panS o rest i dn k A rs m t e ih hih hw he ht IHc=>
  exact .inr ⟨A,Wk0.refl A,.inr (.inr ⟨A,e,Wk0.refl A,hw,⟨ih,λc t h hr=>cX (IHc c t h),he⟩,ht⟩)⟩
 | @opS o rest i dn k A rs m t e ih hih hw he _ IHc IH=>
  rcases IH with ⟨A',h2,h3,h4⟩|hp
  ·dsimp only at h2 h3 h4
   rw[AS.app_ctr] at h3 h4;exact .inl ⟨A',⟨A,Wk0.refl A,.inr ⟨A,e,Wk0.refl A,hw,⟨ih,λc t h hr=>cX (IHc c t h),he⟩,h2⟩⟩,h3,by grind⟩
  ·have hp:RegPan G (gu P N) rs m t rest (i+1) (A.app o.dst e):=hp
   exact .inr ⟨A,Wk0.refl A,.inr (.inl ⟨A,e,Wk0.refl A,hw,⟨ih,λc t h hr=>cX (IHc c t h),he⟩,hp⟩)⟩
 | @opD o rest i dn k A rs m t e ih hih hw he hok _ IHc IH=>
  rcases IH with ⟨es,A',h2,h3,h4⟩|hp
  ·dsimp only at h2 h3 h4
   rw[AS.app_ctr] at h3 h4;exact .inl ⟨some e::es,A',⟨hw,⟨ih,λc t h hr=>cX (IHc c t h),he⟩,λ_=>hok,h2⟩,h3,by grind⟩
  ·exact .inr (RegPanD.cons hw ⟨ih,λc t h hr=>cX (IHc c t h),he⟩ hok hp)
 | @panM o rest i dn k A rs m t e ih esr hih hw he hd hr hq hn ht IHc=>
  exact .inr ⟨[],o,rest,[],esr,A,e,rfl,rfl,hw,⟨ih,λc t h hr=>cX (IHc c t h),by grind⟩,hd,λj e' h=>by simp at h,⟨hr,by grind,hn⟩,ht⟩
 |weak hr hc hw _ IH=>
  refine Nx hr λC todo a w b cs fn hit hn ht hctr hR hfn hrs hkind=>?_
  exact cX IH C todo a w b cs fn hit hn ht (BS hctr hc) (hw C a w hctr hR) hfn hrs hkind
 | @step cfg t ih hih hrun IH=>
  have good:gu P N ih:=λc t h hr=>cX (IH c t h)
  obtain ⟨ctodo,A,rs,mm⟩:=cfg;cases hrg:o7 ctodo with
  |false=>
   cases ctodo with
   |nil=>cases hrg
   |cons it k=>
    cases it with
    |inReg rest i dn draw=>
     cases rest with
     |nil=>
      have h1:=cX (IH _ _ hrun);cases draw with
      |true=>exact .inl ⟨[],A,rfl,rfl,h1⟩
      |false=>exact .inl ⟨A,Wk0.refl A,rfl,h1⟩
     |cons o rest=>
      simp only[ja] at hrun;have hlen:i+(o::rest).length=i+1+rest.length:=by grind
      cases hw:bL A.tm o.guard with
      |none=>grind
      |some b=>
       rw[hw] at hrun;cases b with
       |false=>
                dsimp only at hrun;cases draw with
                |true=>
                 rcases IH _ _ hrun with ⟨es,A',h2,h3,h4⟩|hp
                 ·dsimp only at h2 h3 h4
                  rw[AS.put_ctr] at h3 h4;exact .inl ⟨none::es,A',⟨hw,h2⟩,h3,by grind⟩
                 ·exact .inr (RegPanD.skip hw hp)
                |false=>
                 rcases IH _ _ hrun with ⟨A',h2,h3,h4⟩|hp
                 ·dsimp only at h2 h3 h4
                  rw[AS.put_ctr] at h3 h4;exact .inl ⟨A',⟨A,Wk0.refl A,.inl ⟨hw,h2⟩⟩,h3,by grind⟩
                 ·exact .inr ⟨A,Wk0.refl A,.inl ⟨hw,hp⟩⟩
       |true=>
                dsimp only at hrun;cases he:ik G ih o (A.ctr+i) A with
                |none=>
                 rw[he] at hrun;cases draw with
                 |true=>
                  cases hq:(rest.isEmpty&&(abo o.after dn&&ou rs)) with
                  |false=>grind
                  |true=>
                   rw[hq] at hrun;simp only[Bool.not_true,Bool.and_false,cond_false] at hrun;split at hrun
                   ·cases hrun
                   ·rename_i e1 he1
                    simp only[At] at hq;obtain ⟨q1,q2,q3⟩:=hq;obtain rfl:rest= []:=List.isEmpty_iff.1 q1;exact .inr ⟨[],o,[],[],[],A,e1,rfl,rfl,hw,⟨ih,good,by simp_all[wkR,bW]⟩,λx hx=>⟨List.all_eq_true.1 q2 x hx,rfl,rfl⟩,λj e' h=>by simp at h,⟨q3,trivial,rfl⟩,hrun⟩
                 |false=>
                  simp only[Bo,cond_false] at hrun;split at hrun
                  ·cases hrun
                  ·rename_i e1 he1
                   exact .inr ⟨A,Wk0.refl A,.inr (.inr ⟨A,e1,Wk0.refl A,hw,⟨ih,good,he1⟩,hrun⟩)⟩
                |some e=>
                 rw[he] at hrun;dsimp only at hrun;cases draw with
                 |true=>
                  dsimp only[cond] at hrun;cases hok:kj o.after e dn with
                  |false=>grind
                  |true=>
                   rw[hok] at hrun;dsimp only at hrun;rcases IH _ _ hrun with ⟨es,A',h2,h3,h4⟩|hp
                   ·dsimp only at h2 h3 h4
                    rw[AS.app_ctr] at h3 h4;exact .inl ⟨some e::es,A',⟨hw,⟨ih,good,he⟩,λ_=>OkS.of hok,h2⟩,h3,by grind⟩
                   ·exact .inr (RegPanD.cons hw ⟨ih,good,he⟩ (OkS.of hok) hp)
                 |false=>
                  dsimp only[cond] at hrun;split at hrun
                  ·rcases IH _ _ hrun with ⟨A',h2,h3,h4⟩|hp
                   ·dsimp only at h2 h3 h4
                    rw[AS.app_ctr] at h3 h4;exact .inl ⟨A',⟨A,Wk0.refl A,.inr ⟨A,e,Wk0.refl A,hw,⟨ih,good,he⟩,h2⟩⟩,h3,by grind⟩
                   ·exact .inr ⟨A,Wk0.refl A,.inr (.inl ⟨A,e,Wk0.refl A,hw,⟨ih,good,he⟩,hp⟩)⟩
                  ·split at hrun
                   ·cases hrun
                   ·rename_i e1 he1
                    rcases IH _ _ hrun with ⟨A',h2,h3,h4⟩|hp
                    ·dsimp only at h2 h3 h4
                     rw[AS.app_ctr] at h3 h4;exact .inl ⟨A',⟨A,Wk0.refl A,.inr ⟨A.frz (Jl (aY A.hp) e.wr),e1,⟨rfl,λC U a w r=>r.frz _⟩,hw,⟨ih,good,he1⟩,h2⟩⟩,h3,by rw[hlen];exact h4⟩
                    ·exact .inr ⟨A,Wk0.refl A,.inr (.inl ⟨A.frz (Jl (aY A.hp) e.wr),e1,⟨rfl,λC U a w r=>r.frz _⟩,hw,⟨ih,good,he1⟩,hp⟩)⟩
    |_=>cases hrg
  |true=>
   refine Nx hrg ?_;intro C todo a w b cs fn hit hn ht hctr hR hfn hrs hkind
   have next: ∀(todo':List Item)(ctodo':C1)(A':AS)(a':Act)(w':World),sD P N {todo:=ctodo',A:=A',rs:=rs,m:=mm} t->vc P N C.n todo' ctodo'->0<A'.ctr->Rel C (λg=>g<A'.ctr) A'.fs a' w'->
     Steps P (lone (b.at a todo) cs w) (lone (b.at a' todo') cs w')->
     ∃v w' fr S1 β1,RetC C mm w' v (unR t) S1 β1/\Steps P (lone (b.at a todo) cs w) (lone fr cs w')/\fr.fn=b.fn/\fr.leaving P w' (iA t.r v):=by
    intro todo' ctodo' A' a' w' hr hit' hctr' hR' hst;obtain ⟨v,w2,fr,S1,β1,k1,k2,k3,k4⟩:=hr C todo' a' w' b cs fn hit' hn ht hctr' hR' hfn hrs hkind;exact ⟨v,w2,fr,S1,β1,k1,hst.trans k2,k3,k4⟩
   have ending: ∀(fr:Frame),fr.mode= .returning->fr.defers=a.defers->fr.tmps=a.tmps->fr.kind=b.kind->fr.fn=b.fn->step P (lone (b.at a todo) cs w)= .next (lone fr cs w)->fC A (fQ rs) mm=some t->
     ∃v w' fr S1 β1,RetC C mm w' v (unR t) S1 β1/\Steps P (lone (b.at a todo) cs w) (lone fr cs w')/\fr.fn=b.fn/\fr.leaving P w' (iA t.r v):=by
    intro fr h1 h2 h3 h4 h5 h6 hro;obtain ⟨S,β,used,hRC⟩:=hR;cases hav:kw A (fQ rs) with
    |none=>grind [fC]
    |some av=>
     have hnp:dv t.r=none:=by
      obtain ⟨v,r1,r2⟩:=lG (P:=P) hRC hrs.1 hav;obtain ⟨S1,β1,hret⟩:=nB hRC.hi hav r2 hro;exact hret.np
     rw[xX hnp]
     have hl:Leaves P fn a.tmps (λe w'=> ∃v S1 β1,e= .returned v/\RetC C mm w' v t S1 β1) C.dfr .returning w:=by
      have h0:=hrs.2;split at h0
      ·exact h0.ret _ _ _ λos=>by
                obtain ⟨v,r1,r2⟩:=lG (P:=P) (hRC.more os) hrs.1 hav;obtain ⟨S1,β1,hret⟩:=nB (hRC.more os).hi hav r2 hro
                grind
      ·rw[h0]
       obtain ⟨v,r1,r2⟩:=lG (P:=P) hRC hrs.1 hav;obtain ⟨S1,β1,hret⟩:=nB hRC.hi hav r2 hro;exact ⟨v,r1,v,S1,β1,rfl,hret⟩
     obtain ⟨e',w',fr',⟨v,S1,β1,rfl,hret⟩,hst,q1,q2⟩:=leaves_steps C.dfr .returning w fr cs h1 (by rw[h2];exact hRC.defers) h3 (by grind) (by grind) hl
     exact ⟨v,w',fr',S1,β1,hret,.head h6 hst,q1.trans h5,by grind [sy]⟩
   cases ctodo with
   |nil=>
    cases todo with
    |cons=>exact hit.elim
    |nil=>exact ending {b.at a [] with mode:=.returning} rfl rfl rfl rfl rfl step_end hrun
   |cons it ak=>
    cases todo with
    |nil=>exact hit.elim
    |cons i k=>
     obtain ⟨hi,hk⟩:=hit;cases it with
     |inReg=>grind [ny]
     |inScope=>
      cases i<;>simp only[ny] at hi
      exact next k ak A a w (cX (IH _ _ hrun)) hk hctr hR (.one Ec)
     |inBlock id=>
      cases i<;>simp only[ny] at hi
      exact next k ak A a w (cX (IH _ _ hrun)) hk hctr hR (.one step_inBlock)
     |inLoop c=>
      simp only[ja] at hrun;cases i<;>simp only[ny] at hi
      ·obtain ⟨c',rfl,hc⟩:=hi
       refine next (.code c':: .inLoop c'::k) (.code c:: .inLoop c::ak) A.nub a w (cX (IH _ _ hrun)) ⟨hc,hc,hk⟩ hctr ?_ (.one step_loop)
       rw[AS.nub_fs];exact hR
      ·rename_i c'
       refine next (.code c':: .inLoop c'::k) (.code c:: .inLoop c::ak) A.nub a w (cX (IH _ _ hrun)) ⟨hi,hi,hk⟩ hctr ?_ (.one step_inLoop)
       rw[AS.nub_fs];exact hR
     |code ac=>
      cases i<;>simp only[ny] at hi
      rename_i c;cases c with
      |skip=>
       obtain rfl:ACode.skip=ac:=by grind [ce]
       exact next k ak A a w (cX (IH _ _ hrun)) hk hctr hR (.one step_skip)
      |label lb=>
       obtain rfl:ACode.skip=ac:=by grind [ce]
       exact next k ak A a w (cX (IH _ _ hrun)) hk hctr hR (.one step_label)
      |ret=>
       obtain rfl:ACode.ret=ac:=by grind [ce]
       exact ending {b.at a (.code .ret::k) with mode:=.returning} rfl rfl rfl rfl rfl step_ret hrun
      |seq x y=>
       simp only[ce] at hi;split at hi
       ·rename_i x' y' h1 h2
        obtain rfl:=Ad hi;exact next (.code x:: .code y::k) (.code x':: .code y'::ak) A a w (cX (IH _ _ hrun)) ⟨h1,h2,hk⟩ hctr hR (.one step_seq)
       grind
      |cond x y z=>
       simp only[ce] at hi;split at hi
       ·rename_i x' y' z' h0 h1 h2
        obtain rfl:=Ad hi;simp only[ja] at hrun;split at hrun
        ·rename_i tt hev
         obtain ⟨S,β,used,hRC⟩:=hR;have hv:=uV hRC hn x x' h0;rw[zh,hev] at hv;have hstep:=step_cond (P:=P) (b:=b) (a:=a) (k:=k) (cs:=cs) (w:=w) (c:=x) (x:=y) (y:=z) hv.bool_inv;refine next (.code (if tt=true then y else z)::k) (.code (bif tt then y' else z')::ak) A a w (cX (IH _ _ hrun)) ⟨?_,hk⟩ hctr ⟨S,β,used,hRC⟩ (.one hstep)
         cases tt
         ·exact h2
         ·exact h1
        grind
       grind
      |block id x=>
       simp only[ce] at hi;obtain ⟨x',h1,rfl⟩:=map_some hi;exact next (.code x:: .inBlock id::k) (.code x':: .inBlock id::ak) A a w (cX (IH _ _ hrun)) ⟨h1,rfl,hk⟩ hctr hR (.one step_block)
      |loop x=>
       simp only[ce] at hi;obtain ⟨x',h1,rfl⟩:=map_some hi;exact next (.code (.loop x)::k) (.inLoop x'::ak) A a w (cX (IH _ _ hrun)) ⟨⟨x,rfl,h1⟩,hk⟩ hctr hR (.refl _ _)
      |scope x=>
       simp only[ce] at hi;obtain ⟨x',h1,rfl⟩:=map_some hi;exact next (.code x:: .inScope x::k) (.code x':: .inScope::ak) A a w (cX (IH _ _ hrun)) ⟨h1,trivial,hk⟩ hctr hR (.one LY)
      |exit id=>
       obtain rfl:ACode.exit id=ac:=by grind [ce]
       simp only[ja] at hrun;split at hrun
       ·rename_i k' hex
        obtain ⟨k2,e1,e2⟩:=BU hk hex;exact next k2 k' A a w (cX (IH _ _ hrun)) e2 hctr hR (.one (step_exit e1))
       grind
      |region id rops draw=>
       simp only[ce] at hi;cases hl:fp P N C.n rops 0 rops.toList with
       |none=>grind
       | some l =>
                rw[hl] at hi;dsimp only at hi;split at hi
                ·rename_i hreg
                 obtain rfl:=Ad hi;simp only[ja] at hrun;have hc0:0<A.ctr:=hctr;have hsz:(lC draw (ch [] l)).length=rops.size:=by rw[kg,(gm hl).1];simp
                 have hpan:RegPan G (gu P N) rs mm t (lC draw (ch [] l)) 0 A->draw=false->
                   ∃v w' fr S1 β1,RetC C mm w' v (unR t) S1 β1/\Steps P (lone (b.at a (.code (.region id rops draw)::k)) cs w) (lone fr cs w')/\fr.fn=b.fn/\fr.leaving P w' (iA t.r v):=by
                  rintro hp rfl
                  obtain ⟨e,a',w',⟨v,x,A1,S,β,used,U,rfl,hR1,hv1,hend⟩,harr⟩:=Py (C:=C) hG hn ht (id:=id) hl rfl hp hctr hR b k cs;obtain ⟨todo1,hst⟩:=harr;obtain ⟨v',w'',fr',S1,β1,k1,k2,k3,k4⟩:=acx (cs:=cs) hR1 hv1 hend hrs {b.at a' todo1 with mode:=.panicking [{v:=v,recovered:=false}]} rfl rfl rfl hkind hfn
                  exact ⟨v',w'',fr',S1,β1,k1,hst.trans k2,k3,k4⟩
                 have key:(∃v w' fr S1 β1,RetC C mm w' v (unR t) S1 β1/\Steps P (lone (b.at a (.code (.region id rops draw)::k)) cs w) (lone fr cs w')/\fr.fn=b.fn/\fr.leaving P w' (iA t.r v))∨ ∃(A':AS),sD P N {todo:=ak,A:=({tm:=A'.tm,hp:=A'.hp,ctr:=A.ctr+(0+(lC draw (ch [] l)).length)}:AS),rs:=rs,m:=mm} t/\
                   (Code.region id rops draw).wp P (λe a' w'=>e= .normal/\Rel C (fj A.ctr λj=>decide (j<rops.size)) A'.fs a' w') a w:=by
                  cases draw with
                  |true=>
                   rcases IH _ _ hrun with ⟨es,A',x2,x3,x4⟩|hp
                   rotate_left
                   ·left
                    obtain ⟨e,a',w',⟨v,x,A1,F',S,β,used,U,rfl,hR1,hv1,hnr,hend⟩,harr⟩:=Ma hG hm hn ht (id:=id) hl (hreg rfl) rfl hp hctr hR b k cs;obtain ⟨todo1,hst⟩:=harr;obtain ⟨v',S1,β1,k1,k4⟩:=Xk hR1 hv1 hnr hend hrs {b.at a' todo1 with mode:=.panicking [{v:=v,recovered:=false}]} rfl rfl hfn
                    exact ⟨v',w',_,S1,β1,k1,hst,rfl,k4⟩
                   exact .inr ⟨A',x4,Eu hG hm hn ht (id:=id) hl (hreg rfl) rfl x2 hctr hR⟩
                  |false=>
                   rcases IH _ _ hrun with ⟨A',x2,x3,x4⟩|hp
                   ·exact .inr ⟨A',x4,Eo hG hn ht (id:=id) hl rfl x2 hctr hR⟩
                   grind
                 rcases key with key|⟨A',x4,hwp⟩
                 ·exact key
                 obtain ⟨e,a',w',⟨rfl,hR'⟩,harr⟩:=hwp b k cs;refine next k ak _ a' w' x4 hk (BS hc0 (Nat.le_add_right _ _)) ?_ harr
                 refine hR'.wide λg hg=>?_
                 dsimp only;rcases hg with hg|⟨j,hj,rfl⟩
                 all_goals grind
                grind
      |_=>grind [ce]
theorem jX {f:Nat}{args:B7}{bs:C5}{t:Ret}(h:ag G f args bs t):fq P N f args bs t:=by
 unfold ag at h;cases hf:G f with
 |none=>grind
 |code F=>
  rw[hf] at h;obtain ⟨h1,h2⟩:=h;exact Bt hG hf h1 (cX (Vl hG hm h2))
 |prim raw p=>
  rw[hf] at h;have:=hG f
  grind
end
end
section
variable {G:Nat->Fun}
open Classical in
end
section
variable {G:Nat->Fun}
theorem fK {c c':Cfg}{t:Ret}(hs: ∀ih:Cfg->C3,ja G ih c=ih c')(h:Ev G c' t):Ev G c t:=by
 classical
 refine .step (λx=>if x=c' then some t else none) (λx t' hx=>?_) ((hs _).trans (Ac rfl))
 grind
section
variable {x:Opd}{a b:ACode}{k:C1}{A:AS}{rs:CT}{m:Nat}{t:Ret}
theorem Vh (h:fC A (fQ rs) m=some t):Ev G ⟨.code .ret::k,A,rs,m⟩ t:=.step (λ_=>none) (λ_ _ h=>by cases h) h
theorem Vm (h:fC A (fQ rs) m=some t):Ev G ⟨[],A,rs,m⟩ t:=.step (λ_=>none) (λ_ _ h=>by cases h) h
theorem ads (c:Bool)(hx:evo A.tm x= .bool c)(h1:c=true->Ev G ⟨.code a::k,A,rs,m⟩ t)(h2:c=false->Ev G ⟨.code b::k,A,rs,m⟩ t):Ev G ⟨.code (.cond x a b)::k,A,rs,m⟩ t:=by
 refine fK (c':=⟨.code (bif c then a else b)::k,A,rs,m⟩) (λih=>by grind [ja]) ?_
 grind
end
theorem adp {b:ACode}{k:C1}{A:AS}{rs:CT}{m:Nat}{t:Ret}(h:Ev G ⟨.code b:: .inLoop b::k,A.nub,rs,m⟩ t):Ev G ⟨.inLoop b::k,A,rs,m⟩ t:=fK (λ_=>rfl) h
theorem Vi {i:Nat}{dn:Df}{draw:Bool}{k:C1}{tm:Cf}{hp:az}{ctr:Nat}{rs:CT}{m:Nat}{t:Ret}(h:Ev G ⟨k,⟨tm,hp,ctr+i⟩,rs,m⟩ t):
  Ev G ⟨.inReg [] i dn draw::k,⟨tm,hp,ctr⟩,rs,m⟩ t:=fK (λ_=>rfl) h
def OpE (G:Nat->Fun)(o:AOper)(g:Nat)(A:AS)(e:Eff):Prop:= ∃ih:Cfg->C3,(∀c t,ih c=some t->Ev G c t)/\ik G ih o g A=some e
theorem OpE.op {d:CV}{op:AOp}{gd:Dn}{af:Cc}{g:Nat}{A:AS}{e:Eff}(hop: ∀f args,op≠ .call f args)(h:aX op g (ug (d.getD 0) 0) (op.opds.map (evo A.tm)) (aY A.hp)=some e):OpE G ⟨d,op,gd,af⟩ g A e:=by
 refine ⟨λ_=>none,λ_ _ h=>(by cases h),?_⟩
 grind [ik]
theorem OpE.call {d:CV}{fo:Opd}{args:Do}{gd:Dn}{af:Cc}{g:Nat}{A:AS}{e:Eff}{f:Nat}{cap vals:B7}{c:CIn}{t:Ret}(hv:(fo::args).map (evo A.tm)= .fn f cap::vals)(hc:fg (aY A.hp) (G (bV f)).raw (bif isB f then cap++vals else vals++cap)=some c)(hG:ag G (bV f) c.args c.bs t)(ho:ck (aY A.hp) c g (d.getD 0) t=some e):
  OpE G ⟨d,.call fo args,gd,af⟩ g A e:=by
 unfold ag at hG;cases hf:G (bV f) with
 |none=>grind
 |prim r p=>
  rw[hf] at hG;refine ⟨λ_=>none,λ_ _ h=>(by cases h),?_⟩
  show oM G (λ_=>none) _ _ _ _=_
  grind [oM]
 |code F=>
  rw[hf] at hG;obtain ⟨h1,h2⟩:=hG
  classical
  refine ⟨λx=>if x=F.start c.args c.bs then some t else none,λx t' hx=>?_,?_⟩
  ·grind
  show oM G (λx=>if x=F.start c.args c.bs then some t else none) _ _ _ _=_
  grind [oM]
section
variable {hg:Nat->Cl}{raw:Bool}{args:B7}
theorem qU (h:aM args=true):fg hg raw args=some {args:=args,bs:=[],D:=[],fz:=[]}:=by
 grind [fg,jg]
theorem Nj {g dst:Nat}{r:AV}(h:r.dry=true):ck hg {args:=args,bs:=[],D:=[],fz:=[]} g dst {r:=r,bs:=[]}=some {res:=r}:=by
 grind [ck]
end
section
variable {o:AOper}{rest:Cb}{i:Nat}{dn:Df}{draw:Bool}{k:C1}{A:AS}{rs:CT}{m:Nat}{t:Ret}
section
variable {e:Eff}(hw:bL A.tm o.guard=some true)(he:OpE G o (A.ctr+i) A e)
include hw he
theorem af0 (h:Ev G ⟨.inReg rest (i+1) dn false::k,A.app o.dst e,rs,m⟩ t):Ev G ⟨.inReg (o::rest) i dn false::k,A,rs,m⟩ t:=by
 obtain ⟨ih,hih,hn⟩:=he;exact .opS ih hih hw hn h
theorem af2 (hg:OkS o.after e dn)(h:Ev G ⟨.inReg rest (i+1) (mb i e dn) true::k,A.app o.dst e,rs,m⟩ t):Ev G ⟨.inReg (o::rest) i dn true::k,A,rs,m⟩ t:=by
 obtain ⟨ih,hih,hn⟩:=he;exact .opD ih hih hw hn hg h
end
theorem af1 (hw:bL A.tm o.guard=some false)(h:Ev G ⟨.inReg rest (i+1) dn draw::k,A.put o.dst iP,rs,m⟩ t):Ev G ⟨.inReg (o::rest) i dn draw::k,A,rs,m⟩ t:=by
 grind [fK,ja]
end
theorem lZ {f:Nat}{F:AFunc}{args:B7}{bs:C5}{t:Ret}(hf:G f= .code F)(hl:args.length=F.np)(h:Ev G ⟨[.code F.body],⟨tms 0 args,jM 0 bs,1⟩,F.results,bs.length⟩ t):ag G f args bs t:=by
 unfold ag;rw[hf];exact ⟨hl,h⟩
end
structure AS.Same (A B:AS):Prop where
 tm:bI A.tm=bI B.tm
 hp:aY A.hp=aY B.hp
 ctr:A.ctr=B.ctr
theorem AS.Same.refl (A:AS):A.Same A:=⟨rfl,rfl,rfl⟩
theorem AS.Same.put {A B:AS}(h:A.Same B)(d:CV)(v:AV):(A.put d v).Same (B.put d v):=by
 cases d with
 |none=>exact h
 |some d=>exact ⟨by funext t;simp only[AS.put,bI];rw[h.tm],h.hp,h.ctr⟩
theorem rq {a b:az}(h:aY a=aY b)(l:az):aY (l++a)=aY (l++b):=by
 grind [gX]
section
variable {A B:AS}(h:A.Same B)
include h
theorem AS.Same.app (d:CV)(e:Eff):(A.app d e).Same (B.app d e):=by
 have h1:=h.put d e.res;refine ⟨h1.tm,?_,h1.ctr⟩;show aY (e.wr++A.hp)=aY (e.wr++B.hp)
 exact rq h.hp _
theorem AS.Same.frz (D:Cc):(A.frz D).Same (B.frz D):=by
 refine ⟨?_,?_,h.ctr⟩
 ·funext t
  show bI (jt _ A.tm) t=bI (jt _ B.tm) t
  rw[lg,lg,h.tm,h.hp]
 ·show aY (bW D++renH _ A.hp)=aY (bW D++renH _ B.hp)
  refine rq ?_ _
  funext k
  rw[jJ,jJ,h.hp]
theorem Wk0.of_same:Wk0 A B:=⟨h.ctr.symm,λC U a w r=>by
 have:A.fs=B.fs:=by unfold AS.fs;rw[h.tm,h.hp]
 grind⟩
end
section
variable {G:Nat->Fun}{todo:C1}{A B:AS}
theorem Wk.of0 (h:Wk0 A B):Wk A B:=λC a w _ r=>by
 have:=h.2 C _ a w r;rw[h.1];exact this
def mU:C1->Bool
 | .inReg _ _ _ d::_=> !d
 |_=>true
theorem uD {rs:CT}{m:Nat}{t:Ret}(hd:mU todo=true)(h:Wk0 A B)(k:Ev G ⟨todo,B,rs,m⟩ t):Ev G ⟨todo,A,rs,m⟩ t:=by
 cases todo with
 |nil=>exact .weak rfl (Nat.le_of_eq h.1.symm) (.of0 h) k
 |cons it r=>
  cases it with
  |inReg rest i dn d=>
   cases d with
   |true=>cases hd
   |false=>exact .weakR h k
  |_=>exact .weak rfl (Nat.le_of_eq h.1.symm) (.of0 h) k
def yJ:Cc->Cf->Cf
 | [],_=>[]
 |t::L,tm=>(t,bI tm t)::yJ L tm
def yK:Cc->az->az
 | [],_=>[]
 |k::L,hp=>(k,aY hp k)::yK L hp
theorem xZ (tm:Cf): ∀L,bI (yJ L tm++tm)=bI tm
 | []=>rfl
 |t::L=>by
  funext u
  simp only[yJ,BD,bI,xZ tm L]
  grind
theorem yP (hp:az): ∀L,aY (yK L hp++hp)=aY hp
 | []=>rfl
 |t::L=>by
  funext u
  simp only[yK,BD,aY,yP hp L]
  grind
theorem au {tm:Cf}{hp:az}{ctr:Nat}{rs:CT}{m:Nat}{t:Ret}(L K:Cc)(h:Ev G ⟨todo,⟨yJ L tm++tm,yK K hp++hp,ctr⟩,rs,m⟩ t)(hd:mU todo=true:=by rfl):Ev G ⟨todo,⟨tm,hp,ctr⟩,rs,m⟩ t:=
 uD (B:=⟨yJ L tm++tm,yK K hp++hp,ctr⟩) hd (.of_same ⟨(xZ tm L).symm,(yP hp K).symm,rfl⟩) h
theorem iM {b:ACode}{k:C1}{A:AS}{rs:CT}{m:Nat}{t:Ret}(h:Ev G ⟨.code b:: .inLoop b::k,A,rs,m⟩ t):Ev G ⟨.inLoop b::k,A,rs,m⟩ t:=by
 refine adp ?_;have hs:A.nub.Same A:=⟨congrArg FSt.tm (AS.nub_fs A),congrArg FSt.hp (AS.nub_fs A),rfl⟩;exact uD (B:=A) rfl (.of_same hs) h
end
def mW:Cf->Nat->(AV->Prop)->Prop
 | [],_,k=>k .any
 |(t,v)::r,u,k=>bif Nat.beq t u then k v else mW r u k
theorem iK {k:AV->Prop}{u:Nat}: ∀{l:Cf},mW l u k↔k (bI l u)
 | []=>Iff.rfl
 |(t,v)::r=>by
  simp only[mW,bI]
  by_cases h:t=u
  ·simp_all
  ·have:Nat.beq t u=false:=by
    grind [Nat.eq_of_beq_eq_true]
   rw[this,Aa h];exact iK
def dU:az->Nat->(Cl->Prop)->Prop
 | [],_,k=>k none
 |(t,v)::r,u,k=>bif Nat.beq t u then k v else dU r u k
theorem bG {k:Cl->Prop}{u:Nat}: ∀{l:az},dU l u k↔k (aY l u)
 | []=>Iff.rfl
 |(t,v)::r=>by
  simp only[dU,aY]
  by_cases h:t=u
  ·simp_all
  ·have:Nat.beq t u=false:=by
    grind [Nat.eq_of_beq_eq_true]
   rw[this,Aa h];exact bG
def P6 (tm:Cf):Opd->(AV->Prop)->Prop
 | .t n,k=>mW tm n k
 | .c v,k=>k v
theorem IY {tm:Cf}{k:AV->Prop}{x:Opd}:P6 tm x k↔k (evo tm x):=by
 cases x with
 |t n=>exact iK
 |c v=>exact Iff.rfl
def vx (tm:Cf):Do->(B7->Prop)->Prop
 | [],k=>k []
 |x::r,k=>P6 tm x λv=>vx tm r λvs=>k (v::vs)
theorem ua {tm:Cf}: ∀{l:Do}{k:B7->Prop},vx tm l k↔k (l.map (evo tm))
 | [],k=>Iff.rfl
 |x::r,k=>by simp only[vx,IY,An,ua]
def vH:Nat->B7->(B7->Prop)->Prop
 |0,l,k=>k l
 |_+1,[],k=>k []
 |n+1,_::r,k=>vH n r k
theorem qv: ∀{n:Nat}{l:B7}{k:B7->Prop},vH n l k↔k (l.drop n)
 |0,l,k=>Iff.rfl
 |n+1,[],k=>Iff.rfl
 |n+1,_::r,k=>by simp only[vH,List.drop_succ_cons];exact qv
def FT:Nat->B7->(B7->Prop)->Prop
 |0,_,k=>k []
 |_+1,[],_=>False
 |n+1,a::r,k=>FT n r λl=>k (a::l)
theorem Gz: ∀{n:Nat}{l:B7}{k:B7->Prop},FT n l k->n<=l.length/\k (l.take n)
 |0,l,k,h=>⟨Nat.zero_le _,by grind [FT]⟩
 |n+1,[],k,h=>h.elim
 |n+1,a::r,k,h=>by
  obtain ⟨h1,h2⟩:=Gz (n:=n) (l:=r) h
  grind
def FU (sz:CV)(cs:B7)(k:AV->Prop):Prop:=
 match sz with
 |none=>match cs with
  |c::_=>k c
  | []=>False
 |some n=>FT n cs λl=>k (.agg l)
theorem II {sz:CV}{cs:B7}{k:AV->Prop}(h:FU sz cs k): ∃v,fD sz cs=some v/\k v:=by
 unfold FU at h;unfold fD;cases sz with
 |none=>
  grind
 |some n=>
  obtain ⟨h1,h2⟩:=Gz h
  grind
def tV:Nat->B7->B7->(B7->Prop)->Prop
 |0,[],l,k=>k l
 |0,c::cs,_::l,k=>tV 0 cs l λr=>k (c::r)
 |n+1,cs,a::l,k=>tV n cs l λr=>k (a::r)
 |_,_,_,_=>False
theorem Ax: ∀{n:Nat}{cs l:B7}{k:B7->Prop},tV n cs l k->n+cs.length<=l.length/\k (dw l n cs)
 |0,[],l,k,h=>⟨by simp,by grind [tV,dw]⟩
 |0,c::cs,[],k,h=>by grind [tV]
 |0,c::cs,a::l,k,h=>by
  obtain ⟨h1,h2⟩:=Ax (n:=0) (cs:=cs) (l:=l) (k:=λr=>k (c::r)) h
  grind [dw]
 |n+1,cs,[],k,h=>by grind [tV]
 |n+1,cs,a::l,k,h=>by
  have h':tV n cs l λr=>k (a::r):=by cases cs<;>exact h
  obtain ⟨h1,h2⟩:=Ax h'
  grind [dw]
def Qy:Nat->B7->(AV->Prop)->Prop
 |0,[],_=>False
 |_+1,[],_=>False
 |0,a::_,k=>k a
 |n+1,_::r,k=>Qy n r k
theorem Ob: ∀{n:Nat}{l:B7}{k:AV->Prop},Qy n l k->n<l.length/\k (l.getD n .any)
 |0,[],_,h=>h.elim
 |n+1,[],_,h=>h.elim
 |0,a::r,k,h=>⟨by simp,by grind [Qy]⟩
 |n+1,a::r,k,h=>by
  obtain ⟨h1,h2⟩:=Ob (n:=n) (l:=r) h
  grind
def yZ:B7->(B7->Prop)->Prop
 | [],k=>k []
 |a::r,k=>yZ r λl=>k (a::l)
theorem yY: ∀{l:B7}{k:B7->Prop},yZ l k↔k l
 | [],k=>Iff.rfl
 |a::r,k=>by simp only[yZ];exact yY
def ry (v:AV)(k:B7->Prop):Prop:=
 match v with
 | .agg cs=>k cs
 |a=>bif a.flat then k [a] else False
theorem qx {v:AV}{k:B7->Prop}(h:ry v k): ∃cs,dM v=some cs/\k cs:=by
 unfold ry at h
 grind [dM]
structure condC (c:Bool)(p q:Prop):Prop where
 yes:c=true->p
 no:c=false->q
theorem abA {p q:Prop}(h:p):condC true p q:=⟨λ_=>h,λh=>(by cases h)⟩
theorem abC {p q:Prop}(h:q):condC false p q:=⟨λh=>(by cases h),λ_=>h⟩
def atC (hp:az)(a:AV)(k:B7->Cc->Prop):Prop:=
 match a with
 | .rp cs=>k cs []
 | .ref key g o=>dU hp key λx=>match x with
  |some (g',.cells cs)=>g'=g/\vH o cs λl=>k l [key]
  |_=>False
 | .er key g i o=>dU hp key λx=>match x with
  |some (g',.vec _ es)=>g'=g/\ ∃cs,es[i]? =some cs/\vH o cs λl=>k l [key]
  |_=>False
 |_=>False
theorem VR {hp:az}{a:AV}{k:B7->Cc->Prop}(h:atC hp a k): ∃cs rd,dI (aY hp) a=some (cs,rd)/\k cs rd:=by
 unfold atC at h;split at h
 ·exact ⟨_,_,rfl,h⟩
 ·grind [bG,qv,dI]
 ·rw[bG] at h
  grind [qv,dI]
 grind
inductive TakeC (n:Nat)(es:B6)(k:B6->Prop):Prop
 |full (h:n=es.length) (hk:k es):TakeC n es k
 |part (h:n<=es.length) (hk:k (es.take n)):TakeC n es k
theorem TakeC.ok {n:Nat}{es:B6}{k:B6->Prop}(h:TakeC n es k):n<=es.length/\k (es.take n):=by
 cases h<;>grind
def Wz (hp:az)(s:Nat)(y:AV)(k:B6->Cc->Prop):Prop:=
 match y with
 | .str l=>s=1/\k (byteCells l) []
 | .sl s' es=>s'=s/\k es []
 | .con (.slice none 0 0)=>k [] []
 | .vs key g n=>dU hp key λz=>match z with
  |some (g',.vec s' es)=>g'=g/\s'=s/\TakeC n es λl=>k l [key]
  |_=>False
 | .vw key g o n=>dU hp key λz=>match z with
  |some (g',.vec s' es)=>g'=g/\s'=s/\Nat.ble (o+n) es.length=true/\k ((es.drop o).take n) [key]
  |_=>False
 |_=>False
theorem ab2 {hp:az}{s:Nat}{y:AV}{k:B6->Cc->Prop}(h:Wz hp s y k): ∃ys r,aX.appSrc (aY hp) s y=some (ys,r)/\k ys r:=by
 unfold Wz at h;unfold aX.appSrc;split at h
 ·grind
 ·grind
 ·grind
 ·rw[bG] at h
  split at h
  ·rename_i hx
   obtain ⟨rfl,rfl,h⟩:=h;obtain ⟨h1,h⟩:=h.ok
   grind
  grind
 all_goals grind [bG,Nat.le_of_ble_eq_true]
def pY (v:AV)(y:Nat)(k:Nat->Prop):Prop:=
 match v with
 | .int _ i=>0<=i/\i<=y/\k i.toNat
 |_=>False
theorem adG {v:AV}{y:Nat}{k:Nat->Prop}(h:pY v y k): ∃i,bnd v y=some i/\k i:=by
 unfold pY at h
 grind [bnd]
def O0 (lo hi mx:Bool)(n:Nat)(bs:B7)(k:Nat->Nat->Prop):Prop:=
 match lo,hi,mx,bs with
 |false,false,false,[]=>k 0 n
 |true,false,false,[a]=>pY a n λl=>k l n
 |false,true,false,[b]=>pY b n λh=>k 0 h
 |true,true,false,[a,b]=>pY b n λh=>pY a h λl=>k l h
 |false,true,true,[b,c]=>pY c n λm=>pY b m λh=>k 0 h
 |true,true,true,[a,b,c]=>pY c n λm=>pY b m λh=>pY a h λl=>k l h
 |_,_,_,_=>False
theorem Nu {lo hi mx:Bool}{n:Nat}{bs:B7}{k:Nat->Nat->Prop}(h:O0 lo hi mx n bs k): ∃a b,aX.slBounds lo hi mx n bs=some (a,b)/\k a b:=by
 unfold O0 at h;unfold aX.slBounds;split at h
 all_goals grind [adG]
def Ye (x:AV)(k:Nat->Prop):Prop:=
 match x with
 | .sl _ es=>k es.length
 | .con (.slice none 0 0)=>k 0
 | .vs _ _ n=>k n
 | .vw _ _ _ n=>k n
 |_=>False
theorem ac0 {x:AV}{k:Nat->Prop}(h:Ye x k): ∃n,lY x=some n/\k n:=by
 unfold Ye at h;split at h
 ·exact ⟨_,rfl,h⟩
 ·exact ⟨_,rfl,h⟩
 ·exact ⟨_,rfl,h⟩
 ·exact ⟨_,rfl,h⟩
 grind
inductive B2s (hp:az)(x:AV)(k:B5->Cc->Prop):Prop
 |mk (es:B6) (r:Cc) (l:B5) (h1:dH (aY hp) x=some (es,r)) (h2:aX.bytesOf es=some l) (h3:k l r):B2s hp x k
inductive BslC (hp:az)(s:Nat)(z:B7)(n:Nat)(ps:Cc)(vs:B7)(k:B6->Cc->Prop):Prop
 |pure (h1:aM vs=true) (es:B6) (h2:l9 s (iV n z) ps vs=some es) (hk:k es []):BslC hp s z n ps vs k
 |frz (D:Cc) (hD:cm true vs=D) (hne:D≠ []) (es:B6) (h2:l9 s (iV n z) ps (dT (j6 (aY hp) D) vs)=some es) (hk:k es D):BslC hp s z n ps vs k
section
variable (op:AOp)(g key:Nat)(vals:B7)(hp:az)(k:Eff->Prop)
def opD:Prop:= ∃e,aX op g key vals (aY hp)=some e/\k e
def stC (key' g' i o sz:Nat)(cs:B7)(k:Eff->Prop):Prop:=
 match cs with
 | [.vs kk gg nn]=>dU hp key' λy=>match y with
  |some (g'',.vec s es)=>g''=g'/\ ∃old,es[i]? =some old/\Nat.ble (o+sz) s=true/\(!Nat.beq kk key'&&w7 ((old.drop o).take 1) [kk])=true/\k {res:=.any,wr:=[(key',some (g'',.vec s (es.set i (dw old o [.vs kk gg nn]))))],rd:=[key',kk]}
  |_=>False
 |cs=>aM cs=true/\dU hp key' λy=>match y with
  |some (g'',.vec s es)=>g''=g'/\ ∃old,es[i]? =some old/\Nat.ble (o+sz) s=true/\k {res:=.any,wr:=[(key',some (g'',.vec s (es.set i (dw old o cs))))],rd:=[key']}
  |_=>False
def opC:Prop:=
 match op,vals with
 | .mv _,[x]=>k {res:=x}
 | .pick ..,[c,a,b]=>match c with
  | .bool t=>condC t (k {res:=a}) (k {res:=b})
  |_=>False
 | .box _,[x]=>ry x λcs=>k {res:=.ref key g 0,wr:=[(key,some (g,.cells cs))]}
 | .alloc z,[]=>ry z λcs=>k {res:=.ref key g 0,wr:=[(key,some (g,.cells cs))]}
 | .build z ps _,vs=> ∃cs,sr z ps vs=some cs/\yZ cs λl=>k {res:=.agg l}
 | .load sz _,[a]=>atC hp a λcs rd=>FU sz cs λv=>k {res:=v,rd:=rd,sf:=tw a cs sz}
 | .store sz o1 o2,[a,x]=>match a with
  | .ref key' g' o=>ry x λcs=>bif Nat.beq cs.length sz then (dU hp key' λy=>match y with
   |some (g'',.cells old)=>g''=g'/\tV o cs old λnew=>k {res:=.any,wr:=[(key',some (g'',.cells new))],rd:=[key']}
   |_=>False) else False
  | .er key' g' i o=>ry x λcs=>bif Nat.beq cs.length sz then stC hp key' g' i o sz cs k else False
  |_=>opD (.store sz o1 o2) g key [a,x] hp k
 | .fadr off _,[a]=>match a with
  | .ref key' g' o=>k {res:=.ref key' g' (o+off)}
  | .er key' g' i o=>k {res:=.er key' g' i (o+off)}
  | .rp cs=>vH off cs λl=>k {res:=.rp l}
  |_=>False
 | .iadr s o1 o2,[x,i]=>match x with
  | .sl s' es=>match i with
   | .int _ j=>s'=s/\0<=j/\ ∃cs,es[j.toNat]? =some cs/\k {res:=.rp cs}
   |_=>False
  | .vs key' g' n=>match i with
   | .int _ j=>dU hp key' λy=>match y with
    |some (g'',.vec s' _)=>g''=g'/\s'=s/\0<=j/\j.toNat<n/\k {res:=.er key' g' j.toNat 0,rd:=[key']}
    |_=>False
   |_=>False
  | .vw key' g' o n=>match i with
   | .int _ j=>dU hp key' λy=>match y with
    |some (g'',.vec s' _)=>g''=g'/\s'=s/\0<=j/\j.toNat<n/\k {res:=.er key' g' (o+j.toNat) 0,rd:=[key']}
    |_=>False
   |_=>False
  |_=>opD (.iadr s o1 o2) g key [x,i] hp k
 | .bin op _ _,[x,y]=> ∃v,bm op x y=some v/\k {res:=v}
 | .ext _ i,[x]=>match x with
  | .tup vs=>Qy i vs λv=>k {res:=v}
  |_=>False
 | .len str o,[x]=>match x with
  | .sl _ es=>bif str then False else k {res:=.int .i64 es.length}
  | .vs _ _ n=>bif str then False else k {res:=.int .i64 n}
  | .vw _ _ _ n=>bif str then False else k {res:=.int .i64 n}
  | .str s=>bif str then k {res:=.int .i64 s.length} else False
  |_=>opD (.len str o) g key [x] hp k
 | .istr _ _,[x,i]=>match i,x with
  | .int _ j,.str l=>0<=j/\ ∃b,l[j.toNat]? =some b/\k {res:=.int .u8 (b:UInt8).toNat}
  |_,_=>False
 | .slstr _ lo hi,x::bs=>match x with
  | .str l=>O0 lo.isSome hi.isSome false l.length bs λa b=>k {res:=.str ((l.drop a).take (b-a))}
  |_=>False
 | .app s bytes _ _,[x,y]=>Wz hp s y λys r=>match x with
  | .con (.slice none 0 0)=>nQ ys.length bytes=true/\k {res:=.vs key g ys.length,wr:=[(key,some (g,.vec s ys))],rd:=r}
  | .vs key' g' n=>dU hp key' λz=>match z with
   |some (g'',.vec s' es)=>g''=g'/\s'=s/\TakeC n es λl=>nQ (n+ys.length) bytes=true/\k {res:=.vs key' g (n+ys.length),wr:=[(key',some (g,.vec s (l++ys)))],rd:=key'::r}
   |_=>False
  |_=>False
 | .mksl s bytes z _ _,[n,c]=>match n,c with
  | .int .i64 n,.int .i64 c=>0<=n/\n<=c/\z.length=s/\nQ c.toNat bytes=true/\k {res:=.vs key g n.toNat,wr:=[(key,some (g,.vec s (iV n.toNat z)))]}
  |_,_=>False
 | .bsl s z n ps _,vs=>Nat.ble (n*s) 16777216=true/\z.length=s/\BslC hp s z n ps vs λes D=>k {res:=.vs key g n,wr:=(key,some (g,.vec s es))::bW D,rd:=D}
 | .b2s _,[x]=>B2s hp x λl r=>k {res:=.str l,rd:=r}
 | .slc s _ lo hi mx,x::bs=>Ye x λn=>O0 lo.isSome hi.isSome mx.isSome n bs λl h=>match x with
  | .sl s' es=>s'=s/\k {res:=.sl s ((es.drop l).take (h-l))}
  | .con (.slice none 0 0)=>k {res:=.sl s []}
  | .vs key' g' _=>dU hp key' λy=>match y with
   |some (g'',.vec s' _)=>g''=g'/\s'=s/\((l=0/\mx.isSome=false/\k {res:=.vs key' g' h,rd:=[key']})∨(¬(l=0/\mx.isSome=false)/\k {res:=.vw key' g' l (h-l),rd:=[key']}))
   |_=>False
  | .vw key' g' o _=>dU hp key' λy=>match y with
   |some (g'',.vec s' _)=>g''=g'/\s'=s/\k {res:=.vw key' g' (o+l) (h-l),rd:=[key']}
   |_=>False
  |_=>False
 |op,vs=>opD op g key vs hp k
end
theorem aep {op:AOp}{g key:Nat}{vals:B7}{hp:az}{k:Eff->Prop}(h:opC op g key vals hp k): ∃e,aX op g key vals (aY hp)=some e/\k e:=by
 unfold opC at h;split at h
 ·exact ⟨_,rfl,h⟩
 ·split at h
  ·rename_i t
   cases t with
   |true=>exact ⟨_,rfl,h.1 rfl⟩
   |false=>exact ⟨_,rfl,h.2 rfl⟩
  grind
 ·grind [qx,aX]
 ·grind [qx,aX]
 ·grind [yY,aX]
 ·grind [VR,II,aX]
 ·rename_i sz o1 o2 a x
  split at h
  ·obtain ⟨cs,h1,h2⟩:=qx h
   cases hb:Nat.beq cs.length sz with
   |false=>grind
   |true=>
    have hl:cs.length=sz:=Nat.eq_of_beq_eq_true hb;rw[hb] at h2;dsimp only[cond] at h2;rw[bG] at h2;split at h2
    ·rename_i g'' old hx
     obtain ⟨rfl,h3⟩:=h2;obtain ⟨h4,h5⟩:=Ax h3;simp_all[aX]
    grind
  ·obtain ⟨cs,h1,h2⟩:=qx h
   cases hb:Nat.beq cs.length sz with
   |false=>grind
   |true=>
    have hl:cs.length=sz:=Nat.eq_of_beq_eq_true hb;rw[hb] at h2;dsimp only[cond] at h2;unfold stC at h2;split at h2
    ·rename_i kk gg nn
     rw[bG] at h2;split at h2
     ·rename_i g'' s es hx
      obtain ⟨rfl,old,h3,h4,hq,h5⟩:=h2;obtain ⟨hi,rfl⟩:=Av.1 h3;have h4:=Nat.le_of_ble_eq_true h4;simp only[At,Bool.not_eq_true'] at hq;have hne:=Nat.ne_of_beq_eq_false hq.1;refine ⟨_,?_,h5⟩;simp only[aX,h1,hx,if_true,hl];rw[Ac ⟨hi,h4⟩];have hk:cm true [AV.vs kk gg nn]= [kk]:=rfl
      grind
     grind
    ·obtain ⟨hpu,h2⟩:=h2
     rw[bG] at h2;split at h2
     ·rename_i g'' s es hx
      obtain ⟨rfl,old,h3,h4,h5⟩:=h2;obtain ⟨hi,rfl⟩:=Av.1 h3;simp_all[jg,aX]
     grind
  ·exact h
 ·split at h
  ·exact ⟨_,rfl,h⟩
  ·exact ⟨_,rfl,h⟩
  ·rw[qv] at h;exact ⟨_,rfl,h⟩
  grind
 ·split at h
  ·split at h
   ·obtain ⟨rfl,h1,cs,h2,h3⟩:=h
    obtain ⟨hi,rfl⟩:=Av.1 h2
    grind [aX]
   grind
  ·grind [bG,aX]
  ·grind [bG,aX]
  ·exact h
 ·grind [aX]
 ·split at h
  ·obtain ⟨h1,h2⟩:=Ob h
   grind [aX]
  grind
 ·rename_i str o x
  split at h
  ·cases str with
   |true=>grind
   |false=>exact ⟨_,rfl,h⟩
  ·cases str with
   |true=>grind
   |false=>exact ⟨_,rfl,h⟩
  ·cases str with
   |true=>grind
   |false=>exact ⟨_,rfl,h⟩
  ·cases str with
   |false=>grind
   |true=>exact ⟨_,rfl,h⟩
  ·exact h
 ·split at h
  ·obtain ⟨h1,b,h2,h3⟩:=h
   obtain ⟨hi,rfl⟩:=Av.1 h2
   grind [aX]
  grind
 ·grind [Nu,aX]
 ·obtain ⟨ys,r,h1,h2⟩:=ab2 h
  split at h2
  ·grind [aX]
  ·rw[bG] at h2
   split at h2
   ·rename_i hx
    obtain ⟨rfl,rfl,h2⟩:=h2;obtain ⟨h3,h4,h5⟩:=h2.ok;simp_all[aX]
   grind
  grind
 ·grind [aX]
 ·obtain ⟨h2,h3,h⟩:=h
  have h2':=Nat.le_of_ble_eq_true h2;cases h with
  |pure h1 es h4 h5=>
   refine ⟨_,?_,h5⟩;unfold aX;dsimp only;rw[Ac (by grind),jg true _ h1]
   dsimp only;rw[h4];rfl
  |frz D hD hne es h4 h5=>
   grind [aX]
 ·obtain ⟨es,r,l,h1,h2,h3⟩:=h
  grind [aX]
 ·obtain ⟨n,h1,h2⟩:=ac0 h
  obtain ⟨l,hh,h3,h4⟩:=Nu h2;split at h4
  all_goals grind [aX,bG]
 ·exact h
def FQ (tm:Cf)(gd:Dn)(p q:Prop):Prop:=
 match gd with
 |none=>p
 |some (t,w)=>mW tm t λv=>match v with
  | .bool b=>condC (b==w) p q
  | .con (.tuple _)=>q
  |_=>False
theorem Wo {tm:Cf}{gd:Dn}{p q:Prop}(h:FQ tm gd p q):(bL tm gd=some true/\p)∨(bL tm gd=some false/\q):=by
 unfold FQ at h;split at h
 ·exact .inl ⟨rfl,h⟩
 ·rename_i t w
  rw[iK] at h;unfold bL;dsimp only;split at h
  ·rename_i b hb
   rw[hb];dsimp only;cases hc:b==w with
   |true=>rw[hc] at h;exact .inl ⟨rfl,h.1 rfl⟩
   |false=>rw[hc] at h;exact .inr ⟨rfl,h.2 rfl⟩
  all_goals grind
def uX:az->az->(az->Prop)->Prop
 | [],h,k=>k h
 |x::r,h,k=>uX r h λl=>k (x::l)
theorem xM: ∀{a h:az}{k:az->Prop},uX a h k↔k (a++h)
 | [],h,k=>Iff.rfl
 |x::r,h,k=>by simp only[uX,BD];exact xM
def tW (d:CV)(v:AV)(tm:Cf)(k:Cf->Prop):Prop:=
 match d with
 |some d=>k ((d,v)::tm)
 |none=>k tm
inductive CallG (G:Nat->Fun)(hp:az)(f:Nat)(args:B7)(g dst:Nat)(E:Prop)(k:Eff->Prop):Prop
 |mk (c:CIn) (r:Ret) (e:Eff) (h1:fg (aY hp) (G f).raw args=some c) (h2:ag G f c.args c.bs r) (h3:ck (aY hp) c g dst r=some e) (h4:k e):CallG G hp f args g dst E k
 |stop (h:E):CallG G hp f args g dst E k
theorem ahv {G:Nat->Fun}{hp:az}{f:Nat}{args:B7}{g dst:Nat}{E:Prop}{k:Eff->Prop}{r:AV}(hG:ag G f args [] ⟨r,[]⟩)(hp':aM args=true)(hr:r.dry=true)(h:k {res:=r}):CallG G hp f args g dst E k:=
 .mk _ _ _ (qU hp') hG (Nj hr) h
def Gh (b:Bool)(q p:Prop):Prop:=bif b then p else q/\p
theorem aaL {o:Cc}{e:Eff}{dn:Df}{p:Prop}(h:Gh (kj o e dn) (OkS o e dn) p):OkS o e dn/\p:=by
 grind [Gh,OkS.of]
def W (G:Nat->Fun)(rs:CT)(m:Nat)(t:Ret)(d:Nat):Nat->C1->Cf->az->Nat->Prop
 |0,todo,tm,hp,ctr=>Ev G ⟨todo,⟨tm,hp,ctr⟩,rs,m⟩ t
 |n+1,todo,tm,hp,ctr=>bif Nat.ble todo.length d then Ev G ⟨todo,⟨tm,hp,ctr⟩,rs,m⟩ t else match todo with
  | []=>Ev G ⟨[],⟨tm,hp,ctr⟩,rs,m⟩ t
  | .code c::k=>match c with
   | .ret=>Ev G ⟨.code .ret::k,⟨tm,hp,ctr⟩,rs,m⟩ t
   | .skip=>W G rs m t d n k tm hp ctr
   | .seq a b=>W G rs m t d n (.code a:: .code b::k) tm hp ctr
   | .cond x a b=>P6 tm x λv=>match v with
    | .bool c=>condC c (W G rs m t d n (.code a::k) tm hp ctr) (W G rs m t d n (.code b::k) tm hp ctr)
    |_=>False
   | .block id b=>W G rs m t d n (.code b:: .inBlock id::k) tm hp ctr
   | .scope b=>W G rs m t d n (.code b:: .inScope::k) tm hp ctr
   | .loop b=>Ev G ⟨.inLoop b::k,⟨tm,hp,ctr⟩,rs,m⟩ t
   | .exit id=>match qB id k with
    |some k'=>W G rs m t d n k' tm hp ctr
    |none=>False
   | .region ops draw=>W G rs m t d n (.inReg ops 0 [] draw::k) tm hp ctr
  | .inLoop b::k=>Ev G ⟨.inLoop b::k,⟨tm,hp,ctr⟩,rs,m⟩ t
  | .inBlock _::k=>W G rs m t d n k tm hp ctr
  | .inScope::k=>W G rs m t d n k tm hp ctr
  | .inReg [] i _ _::k=>W G rs m t d n k tm hp (ctr+i)
  | .inReg (o::rest) i dn draw::k=>
   let ke:Eff->Prop:=λe=>
    bif draw then Gh (kj o.after e dn) (OkS o.after e dn) (tW o.dst e.res tm λtm'=>uX e.wr hp λhp'=>W G rs m t d n (.inReg rest (i+1) (mb i e dn) draw::k) tm' hp' ctr)
    else tW o.dst e.res tm λtm'=>uX e.wr hp λhp'=>W G rs m t d n (.inReg rest (i+1) dn draw::k) tm' hp' ctr
   FQ tm o.guard
    (match o.op with
    | .call f args=>vx tm (f::args) λvals=>match vals with
     | .fn f' cap::vs=>bif isB f' then CallG G hp (f'-BB) (cap++vs) (ctr+i) (o.dst.getD 0) (Ev G ⟨.inReg (o::rest) i dn draw::k,⟨tm,hp,ctr⟩,rs,m⟩ t) ke
      else CallG G hp f' (vs++cap) (ctr+i) (o.dst.getD 0) (Ev G ⟨.inReg (o::rest) i dn draw::k,⟨tm,hp,ctr⟩,rs,m⟩ t) ke
     |_=>False
    | .panic _=>Ev G ⟨.inReg (o::rest) i dn draw::k,⟨tm,hp,ctr⟩,rs,m⟩ t
    |op=>vx tm op.opds λvals=>opC op (ctr+i) (ug (o.dst.getD 0) 0) vals hp ke)
    (tW o.dst iP tm λtm'=>W G rs m t d n (.inReg rest (i+1) dn draw::k) tm' hp ctr)
theorem eu {G:Nat->Fun}{rs:CT}{m:Nat}{t:Ret}(d:Nat): ∀(n:Nat)(todo:C1)(tm:Cf)(hp:az)(ctr:Nat),W G rs m t d n todo tm hp ctr->Ev G ⟨todo,⟨tm,hp,ctr⟩,rs,m⟩ t
 |0,todo,tm,hp,ctr,h=>h
 |n+1,todo,tm,hp,ctr,h=>by
  unfold W at h;cases hle:Nat.ble todo.length d with
  |true=>grind
  |false=>
  rw[hle] at h;dsimp only[cond] at h;cases todo with
  |nil=>exact h
  |cons it k=>
   cases it with
   |code c=>
    cases c with
    |ret=>exact h
    |cond x a b=>
     have h':=IY.1 (show P6 tm x _ from h)
     split at h'
     ·rename_i c hx
      exact ads c hx (λe=>eu d n _ _ _ _ (h'.1 e)) (λe=>eu d n _ _ _ _ (h'.2 e))
     grind
    |exit id=>
     have h':(match qB id k with|some k'=>W G rs m t d n k' tm hp ctr|none=>False):=h
     split at h'
     ·rename_i k' hx
      exact fK (λih=>by grind [ja]) (eu d n _ _ _ _ h')
     grind
    |loop b=>exact fK (λ_=>rfl) (show Ev G _ t from h)
    |skip=>exact fK (λ_=>rfl) (eu d n _ _ _ _ h)
    |seq a b=>exact fK (λ_=>rfl) (eu d n _ _ _ _ h)
    |block id b=>exact fK (λ_=>rfl) (eu d n _ _ _ _ h)
    |scope b=>exact fK (λ_=>rfl) (eu d n _ _ _ _ h)
    |region ops draw=>exact fK (λ_=>rfl) (eu d n _ _ _ _ h)
   |inLoop b=>exact h
   |inBlock id=>exact fK (λ_=>rfl) (eu d n _ _ _ _ h)
   |inScope=>exact fK (λ_=>rfl) (eu d n _ _ _ _ h)
   |inReg rest i dn draw=>
    cases rest with
    |nil=>exact Vi (eu d n _ _ _ _ h)
    |cons o rest=>
     have fin: ∀e:Eff,bL tm o.guard=some true->OpE G o (ctr+i) ⟨tm,hp,ctr⟩ e->
       (bif draw then Gh (kj o.after e dn) (OkS o.after e dn) (tW o.dst e.res tm λtm'=>uX e.wr hp λhp'=>W G rs m t d n (.inReg rest (i+1) (mb i e dn) draw::k) tm' hp' ctr)
        else tW o.dst e.res tm λtm'=>uX e.wr hp λhp'=>W G rs m t d n (.inReg rest (i+1) dn draw::k) tm' hp' ctr)->
       Ev G ⟨.inReg (o::rest) i dn draw::k,⟨tm,hp,ctr⟩,rs,m⟩ t:=by
      intro e hw he hk
      have put: ∀(k2:Cf->az->Prop),(tW o.dst e.res tm λtm'=>uX e.wr hp λhp'=>k2 tm' hp')->k2 ((AS.mk tm hp ctr).app o.dst e).tm ((AS.mk tm hp ctr).app o.dst e).hp:=by
       intro k2 h2;unfold tW at h2;cases hd:o.dst with
       |none=>rw[hd] at h2;exact xM.1 h2
       |some d=>rw[hd] at h2;exact xM.1 h2
      have hctr:((AS.mk tm hp ctr).app o.dst e).ctr=ctr:=AS.app_ctr _ _ _;have eta: ∀(A:AS),A.ctr=ctr->(⟨A.tm,A.hp,ctr⟩:AS)=A:=λA hA=>by subst hA;rfl
      cases draw with
      |true=>
       dsimp only[cond] at hk;replace hk:=aaL hk;refine af2 hw he hk.1 ?_;rw[<-eta _ hctr];exact eu d n _ _ _ _ (put (λtm' hp'=>W G rs m t d n (.inReg rest (i+1) (mb i e dn) true::k) tm' hp' ctr) hk.2)
      |false=>
       dsimp only[cond] at hk
       ·refine af0 hw he ?_
        rw[<-eta _ hctr];exact eu d n _ _ _ _ (put (λtm' hp'=>W G rs m t d n (.inReg rest (i+1) dn false::k) tm' hp' ctr) hk)
     rcases Wo (show FQ tm o.guard _ _ from h) with ⟨hw,h'⟩|⟨hw,h'⟩
     ·obtain ⟨d,op,gd,af⟩:=o
      cases op with
      |call f args=>
       have h2:=ua.1 (show vx tm (f::args) _ from h')
       dsimp only at h2;split at h2
       ·rename_i f' cap vs hv
        cases hb:isB f' with
        |true=>
         simp only[hb,cond_true] at h2;have e1:bV f'=f'-BB:=by grind [bV]
         cases h2 with
         |mk c r e q1 q2 q3 q4=>exact fin e hw (.call hv (by grind) (by grind) q3) q4
         |stop h=>exact h
        |false=>
         simp only[hb,cond_false] at h2;have e1:bV f'=f':=by grind [bV]
         cases h2 with
         |mk c r e q1 q2 q3 q4=>exact fin e hw (.call hv (by grind) (by grind) q3) q4
         |stop h=>exact h
       grind
      |panic x=>exact h'
      |_=>
       have h2:=ua.1 h';dsimp only at h2
       ·obtain ⟨e,q1,q2⟩:=aep h2
        exact fin e hw (.op (by grind) q1) q2
     ·refine af1 hw ?_
      have:(AS.mk tm hp ctr).put o.dst iP=⟨((AS.mk tm hp ctr).put o.dst iP).tm,hp,ctr⟩:=by cases o.dst<;>rfl
      rw[this];refine eu d n _ _ _ _ ?_;unfold tW at h';cases hd:o.dst with
      |none=>rw[hd] at h';exact h'
      |some d=>rw[hd] at h';exact h'
theorem W_ok {G:Nat->Fun}{rs:CT}{m:Nat}{t:Ret}(n:Nat)(todo:C1)(tm:Cf)(hp:az)(ctr:Nat)(h:W G rs m t 0 n todo tm hp ctr):Ev G ⟨todo,⟨tm,hp,ctr⟩,rs,m⟩ t:=eu 0 n todo tm hp ctr h
section
variable {p q:Prop}
theorem abE {c:Prop}[Decidable c](h1:c->p)(h2: ¬c->q):condC (decide c) p q:=⟨λh=>h1 (of_decide_eq_true h),λh=>h2 (of_decide_eq_false h)⟩
theorem agc {c:Prop}[Decidable c](h:c)(h1:p):condC (decide c) p q:=abE (λ_=>h1) λh2=>absurd h h2
theorem agd {c:Prop}[Decidable c](h: ¬c)(h1:q):condC (decide c) p q:=abE (λh2=>absurd h2 h) λ_=>h1
section
variable {a b:Int}
theorem abF (h1:a=b->p)(h2: ¬a=b->q):condC (a==b) p q:=⟨λh=>h1 (by simpa using h),λh=>h2 (by simpa using h)⟩
theorem age (h:a=b)(h1:p):condC (a==b) p q:=abF (λ_=>h1) λh2=>absurd h h2
theorem agf (h: ¬a=b)(h1:q):condC (a==b) p q:=abF (λh2=>absurd h2 h) λ_=>h1
theorem abB (h1: ¬a=b->p)(h2:a=b->q):condC (a !=b) p q:=⟨λh=>h1 (by simpa using h),λh=>h2 (by simpa using h)⟩
theorem af7 (h: ¬a=b)(h1:p):condC (a !=b) p q:=abB (λ_=>h1) λh2=>absurd h2 h
theorem af8 (h:a=b)(h1:q):condC (a !=b) p q:=abB (λh2=>absurd h h2) λ_=>h1
end
theorem af9 {b:Bool}(h:condC b p q):condC (b==true) p q:=by cases b<;>exact h
theorem aga {b:Bool}(h:condC b q p):condC (b==false) p q:=by
 cases b with
 |true=>exact ⟨λe=>(by cases e),λ_=>h.1 rfl⟩
 |false=>exact ⟨λ_=>h.2 rfl,λe=>(by cases e)⟩
end
theorem agm {a b:Nat}(h:a<=b):Nat.ble a b=true:=Nat.ble_eq_true_of_le h
theorem kC {a:Int}(h1: -9223372036854775808<=a)(h2:a<=9223372036854775807):IntKind.wrap .i64 a=a:=by
 grind [IntKind.wrap,IntKind.bits,IntKind.signed]
theorem Li {a b:Int}(h1: -9223372036854775808<=a+b)(h2:a+b<=9223372036854775807):bm .add (.int .i64 a) (.int .i64 b)=some (.int .i64 (a+b)):=by
 show some (AV.int .i64 (IntKind.wrap .i64 (a+b)))=_
 grind [kC]
theorem KY {a b:Int}(h1: -9223372036854775808<=a-b)(h2:a-b<=9223372036854775807):bm .sub (.int .i64 a) (.int .i64 b)=some (.int .i64 (a-b)):=by
 show some (AV.int .i64 (IntKind.wrap .i64 (a-b)))=_
 grind [kC]
theorem Lc {a b:Int}(h1: -9223372036854775808<=a*b)(h2:a*b<=9223372036854775807):bm .mul (.int .i64 a) (.int .i64 b)=some (.int .i64 (a*b)):=by
 show some (AV.int .i64 (IntKind.wrap .i64 (a*b)))=_
 grind [kC]
theorem aaR {x:Opd}{g key:Nat}{k:IntKind}{n:Int}{hg:Nat->Cl}(h1: -9223372036854775808<=n)(h2:n<=9223372036854775807):aX (.conv .i64 x) g key [.int k n] hg=some {res:=.int .i64 n}:=by
 show some (Eff.mk (AV.int .i64 (IntKind.wrap .i64 n)) [] [] [])=_
 grind [kC]
abbrev Fzs:=List (Nat×Nat×Blk)
def FzOk (hp:az):Fzs->Prop
 | []=>True
 |(k,g,b)::r=>(dU hp k λz=>z=some (g,b))/\b.pure=true/\FzOk hp r
def φF:Fzs->Nat->Nat->Tgt
 | [],k,g=>.to k g
 |(k',g',b)::r,k,g=>bif Nat.beq k' k then (bif Nat.beq g' g then .frz b else .dead) else φF r k g
theorem FzOk.at {hp:az}: ∀{Fz:Fzs},FzOk hp Fz-> ∀x∈Fz,aY hp x.1=some (x.2.1,x.2.2)/\x.2.2.pure=true
 |(k,g,b)::r,⟨h1,h2,h3⟩,x,hx=>by
  rcases AI.1 hx with rfl|hx
  ·exact ⟨bG.1 h1,h2⟩
  ·exact FzOk.at h3 x hx
theorem fh {a b:Nat}(h:a≠b):Nat.beq a b=false:=by
 grind [Nat.eq_of_beq_eq_true]
theorem SN {hp:az}: ∀{Fz:Fzs},FzOk hp Fz-> ∀k g,k∈Fz.map (·.1)->φF Fz k g=match aY hp k with
  |some (g',b)=>if g'=g then (bif b.pure then .frz b else .dead) else .dead
  |none=>.dead
 |(k',g',b)::r,h,k,g,hk=>by
  by_cases e:k'=k
  ·subst e
   obtain ⟨h1,h2⟩:=h.at (k',g',b) (by simp)
   grind [φF,Nat.beq_refl,fh]
  ·simp only[φF,fh e,cond_false]
   exact SN h.2.2 k g (by grind)
theorem SK: ∀{Fz:Fzs}{k:Nat},k∉Fz.map (·.1)-> ∀g,φF Fz k g= .to k g
 | [],_,_,_=>rfl
 |(k',g',b)::r,k,hk,g=>by
  simp only[An,AI,not_or] at hk;simp only[φF,fh (Ne.symm hk.1),cond_false];exact SK hk.2 g
theorem N8 {hp:az}{Fz:Fzs}(h:FzOk hp Fz):qm (aY hp) (Fz.map (·.1))=φF Fz:=by
 grind [qm,j6,SN,SK]
def LOk (tm:Cf)(φ:Nat->Nat->Tgt):Cf->Prop
 | []=>True
 |(t,v)::r=>(mW tm t λu=>u.ren φ=v)/\LOk tm φ r
def KOk (hp:az)(D:Cc)(φ:Nat->Nat->Tgt):az->Prop
 | []=>True
 |(k,z)::r=>(bif D.contains k then z=none else dU hp k λy=>match y with
  |none=>z=none
  |some (g,b)=>z=some (g,b.ren φ))/\KOk hp D φ r
theorem LOk.get {tm:Cf}{φ:Nat->Nat->Tgt}: ∀{L:Cf},LOk tm φ L->bI (L++jt φ tm)=bI (jt φ tm)
 | [],_=>rfl
 |(t,v)::r,⟨h1,h2⟩=>by
  funext u
  simp only[BD,bI,h2.get]
  grind [iK,lg]
theorem DL: ∀{D:Cc}{h:az}{k:Nat},aY (bW D++h) k=if D.contains k then none else aY h k
 | [],h,k=>by simp[bW]
 |d::D,h,k=>by
  simp only[bW,BD,aY,DL (D:=D)]
  grind
theorem KOk.get {hp:az}{D:Cc}{φ:Nat->Nat->Tgt}: ∀{K:az},KOk hp D φ K->aY (K++(bW D++renH φ hp))=aY (bW D++renH φ hp)
 | [],_=>rfl
 |(k,z)::r,⟨h1,h2⟩=>by
  funext u
  simp only[BD,aY,h2.get]
  grind [DL,bG,jJ]
section
variable {G:Nat->Fun} {rs:CT} {m:Nat} {t:Ret}
theorem JV {todo:C1}{tm:Cf}{hp:az}{ctr:Nat}(Fz:Fzs)(L:Cf)(K:az)(hF:FzOk hp Fz)(hL:LOk tm (φF Fz) L)(hK:KOk hp (Fz.map (·.1)) (φF Fz) K)(h: ∀T H,Ev G ⟨todo,⟨L++T,K++H,ctr⟩,rs,m⟩ t)(hd:mU todo=true:=by rfl):Ev G ⟨todo,⟨tm,hp,ctr⟩,rs,m⟩ t:=by
 have q:=h (jt (φF Fz) tm) (bW (Fz.map (·.1))++renH (φF Fz) hp)
 have hs:AS.Same ((AS.mk tm hp ctr).frz (Fz.map (·.1))) ⟨L++jt (φF Fz) tm,K++(bW (Fz.map (·.1))++renH (φF Fz) hp),ctr⟩:=by
  refine ⟨?_,?_,rfl⟩
  ·show bI (jt (qm (aY hp) _) tm)=_
   rw[N8 hF];exact hL.get.symm
  ·show aY (bW _++renH (qm (aY hp) _) hp)=_
   rw[N8 hF];exact hK.get.symm
 exact uD hd (Wk0.trans (B:=(AS.mk tm hp ctr).frz (Fz.map (·.1))) ⟨rfl,λC U a w r=>r.frz _⟩ (.of_same hs)) q
end
theorem Blk.ren_pure {φ:Nat->Nat->Tgt}{b:Blk}(h:b.pure=true):b.ren φ=b:=by
 cases b with
 |mp es=>rfl
 |cells cs=>simp only[Blk.ren];rw[gV φ cs h]
 |vec s es=>simp only[Blk.ren];rw[dh φ es h]
section
variable {G:Nat->Fun} {hp:az} {f:Nat} {args args':B7} {g dst:Nat} {E:Prop} {k:Eff->Prop} {r r':AV} {bs:Co}
end
theorem agt {tm:Cf}{hp:az}{ctr:Nat}{rs:CT}{a:AV}(ha:kw ⟨tm,hp,ctr⟩ rs=some a)(h:a.pure=true):fC ⟨tm,hp,ctr⟩ rs 0=some ⟨a,[]⟩:=by
 grind [fC]
section
variable {a:Int}(h1:0<=a)
include h1
theorem wC (h2:a<=4294967295):IntKind.wrap .u32 a=a:=by
 grind [IntKind.wrap,IntKind.bits,IntKind.signed]
theorem rc (h2:a<=255):IntKind.wrap .u8 a=a:=by
 grind [IntKind.wrap,IntKind.bits,IntKind.signed]
theorem Wl (h2:a<=18446744073709551615):IntKind.wrap .u64 a=a:=by
 grind [IntKind.wrap,IntKind.bits,IntKind.signed]
end
section
variable {x:Opd}{g key:Nat}{k:IntKind}{n:Int}{hg:Nat->Cl}
theorem aaQ (h1:0<=n)(h2:n<=4294967295):aX (.conv .u32 x) g key [.int k n] hg=some {res:=.int .u32 n}:=by
 show some (Eff.mk (AV.int .u32 (IntKind.wrap .u32 n)) [] [] [])=_
 grind [wC]
theorem adA (h1:0<=n)(h2:n<=255):aX (.conv .u8 x) g key [.int k n] hg=some {res:=.int .u8 n}:=by
 show some (Eff.mk (AV.int .u8 (IntKind.wrap .u8 n)) [] [] [])=_
 grind [rc]
theorem aaP (h1:0<=n)(h2:n<=18446744073709551615):aX (.conv .u64 x) g key [.int k n] hg=some {res:=.int .u64 n}:=by
 show some (Eff.mk (AV.int .u64 (IntKind.wrap .u64 n)) [] [] [])=_
 grind [Wl]
theorem K9 {a b:Int}(h0:0<=a)(hb:0<b)(h2:a<=9223372036854775807):bm .quo (.int .i64 a) (.int .i64 b)=some (.int .i64 (a/ b)):=by
 show (if b=0 then none else some (AV.int .i64 (IntKind.wrap .i64 (a.tdiv b))))=_
 rw[Aa (by omega),Int.tdiv_eq_ediv_of_nonneg h0]
 have h3:=Int.ediv_nonneg h0 (Int.le_of_lt hb);have h4:=Int.ediv_le_self b h0
 grind [kC]
theorem KZ {a b:Int}(h0:0<=a)(hb:0<b):bm .rem (.int .i64 a) (.int .i64 b)=some (.int .i64 (a % b)):=by
 show (if b=0 then none else some (AV.int .i64 (a.tmod b)))=_
 grind
theorem LQ {a:Int}{hg:Nat->Cl}(h1: -9223372036854775807<=a)(h2:a<=9223372036854775807):aX (.un .neg x) g key [.int .i64 a] hg=some {res:=.int .i64 (-a)}:=by
 show some (Eff.mk (AV.int .i64 (IntKind.wrap .i64 (0-a))) [] [] [])=_
 grind [kC]
end
theorem ab9 {n bytes:Nat}(h:n* (bytes+1)<=140737488355328):nQ n bytes=true:=by grind [nQ]
theorem xr {α:Sort _}{p q:α->Prop}{a:α}(h:p a)(k:q a): ∃a,p a/\q a:=⟨a,h,k⟩
theorem ai {a b:Prop}(h:a)(k:b):a/\b:=⟨h,k⟩
theorem aO {a b:Prop}(k:b)(h:a:=by omega):a/\b:=⟨h,k⟩
theorem aB {m n:Nat}{b:Prop}(k:b)(h:m<=n:=by omega):Nat.ble m n=true/\b:=⟨agm h,k⟩
theorem aR {n m:Nat}{b:Prop}(k:b)(h:n* (m+1)<=140737488355328:=by omega):nQ n m=true/\b:=⟨ab9 h,k⟩
section
variable {p q:Prop}
theorem cD {c:Prop}[Decidable c](h1:p)(h:c:=by omega):condC (decide c) p q:=agc h h1
theorem dD {c:Prop}[Decidable c](h1:q)(h: ¬c:=by omega):condC (decide c) p q:=agd h h1
section
variable {a b:Int}
theorem cB (h1:p)(h:a=b:=by omega):condC (a==b) p q:=age h h1
theorem dB (h1:q)(h: ¬a=b:=by omega):condC (a==b) p q:=agf h h1
theorem cN (h1:p)(h: ¬a=b:=by omega):condC (a !=b) p q:=af7 h h1
theorem dN (h1:q)(h:a=b:=by omega):condC (a !=b) p q:=af8 h h1
end
end
section
variable {k:AV->Prop} {a b:Int}
theorem zQ (h:k (.int .i64 (a/ b)))(h0:0<=a:=by omega)(hb:0<b:=by omega)(h2:a<=9223372036854775807:=by omega): ∃v,bm .quo (.int .i64 a) (.int .i64 b)=some v/\k v:=⟨_,K9 h0 hb h2,h⟩
theorem zR (h:k (.int .i64 (a % b)))(h0:0<=a:=by omega)(hb:0<b:=by omega): ∃v,bm .rem (.int .i64 a) (.int .i64 b)=some v/\k v:=⟨_,KZ h0 hb,h⟩
theorem zS (h:k (.int .i64 (a-b)))(h1: -9223372036854775808<=a-b:=by omega)(h2:a-b<=9223372036854775807:=by omega): ∃v,bm .sub (.int .i64 a) (.int .i64 b)=some v/\k v:=⟨_,KY h1 h2,h⟩
theorem zA (h:k (.int .i64 (a+b)))(h1: -9223372036854775808<=a+b:=by omega)(h2:a+b<=9223372036854775807:=by omega): ∃v,bm .add (.int .i64 a) (.int .i64 b)=some v/\k v:=⟨_,Li h1 h2,h⟩
theorem zM (h:k (.int .i64 (a*b)))(h1: -9223372036854775808<=a*b:=by omega)(h2:a*b<=9223372036854775807:=by omega): ∃v,bm .mul (.int .i64 a) (.int .i64 b)=some v/\k v:=⟨_,Lc h1 h2,h⟩
end
section
variable {k:Eff->Prop} {a:Int} {x:Opd} {g key:Nat} {hg:Nat->Cl} {q:IntKind}
theorem zN (h:k {res:=.int .i64 (-a)})(h1: -9223372036854775807<=a:=by omega)(h2:a<=9223372036854775807:=by omega): ∃e,aX (.un .neg x) g key [.int .i64 a] hg=some e/\k e:=⟨_,LQ h1 h2,h⟩
theorem zC (h:k {res:=.int .i64 a})(h1: -9223372036854775808<=a:=by omega)(h2:a<=9223372036854775807:=by omega): ∃e,aX (.conv .i64 x) g key [.int q a] hg=some e/\k e:=⟨_,aaR h1 h2,h⟩
theorem zC4 (h:k {res:=.int .u32 a})(h1:0<=a:=by omega)(h2:a<=4294967295:=by omega): ∃e,aX (.conv .u32 x) g key [.int q a] hg=some e/\k e:=⟨_,aaQ h1 h2,h⟩
theorem zC1 (h:k {res:=.int .u8 a})(h1:0<=a:=by omega)(h2:a<=255:=by omega): ∃e,aX (.conv .u8 x) g key [.int q a] hg=some e/\k e:=⟨_,adA h1 h2,h⟩
theorem zC8 (h:k {res:=.int .u64 a})(h1:0<=a:=by omega)(h2:a<=18446744073709551615:=by omega): ∃e,aX (.conv .u64 x) g key [.int q a] hg=some e/\k e:=⟨_,aaP h1 h2,h⟩
end
def LeP (P:Env->Prop)(a b:AV):Prop:= ∀E x,P E->V E x a->V E x b
def LLe (P:Env->Prop):B7->B7->Prop
 | [],[]=>True
 |a::r,b::s=>LeP P a b/\LLe P r s
 |_,_=>False
def LLLe (P:Env->Prop):B6->B6->Prop
 | [],[]=>True
 |a::r,b::s=>LLe P a b/\LLLe P r s
 |_,_=>False
def BLe (P:Env->Prop):Blk->Blk->Prop
 | .cells cs,.cells cs'=>LLe P cs cs'
 | .vec s es,.vec s' es'=>s=s'/\LLLe P es es'
 | .mp es,.mp es'=>es=es'
 |_,_=>False
def Any:Env->Prop:=λ_=>True
def vN (key g s:Nat)(E:Env):Prop:=E.used key g/\ ∀p,E.lv key g=some p->p=⟨0,0,0,s,true⟩
section
variable {P:Env->Prop}
theorem LeP.refl (a:AV):LeP P a a:=λ_ _ _ h=>h
theorem LLe.refl: ∀l:B7,LLe P l l
 | []=>trivial
 |a::r=>⟨.refl a,LLe.refl r⟩
theorem LLLe.refl: ∀l:B6,LLLe P l l
 | []=>trivial
 |a::r=>⟨.refl a,LLLe.refl r⟩
theorem BLe.refl: ∀b:Blk,BLe P b b
 | .cells cs=>LLe.refl cs
 | .vec _ es=>⟨rfl,LLLe.refl es⟩
 | .mp _=>rfl
theorem LLe.length: ∀{l m:B7},LLe P l m->m.length=l.length
 | [],[],_=>rfl
 |_::_,_::_,h=>by simp[LLe.length h.2]
 | [],_::_,h=>h.elim
 |_::_,[],h=>h.elim
theorem LLe.at: ∀{l m:B7}(i:Nat),LLe P l m->LeP P (l.getD i .any) (m.getD i .any)
 | [],[],_,_=>.refl _
 |_::_,_::_,0,h=>h.1
 |_::_,_::_,i+1,h=>by simpa using LLe.at i h.2
 | [],_::_,_,h=>h.elim
 |_::_,[],_,h=>h.elim
theorem LLLe.length: ∀{l m:B6},LLLe P l m->m.length=l.length
 | [],[],_=>rfl
 |_::_,_::_,h=>by simp[LLLe.length h.2]
 | [],_::_,h=>h.elim
 |_::_,[],h=>h.elim
theorem LLLe.at: ∀{l m:B6}(i:Nat),LLLe P l m->LLe P (l.getD i []) (m.getD i [])
 | [],[],_,_=>LLe.refl _
 |_::_,_::_,0,h=>h.1
 |_::_,_::_,i+1,h=>by simpa using LLLe.at i h.2
 | [],_::_,_,h=>h.elim
 |_::_,[],_,h=>h.elim
theorem LLLe.map {α:Type}{f g:α->B7}(h: ∀x,LLe P (f x) (g x)): ∀l:List α,LLLe P (l.map f) (l.map g)
 | []=>trivial
 |x::r=>⟨h x,LLLe.map h r⟩
theorem LeP.agg {a b:B7}(h:LLe P a b):LeP P (.agg a) (.agg b):=λE x hp v=>by
 cases v with
 |agg cs _ hl hf hv=>exact .agg cs b (by rw[h.length];exact hl) (λi hi=>hf i (by rwa [h.length] at hi)) λi hi=>h.at i E _ hp (hv i (by rwa [h.length] at hi))
theorem LeP.fn {f:Nat}{a b:B7}(h:LLe P a b):LeP P (.fn f a) (.fn f b):=λE x hp v=>by
 cases v with
 |fn _ cs _ hl hv=>exact .fn f cs b (by rw[h.length];exact hl) λi hi=>h.at i E _ hp (hv i (by rwa [h.length] at hi))
theorem LeP.sl {s:Nat}{a b:B6}(h:LLLe P a b):LeP P (.sl s a) (.sl s b):=λE x hp v=>by
 cases v with
 |sl _ _ ad n c hn hs hc u hb hv=>
  have hl:=h.length;refine .sl s b ad n c (by grind) (λi hi=>?_) hc u (λhe=>?_) λi hi j hj=>(h.at i).at j E _ hp (hv i (by grind) j hj)
  ·rw[(h.at i).length];grind
  ·have:a≠ []:=λe=>he (by grind)
   grind
theorem LeP.nil (s:Nat):LeP P (.con (.slice none 0 0)) (.sl s []):=λE x _ v=>by
 cases v with
 |con=>exact .sl s [] none 0 0 rfl (by simp) (A7 0) (λ_ _=>undef) (λh=>absurd rfl h) (by simp)
theorem LeP.nilV (key g s:Nat):LeP (vN key g s) (.con (.slice none 0 0)) (.vs key g 0):=λE x hp v=>by
 cases v with
 |con=>exact .vs _ key g 0 ⟨none,0,rfl⟩ hp.1 λp h=>by rw[hp.2 p h];exact ⟨rfl,A7 0⟩
theorem LeP.any (a:AV):LeP P a .any:=λ_ x _ _=>.any x
end
section
variable {C:Ctx} {U:Nat->Prop} {hp hp':HF} {w:World} {S:Nat->Prop} {β:Nat->Place} {used:Nat->Nat->Prop} {P:Env->Prop}
def HLe (P:Env->Prop)(x y:Cl):Prop:=
 match x,y with
 |none,none=>True
 |some (g,b),some (g',b')=>g'=g/\BLe P b b'
 |some _,none=>True
 |none,some _=>False
theorem HLe.refl (x:Cl):HLe P x x:=by
 cases x with
 |none=>trivial
 |some x=>exact ⟨rfl,BLe.refl _⟩
theorem CellsOk.le {E:Env}(hP:P E){b o:Nat}{cs cs':B7}(h:CellsOk E w b o cs)(l:LLe P cs cs'):CellsOk E w b o cs':=λj hj=>by
 obtain ⟨u,h1,h2,h3,h4⟩:=h j (by rwa [l.length] at hj)
 exact ⟨u,h1,h2,h3,l.at j E _ hP h4⟩
theorem BlkOk.le {E:Env}(hP:P E){p:Place}{b b':Blk}(h:BlkOk E w p b)(l:BLe P b b'):BlkOk E w p b':=by
 cases b with
 |cells cs=>
  cases b' with
  |vec=>exact l.elim
  |mp=>exact l.elim
  |cells cs'=>exact ⟨h.1,h.2.le hP l⟩
 |vec s es=>
  cases b' with
  |cells=>exact l.elim
  |mp=>exact l.elim
  |vec s' es'=>
   obtain ⟨rfl,l⟩:=l;obtain ⟨h1,h2,h3,h4,h5,h6⟩:=h;have hl:=l.length;refine ⟨h1,λi hi=>by rw[(l.at i).length];grind,by grind,λhn=>?_,h5,λi hi=>(h6 i (by grind)).le hP (l.at i)⟩
   grind
 |mp es=>
  cases b' with
  |cells=>exact l.elim
  |vec=>exact l.elim
  |mp es'=>
   obtain rfl:es=es':=l;exact h
theorem HI.le (h:HI C U hp w S β used)(hP:P (aP C S β used hp w))(l: ∀k,HLe P (hp k) (hp' k)):HI C U hp' w S β used/\(aP C S β used hp w).le (aP C S β used hp' w):=by
 have hlv: ∀k g b,hp' k=some (g,b)-> ∃b',hp k=some (g,b')/\BLe P b' b:=λk g b hk=>by
  have:=l k;rw[hk] at this;cases hq:hp k with
  |none=>rw[hq] at this;exact this.elim
  |some x=>obtain ⟨g',b'⟩:=x;rw[hq] at this;obtain ⟨rfl,h2⟩:=this;grind
 have le:(aP C S β used hp w).le (aP C S β used hp' w):=kO (λ_ _ _ a b=>⟨a,b⟩) (λ_ _ u=>u) λk g b hk _=>by
  grind
 refine ⟨⟨h.kept,h.s,h.s0,h.keep,h.us,λk g b hk=>?_,λk k' x x' h1 h2=>?_,λk b hk=>?_⟩,le⟩
 ·obtain ⟨b',h1,h2⟩:=hlv k g b hk
  obtain ⟨q1,q2,q3⟩:=h.at_ k g b' h1;exact ⟨q1,q2,(q3.le hP h2).mono le λ_=>.refl _ _⟩
 ·obtain ⟨g1,b1⟩:=x
  obtain ⟨g2,b2⟩:=x';obtain ⟨c1,r1,_⟩:=hlv k g1 b1 h1;obtain ⟨c2,r2,_⟩:=hlv k' g2 b2 h2;exact h.inj k k' _ _ r1 r2
 ·obtain ⟨b',h1,h2⟩:=hlv k 0 b hk
  exact h.pl k b' h1
theorem RelC.le {F F':FSt}{a:Act}(h:RelC C U F a w S β used)(hP:P (aP C S β used F.hp w))(lt: ∀t,LeP P (F.tm t) (F'.tm t))(lh: ∀k,HLe P (F.hp k) (F'.hp k)):RelC C U F' a w S β used:=by
 obtain ⟨h1,h2⟩:=h.hi.le hP lh;exact ⟨h1,h.size,h.defers,λt=>(lt t _ _ hP (h.tm t)).mono h2⟩
end
theorem Wk0.of_le {A B:AS}(hc:B.ctr=A.ctr)(lt: ∀t,LeP Any (bI A.tm t) (bI B.tm t))(lh: ∀k,HLe Any (aY A.hp k) (aY B.hp k)):Wk0 A B:=
 ⟨hc,λC U a w ⟨S,β,used,h⟩=>⟨S,β,used,h.le (P:=Any) trivial lt lh⟩⟩
theorem Wk.of_nil {A B:AS}(key s:Nat)(hc:B.ctr=A.ctr+1)(lt: ∀t,LeP (vN key A.ctr s) (bI A.tm t) (bI B.tm t))(lh: ∀k,HLe (vN key A.ctr s) (up (aY A.hp) key (some (A.ctr,.vec s [])) k) (aY B.hp k)):Wk A B:=by
 rintro C a w hpos ⟨S,β,used,h⟩
 obtain ⟨S',β',used',h1,h2,h3,h4⟩:=h.hi.newNil (g:=A.ctr) (λhlt=>Nat.lt_irrefl _ hlt) (by omega) key s
 have h5:RelC C (λx=>x<A.ctr∨x=A.ctr) ⟨bI A.tm,up (aY A.hp) key (some (A.ctr,.vec s []))⟩ a w S' β' used':=⟨h1,h.size,h.defers,λt=>(h.tm t).mono h2⟩
 have h6:=h5.le (F':=B.fs) (P:=vN key A.ctr s) ⟨h4,λp hp=>by
  grind [fF]⟩ lt lh
 exact ⟨S',β',used',h6.hi.wide (λx hx=>by omega),h6.size,h6.defers,h6.tm⟩
def TOk (P:Env->Prop)(tm:Cf):Cf->Prop
 | []=>True
 |(t,v)::r=>(mW tm t λu=>LeP P u v)/\TOk P tm r
def HOk (P:Env->Prop)(hp:az):az->Prop
 | []=>True
 |(k,z)::r=>(dU hp k λy=>HLe P y z)/\HOk P hp r
theorem TOk.get {P:Env->Prop}{tm:Cf}: ∀{L:Cf},TOk P tm L-> ∀t,LeP P (bI tm t) (bI (L++tm) t)
 | [],_,t=>.refl _
 |(u,v)::r,⟨h1,h2⟩,t=>by
  simp only[BD,bI];split
  ·grind [iK]
  ·exact h2.get t
theorem HOk.get {P:Env->Prop}{hp:az}: ∀{K:az},HOk P hp K-> ∀k,HLe P (aY hp k) (aY (K++hp) k)
 | [],_,k=>.refl _
 |(u,v)::r,⟨h1,h2⟩,k=>by
  simp only[BD,aY];split
  ·grind [bG]
  ·exact h2.get k
theorem adc (hp:az)(key:Nat)(z:Cl):aY ((key,z)::hp)=up (aY hp) key z:=by
 grind [aY,up]
section
variable {G:Nat->Fun} {todo:C1} {tm:Cf} {hp:az} {ctr:Nat} {rs:CT} {m:Nat} {t:Ret}
theorem b9 (L:Cf)(K:az)(hL:TOk Any tm L)(hK:HOk Any hp K)(h:Ev G ⟨todo,⟨L++tm,K++hp,ctr⟩,rs,m⟩ t)(hd:mU todo=true:=by rfl):Ev G ⟨todo,⟨tm,hp,ctr⟩,rs,m⟩ t:=
 uD (B:=⟨L++tm,K++hp,ctr⟩) hd (.of_le rfl hL.get hK.get) h
theorem cP (key s:Nat)(L:Cf)(K:az)(hL:TOk (vN key ctr s) tm L)(hK:HOk (vN key ctr s) ((key,some (ctr,.vec s []))::hp) K)(h:Ev G ⟨todo,⟨L++tm,K++(key,some (ctr,.vec s []))::hp,ctr+1⟩,rs,m⟩ t)(hd:o7 todo=true:=by rfl):Ev G ⟨todo,⟨tm,hp,ctr⟩,rs,m⟩ t:=
 .weak (A':=⟨L++tm,K++(key,some (ctr,.vec s []))::hp,ctr+1⟩) hd (Nat.le_succ _) (.of_nil key s rfl hL.get λk=>by rw[<-adc];exact hK.get k) h
end
theorem Gx (l:B7)(t:Nat):bI (tms 0 l) t=l.getD t .any:=by grind [zW]
section
variable {G:Nat->Fun}{f:Nat}{F:AFunc}{args:B7}{bs:C5}{t:Ret}(n:Nat)(hf:G f= .code F)
include hf
theorem Jm {args args':B7}{bs:C5}{t:Ret}(h:ag G f args' bs t)(hl:LLe Any args args'):ag G f args bs t:=by
 unfold ag at h⊢;rw[hf] at h⊢;refine ⟨by rw[<-hl.length];exact h.1,?_⟩
 refine uD (B:=(F.start args' bs).A) rfl (.of_le rfl (λu=>?_) λk=>HLe.refl _) h.2
 show LeP Any (bI (tms 0 args) u) (bI (tms 0 args') u)
 rw[Gx,Gx];exact hl.at u
theorem i8 (hl:args.length=F.np)(h:run G n (F.start args bs)=some t):ag G f args bs t:=by
 grind [ag,Vg]
end
section
variable {G:Nat->Fun} {k:C1} {tm:Cf} {hp:az} {ctr:Nat} {rs:CT} {m:Nat} {t:Ret}
section
variable {a:AV}(ha:kw ⟨tm,hp,ctr⟩ (fQ rs)=some a)(h:a.pure=true)(he:Ret.mk a []=t)
include ha h he
theorem ad0:Ev G ⟨.code .ret::k,⟨tm,hp,ctr⟩,rs,0⟩ t:=by
 grind [Vh,agt]
theorem ad1:Ev G ⟨[],⟨tm,hp,ctr⟩,rs,0⟩ t:=by
 grind [Vm,agt]
end
end
section
variable {p q:Prop}
section
variable {b:Bool}
theorem cV (h1:p)(h:b=true:=by assumption):condC b p q:=⟨λ_=>h1,λe=>(by grind)⟩
theorem dV (h1:q)(h:b=false:=by assumption):condC b p q:=⟨λe=>(by grind),λ_=>h1⟩
theorem Ow (h:condC b q p):condC (!b) p q:=by
 cases b with
 |true=>exact abC (h.1 rfl)
 |false=>exact abA (h.2 rfl)
theorem af5 (h:condC b p q):condC (xor false b) p q:=by cases b<;>exact h
theorem af4 (h:condC b q p):condC (xor true b) p q:=by cases b<;>exact Ow (b:=_) h
theorem adB {a b:Bool}(h:condC a (condC b p q) q):condC (a&&b) p q:=by
 cases a with
 |true=>exact h.1 rfl
 |false=>exact ⟨λe=>(by cases e),λ_=>h.2 rfl⟩
theorem af6 {a b:Bool}(h:condC a p (condC b p q)):condC (a||b) p q:=by
 cases a with
 |true=>exact ⟨λ_=>h.1 rfl,λe=>(by cases e)⟩
 |false=>exact h.2 rfl
theorem abD {α:Type}[BEq α][LawfulBEq α]{a b:α}(h1:a=b->p)(h2: ¬a=b->q):condC (a==b) p q:=⟨λh=>h1 (by simpa using h),λh=>h2 (by simpa using h)⟩
theorem cE {α:Type}[BEq α][LawfulBEq α]{a b:α}(h1:p)(h:a=b:=by first|rfl|assumption):condC (a==b) p q:=abD (λ_=>h1) λh2=>absurd h h2
theorem dE {α:Type}[BEq α][LawfulBEq α]{a b:α}(h1:q)(h: ¬a=b:=by assumption):condC (a==b) p q:=abD (λh2=>absurd h2 h) λ_=>h1
theorem agb (h:b=false)(h1:q):condC b p q:=⟨λe=>(by grind),λ_=>h1⟩
end
end
def jC (tm:Cf)(hp:az):CT->(B7->Prop)->Prop
 | [],k=>k []
 | .dfd _::_,_=>False
 | .t n::r,k=>mW tm n λv=>jC tm hp r λl=>k (v::l)
 | .cell a sz::r,k=>mW tm a λp=>atC hp p λcs _=>FU sz cs λv=>jC tm hp r λl=>k (v::l)
theorem Am {tm:Cf}{hp:az}{ctr:Nat}: ∀{rs:CT}{k:B7->Prop},jC tm hp rs k-> ∃l,qG ⟨tm,hp,ctr⟩ rs=some l/\k l
 | [],k,h=>⟨[],rfl,h⟩
 | .dfd _::_,_,h=>(show False from h).elim
 | .t n::r,k,h=>by
  obtain ⟨l,h1,h2⟩:=Am (ctr:=ctr) (rs:=r) (iK.1 (show mW tm n _ from h))
  grind [qG,vp]
 | .cell a sz::r,k,h=>by
  obtain ⟨cs,rd,h1,h2⟩:=VR (iK.1 (show mW tm a _ from h))
  obtain ⟨v,h3,h4⟩:=II h2;obtain ⟨l,h5,h6⟩:=Am (ctr:=ctr) (rs:=r) h4
  grind [qG,vp]
def je (k:AV->Prop)(l:B7):Prop:=
 match l with
 | [a]=>k a
 |l=>k (.tup l)
theorem mI {tm:Cf}{hp:az}{ctr:Nat}{rs:CT}{k:AV->Prop}(h:jC tm hp rs (je k)): ∃a,kw ⟨tm,hp,ctr⟩ rs=some a/\k a:=by
 obtain ⟨l,h1,h2⟩:=Am (ctr:=ctr) h
 grind [je,kw]
section
variable {G:Nat->Fun} {k:C1} {tm:Cf} {hp:az} {ctr:Nat} {rs:CT} {m:Nat} {t:Ret}
section
variable (h:jC tm hp (fQ rs) (je λa=>a.pure=true/\Ret.mk a []=t))
include h
theorem Vk:Ev G ⟨.code .ret::k,⟨tm,hp,ctr⟩,rs,0⟩ t:=by
 obtain ⟨a,h1,h2,h3⟩:=mI (ctr:=ctr) h
 grind [ad0]
theorem Oo:Ev G ⟨[],⟨tm,hp,ctr⟩,rs,0⟩ t:=by
 obtain ⟨a,h1,h2,h3⟩:=mI (ctr:=ctr) h
 grind [ad1]
end
end
theorem ob: ∀l:B5,aX.bytesOf (byteCells l)=some l
 | []=>rfl
 |b::r=>by
  have h:=ob r;simp_all[byteCells,aX.bytesOf]
section
variable {k:B5->Cc->Prop}{hp:az}{l:B5}
theorem zBs (h:k l []):B2s hp (.sl 1 (byteCells l)) k:=⟨_,_,l,rfl,ob l,h⟩
theorem zBn (h:k [] []):B2s hp (.con (.slice none 0 0)) k:=⟨_,_,[],rfl,rfl,h⟩
theorem zBv {key g n:Nat}(hF:dU hp key λz=>z=some (g,.vec 1 (byteCells l)))(hn:n=l.length)(h:k l [key]):B2s hp (.vs key g n) k:=by
 subst hn;refine ⟨byteCells l,[key],l,?_,ob l,h⟩
 grind [byteCells,dH,bG]
end
def AtOk (hp:az):Fzs->Prop
 | []=>True
 |(k,g,b)::r=>(dU hp k λz=>z=some (g,b))/\AtOk hp r
theorem AtOk.at {hp:az}: ∀{Dz:Fzs},AtOk hp Dz-> ∀x∈Dz,aY hp x.1=some (x.2.1,x.2.2)
 |(k,g,b)::r,⟨h1,h3⟩,x,hx=>by
  rcases AI.1 hx with rfl|hx
  ·exact bG.1 h1
  ·exact AtOk.at h3 x hx
def φD:Fzs->Nat->(Nat->Nat->Tgt)->Nat->Nat->Tgt
 | [],_,φ,k,g=>φ k g
 |(k',g',_)::r,i,φ,k,g=>bif Nat.beq k' k then (bif Nat.beq g' g then .to i 0 else .dead) else φD r (i+1) φ k g
def φZ:Fzs->Nat->Nat->Tgt
 | [],_,_=>.dead
 |(k',g',b)::r,k,g=>bif Nat.beq k' k then (bif Nat.beq g' g then .frz b else .dead) else φZ r k g
def φX (Dz Fz:Fzs):Nat->Nat->Tgt:=φD Dz 0 (φZ Fz)
theorem SJ {hp:az}: ∀{Fz:Fzs},FzOk hp Fz-> ∀k g,k∈Fz.map (·.1)->φZ Fz k g=match aY hp k with
  |some (g',b)=>if g'=g then (bif b.pure then .frz b else .dead) else .dead
  |none=>.dead
 |(k',g',b)::r,h,k,g,hk=>by
  by_cases e:k'=k
  ·subst e
   obtain ⟨h1,h2⟩:=h.at (k',g',b) (by simp)
   grind [φZ,Nat.beq_refl,fh]
  ·simp only[φZ,fh e,cond_false]
   exact SJ h.2.2 k g (by grind)
theorem SI: ∀{Fz:Fzs}{k:Nat},k∉Fz.map (·.1)-> ∀g,φZ Fz k g= .dead
 | [],_,_,_=>rfl
 |(k',g',b)::r,k,hk,g=>by
  simp only[An,AI,not_or] at hk;simp only[φZ,fh (Ne.symm hk.1),cond_false];exact SI hk.2 g
theorem Gq {hp:az}{φ:Nat->Nat->Tgt}: ∀{Dz:Fzs}(i:Nat),AtOk hp Dz-> ∀k g,k∈Dz.map (·.1)->φD Dz i φ k g=match aY hp k with
  |some (g',_)=>if g'=g then (match idx k (Dz.map (·.1)) with|some j=>.to (i+j) 0|none=>.dead) else .dead
  |none=>.dead
 |(k',g',b)::r,i,h,k,g,hk=>by
  by_cases e:k'=k
  ·subst e
   have h1:=h.at (k',g',b) (by simp)
   grind [φD,Nat.beq_refl,idx,fh]
  ·simp only[φD,fh e,cond_false,An,idx,Aa e]
   rw[Gq (i+1) h.2 k g (by grind)]
   grind
theorem Gn {φ:Nat->Nat->Tgt}: ∀{Dz:Fzs}{i k:Nat},k∉Dz.map (·.1)-> ∀g,φD Dz i φ k g=φ k g
 | [],_,_,_,_=>rfl
 |(k',g',b)::r,i,k,hk,g=>by
  simp only[An,AI,not_or] at hk;simp only[φD,fh (Ne.symm hk.1),cond_false];exact Gn hk.2 g
section
variable {hp:az}{raw:Bool}{args:B7}
theorem agn {Dz Fz:Fzs}(hD:AtOk hp Dz)(hF:FzOk hp Fz)(hdis: ∀k∈Fz.map (·.1),k∉Dz.map (·.1)):sC (aY hp) (Dz.map (·.1)) (Fz.map (·.1))=φX Dz Fz:=by
 funext k g
 unfold sC φX
 by_cases h1:k∈Dz.map (·.1)
 ·grind [Gq]
 grind [Gn,qP,SJ,SI]
theorem DI {hp:az}{φ:Nat->Nat->Tgt}: ∀{Dz:Fzs},AtOk hp Dz->jo (aY hp) φ (Dz.map (·.1))=some (Dz.map λx=>x.2.2.ren φ)
 | [],_=>rfl
 |(k,g,b)::r,h=>by
  have h1:=h.at (k,g,b) (by simp)
  simp only at h1;simp only[An,jo,h1,DI h.2]
theorem xG {Dz Fz:Fzs}(hD:AtOk hp Dz)(hF:FzOk hp Fz)(hE:gZ (aY hp) raw args=Dz.map (·.1))(hK:(cm true args).filter (λk=> !(Dz.map (·.1)).contains k)=Fz.map (·.1))(hne:cm true args≠ []):
  fg (aY hp) raw args=some ⟨dT (φX Dz Fz) args,Dz.map λx=>x.2.2.ren (φX Dz Fz),Dz.map (·.1),Fz.map (·.1)⟩:=by
 grind [fg,agn,DI]
def cw:Fzs->Co->Nat->Cc
 |(_,g0,_)::D,(fl,_)::R,g=>(bif fl then g0 else g)::cw D R g
 | [],_::R,g=>g::cw [] R g
 |_,[],_=>[]
def bN:Fzs->Nat->Nat->Co->Cc
 |(k,_,_)::D,dst,j,_::R=>k::bN D dst j R
 | [],dst,j,_::R=>ug dst j::bN [] dst (j+1) R
 |_,_,_,[]=>[]
def ψX:Cc->Cc->Nat->Nat->Tgt
 |k::_,g::_,0,_=>.to k g
 |_::K,_::Q,i+1,x=>ψX K Q i x
 |_,_,_,_=>.dead
def wX (ψ:Nat->Nat->Tgt):Cc->Cc->Co->az
 |k::K,g::Q,(_,b)::R=>(k,some (g,b.ren ψ))::wX ψ K Q R
 |_,_,_=>[]
theorem uh (dst:Nat): ∀(R:Co)(j:Nat),bN [] dst j R=(List.range' j R.length).map (ug dst)
 | [],_=>rfl
 |x::R,j=>by simp only[bN,uh dst R (j+1),Ar,List.range'_succ,An]
theorem w6 (dst:Nat): ∀(Dz:Fzs)(R:Co),Dz.length<=R.length->bN Dz dst 0 R=Dz.map (·.1)++(List.range (R.length-Dz.length)).map (ug dst)
 | [],R,_=>by rw[uh,List.range_eq_range'];rfl
 |(k,g,b)::D,[],h=>by simp at h
 |(k,g,b)::D,x::R,h=>by
  simp only[Ar,Nat.add_le_add_iff_right] at h;simp only[bN,w6 dst D R h,An,Ar,Nat.add_sub_add_right,BD]
theorem l8: ∀(Dz:Fzs)(R:Co)(g:Nat),(cw Dz R g).length=R.length
 | [],[],_=>rfl
 | [],_::R,g=>by simp[cw,l8 [] R g]
 |_::_,[],_=>rfl
 |(k,g0,b)::D,(fl,x)::R,g=>by simp[cw,l8 D R g]
theorem ui (dst:Nat): ∀(Dz:Fzs)(j:Nat)(R:Co),(bN Dz dst j R).length=R.length
 | [],j,R=>by grind [uh]
 |_::_,_,[]=>rfl
 |(k,g0,b)::D,j,x::R=>by simp[bN,ui dst D j R]
theorem xc {hp:az}{g:Nat}: ∀(Dz:Fzs)(R:Co)(i:Nat),AtOk hp Dz->i<R.length->
  (cw Dz R g)[i]? =some (bif decide (i<Dz.length)&&(R.getD i default).1 then yW (aY hp) ((Dz.map (·.1)).getD i 0) else g)
 | [],[],i,_,h=>by simp at h
 | [],(fl,b)::R,0,_,_=>by simp[cw]
 | [],(fl,b)::R,i+1,hd,h=>by
  have:=xc (g:=g) [] R i hd (by grind)
  grind [cw]
 |_::_,[],i,_,h=>by simp at h
 |(k,g0,b)::D,(fl,x)::R,0,hd,_=>by
  have h1:=hd.at (k,g0,b) (by simp)
  grind [cw,yW]
 |(k,g0,b)::D,(fl,x)::R,i+1,hd,h=>by
  have:=xc (g:=g) D R i hd.2 (by grind)
  grind [cw]
theorem abc: ∀(K Q:Cc)(i x:Nat),K.length=Q.length->ψX K Q i x=match K[i]?,Q[i]? with
  |some k,some g=>.to k g
  |_,_=>.dead
 | [],[],i,x,_=>by simp[ψX]
 |k::K,g::Q,0,x,_=>by simp[ψX]
 |k::K,g::Q,i+1,x,h=>by simpa[ψX] using abc K Q i x (by grind)
 | [],_::_,_,_,h=>by simp at h
 |_::_,[],_,_,h=>by simp at h
theorem TG {ψ:Nat->Nat->Tgt}{gi:Nat->Nat}: ∀(K Q:Cc)(R:Co)(i:Nat),K.length=R.length->Q.length=R.length->(∀j,j<R.length->Q[j]? =some (gi (i+j)))->nV ψ gi i K R=wX ψ K Q R
 | [],[],[],_,_,_,_=>rfl
 |k::K,g::Q,(fl,b)::R,i,h1,h2,h3=>by
  have h0:=h3 0 (by simp)
  simp only[List.getElem?_cons_zero,Option.some.injEq,Nat.add_zero] at h0;simp only[nV,wX,h0]
  rw[TG K Q R (i+1) (by grind) (by grind) λj hj=>by
   have:=h3 (j+1) (by grind)
   grind]
 | [],_::_,[],_,_,h,_=>by simp at h
 |_::_,_,[],_,h,_,_=>by simp at h
 | [],_,_::_,_,h,_,_=>by simp at h
 |_::_,[],_::_,_,_,h,_=>by simp at h
theorem uR {cb:C5}{F:Cc}{g dst:Nat}{r:AV}{R:Co}{Dz:Fzs}(hD:AtOk hp Dz)(hd:(R.isEmpty&&r.dry)=false)(hl:Dz.length<=R.length)(hn:d9 (bN Dz dst 0 R)=true)(hnp:dv r=none):
  ck (aY hp) ⟨args,cb,Dz.map (·.1),F⟩ g dst ⟨r,R⟩=some {res:=r.ren (ψX (bN Dz dst 0 R) (cw Dz R g)),wr:=wX (ψX (bN Dz dst 0 R) (cw Dz R g)) (bN Dz dst 0 R) (cw Dz R g) R++bW F,rd:=F++Dz.map (·.1)}:=by
 unfold ck;have hK:jT (Dz.map (·.1)) dst R.length=bN Dz dst 0 R:=by grind [w6,jT]
 simp only[hd,cond_false,hnp,Option.isNone_none,By,LU (show d9 (jT (Dz.map (·.1)) dst R.length)=true by grind)]
 have hkl:(bN Dz dst 0 R).length=R.length:=ui dst Dz 0 R
 have hgen: ∀i,i<R.length->(cw Dz R g)[i]? =some (iU (aY hp) (bN Dz dst 0 R) Dz.length g R i):=λi hi=>by
  grind [xc,iU,w6]
 have hφ:rT (aY hp) (bN Dz dst 0 R) Dz.length g R=ψX (bN Dz dst 0 R) (cw Dz R g):=by
  grind [abc,l8,rT]
 grind [TG,l8]
end
def eZ {α:Type}:Fzs->Nat->(Nat->Blk->α)->α->α
 | [],_,_,d=>d
 |(k',g,b)::r,k,f,d=>bif Nat.beq k' k then f g b else eZ r k f d
def kz {α:Type}:Fzs->Nat->Nat->(Nat->Nat->α)->α->α
 | [],_,_,_,d=>d
 |(k',g,_)::r,i,k,f,d=>bif Nat.beq k' k then f i g else kz r (i+1) k f d
def zref (k:Nat)(o:Nat)(Fz:Fzs):AV:=eZ Fz k (λ_ b=>match b with| .cells cs=>.rp (cs.drop o)|_=>.any) .any
def zer (k i o:Nat)(Fz:Fzs):AV:=eZ Fz k (λ_ b=>match b with| .vec _ es=>.rp ((es.getD i []).drop o)|_=>.any) .any
def zvs (k:Nat)(Fz:Fzs):AV:=eZ Fz k (λ_ b=>match b with| .vec s es=>.sl s es|_=>.any) .any
def zvw (k o n:Nat)(Fz:Fzs):AV:=eZ Fz k (λ_ b=>match b with| .vec s es=>.sl s ((es.drop o).take n)|_=>.any) .any
mutual
def AV.renX (Dz Fz:Fzs):AV->AV
 | .ref k _ o=>kz Dz 0 k (λi _=>.ref i 0 o) (zref k o Fz)
 | .er k _ i o=>kz Dz 0 k (λj _=>.er j 0 i o) (zer k i o Fz)
 | .vs k _ n=>kz Dz 0 k (λj _=>.vs j 0 n) (zvs k Fz)
 | .vw k _ o n=>kz Dz 0 k (λj _=>.vw j 0 o n) (zvw k o n Fz)
 | .mp k _=>kz Dz 0 k (λj _=>.mp j 0) .any
 | .agg cs=>.agg (iQ Dz Fz cs)
 | .tup cs=>.tup (iQ Dz Fz cs)
 | .fn f cs=>.fn f (iQ Dz Fz cs)
 |a=>a
def iQ (Dz Fz:Fzs):B7->B7
 | []=>[]
 |a::r=>AV.renX Dz Fz a::iQ Dz Fz r
end
mutual
def AV.okX (Dz Fz:Fzs):AV->Prop
 | .ref k g _=>kz Dz 0 k (λ_ g'=>g'=g) (eZ Fz k (λg' _=>g'=g) True)
 | .er k g _ _=>kz Dz 0 k (λ_ g'=>g'=g) (eZ Fz k (λg' _=>g'=g) True)
 | .mp k g=>kz Dz 0 k (λ_ g'=>g'=g) (eZ Fz k (λg' _=>g'=g) True)
 | .vs k g n=>kz Dz 0 k (λ_ g'=>g'=g) (eZ Fz k (λg' b=>g'=g/\match b with| .vec _ es=>n=es.length|_=>True) True)
 | .vw k g o n=>kz Dz 0 k (λ_ g'=>g'=g) (eZ Fz k (λg' b=>g'=g/\match b with| .vec _ es=>o+n<=es.length|_=>True) True)
 | .agg cs=>iJ Dz Fz cs
 | .tup cs=>iJ Dz Fz cs
 | .fn _ cs=>iJ Dz Fz cs
 | .sl _ es=>ab es=true
 | .rp cs=>aM cs=true
 | .ifc _ v=>v.pure=true
 |_=>True
def iJ (Dz Fz:Fzs):B7->Prop
 | []=>True
 |a::r=>AV.okX Dz Fz a/\iJ Dz Fz r
end
theorem qZ {k g:Nat}{φ:Nat->Nat->Tgt}{d:Prop}: ∀{Dz:Fzs}{i:Nat},kz Dz i k (λ_ g'=>g'=g) d->(∃j,φD Dz i φ k g= .to j 0/\ ∀(α:Type)(f:Nat->Nat->α)(x:α),kz Dz i k f x=f j g)∨(d/\φD Dz i φ k g=φ k g/\ ∀(α:Type)(f:Nat->Nat->α)(x:α),kz Dz i k f x=x)
 | [],i,h=>.inr ⟨h,rfl,λ_ _ _=>rfl⟩
 |(k',g',b)::r,i,h=>by
  simp only[kz,φD] at h⊢;cases hb:Nat.beq k' k with
  |true=>
   simp_all
  |false=>
   rw[hb] at h;simp only[cond_false] at h⊢;exact qZ h
theorem oA {k g:Nat}{c:Blk->Prop}: ∀{Fz:Fzs},eZ Fz k (λg' b=>g'=g/\c b) True->(∃b,φZ Fz k g= .frz b/\c b/\ ∀(α:Type)(f:Nat->Blk->α)(x:α),eZ Fz k f x=f g b)∨(φZ Fz k g= .dead/\ ∀(α:Type)(f:Nat->Blk->α)(x:α),eZ Fz k f x=x)
 | [],h=>.inr ⟨rfl,λ_ _ _=>rfl⟩
 |(k',g',b)::r,h=>by
  simp only[eZ,φZ] at h⊢;cases hb:Nat.beq k' k with
  |true=>
   simp_all
  |false=>
   rw[hb] at h;simp only[cond_false] at h⊢;exact oA h
theorem tj {k g:Nat}: ∀{Fz:Fzs},eZ Fz k (λg' _=>g'=g) True->eZ Fz k (λg' _=>g'=g/\True) True:=by
 intro z0;induction z0<;>simp_all
mutual
theorem AV.renX_eq {Dz Fz:Fzs}: ∀a:AV,a.okX Dz Fz->a.ren (φX Dz Fz)=a.renX Dz Fz
 | .any,_| .int _ _,_| .bool _,_| .str _,_| .con _,_=>by simp[AV.ren,AV.renX]
 | .agg cs,h=>by simp only[AV.ren,AV.renX];rw[iI cs (by simpa[AV.okX] using h)]
 | .tup cs,h=>by simp only[AV.ren,AV.renX];rw[iI cs (by simpa[AV.okX] using h)]
 | .fn f cs,h=>by simp only[AV.ren,AV.renX];rw[iI cs (by simpa[AV.okX] using h)]
 | .sl s es,h=>by simp only[AV.ren,AV.renX];rw[dh _ es (by simpa[AV.okX] using h)]
 | .rp cs,h=>by simp only[AV.ren,AV.renX];rw[gV _ cs (by simpa[AV.okX] using h)]
 | .ifc t v,h=>by simp only[AV.ren,AV.renX];rw[AV.ren_pure _ v (by simpa[AV.okX] using h)]
 | .ref k g o,h=>by
  simp only[AV.okX] at h;simp only[AV.ren,AV.renX,φX,zref];rcases qZ (φ:=φZ Fz) h with ⟨j,h1,h2⟩|⟨h0,h1,h2⟩
  ·rw[h1,h2]
  ·rw[h1,h2]
   rcases oA (c:=λ_=>True) (tj h0) with ⟨b,h3,h4,h5⟩|⟨h3,h5⟩
   ·rw[h3,h5];cases b<;>rfl
   ·rw[h3,h5]
 | .mp k g,h=>by
  simp only[AV.okX] at h;simp only[AV.ren,AV.renX,φX];rcases qZ (φ:=φZ Fz) h with ⟨j,h1,h2⟩|⟨h0,h1,h2⟩
  ·rw[h1,h2]
  ·rw[h1,h2]
   rcases oA (c:=λ_=>True) (tj h0) with ⟨b,h3,h4,h5⟩|⟨h3,h5⟩
   ·rw[h3]
   ·rw[h3]
 | .er k g i o,h=>by
  simp only[AV.okX] at h;simp only[AV.ren,AV.renX,φX,zer];rcases qZ (φ:=φZ Fz) h with ⟨j,h1,h2⟩|⟨h0,h1,h2⟩
  ·rw[h1,h2]
  ·rw[h1,h2]
   rcases oA (c:=λ_=>True) (tj h0) with ⟨b,h3,h4,h5⟩|⟨h3,h5⟩
   ·rw[h3,h5];cases b<;>rfl
   ·rw[h3,h5]
 | .vs k g n,h=>by
  simp only[AV.okX] at h;simp only[AV.ren,AV.renX,φX,zvs];rcases qZ (φ:=φZ Fz) h with ⟨j,h1,h2⟩|⟨h0,h1,h2⟩
  ·rw[h1,h2]
  ·rw[h1,h2]
   rcases oA (c:=λb=>match b with| .vec _ es=>n=es.length|_=>True) h0 with ⟨b,h3,h4,h5⟩|⟨h3,h5⟩
   ·rw[h3,h5]
    cases b with
    |mp=>rfl
    |cells cs=>rfl
    |vec s es=>dsimp only at h4⊢;subst h4;rw[Ac (A7 _),List.take_length]
   ·rw[h3,h5]
 | .vw k g o n,h=>by
  simp only[AV.okX] at h;simp only[AV.ren,AV.renX,φX,zvw];rcases qZ (φ:=φZ Fz) h with ⟨j,h1,h2⟩|⟨h0,h1,h2⟩
  ·rw[h1,h2]
  ·rw[h1,h2]
   rcases oA (c:=λb=>match b with| .vec _ es=>o+n<=es.length|_=>True) h0 with ⟨b,h3,h4,h5⟩|⟨h3,h5⟩
   ·rw[h3,h5]
    cases b with
    |mp=>rfl
    |cells cs=>rfl
    |vec s es=>dsimp only at h4⊢;rw[Ac h4]
   ·rw[h3,h5]
theorem iI {Dz Fz:Fzs}: ∀l:B7,iJ Dz Fz l->dT (φX Dz Fz) l=iQ Dz Fz l
 | [],_=>rfl
 |a::r,h=>by
  simp only[iJ] at h;simp only[dT,iQ];rw[AV.renX_eq a h.1,iI r h.2]
end
def Blk.renX (Dz Fz:Fzs):Blk->Blk
 | .cells cs=>.cells (iQ Dz Fz cs)
 | .vec s es=>.vec s es
 | .mp es=>.mp es
def Blk.okX (Dz Fz:Fzs):Blk->Prop
 | .cells cs=>iJ Dz Fz cs
 | .vec _ es=>ab es=true
 | .mp _=>True
theorem Blk.renX_eq {Dz Fz:Fzs}{b:Blk}(h:b.okX Dz Fz):b.ren (φX Dz Fz)=b.renX Dz Fz:=by
 cases b with
 |mp es=>rfl
 |cells cs=>simp only[Blk.ren,Blk.renX];rw[iI cs h]
 |vec s es=>simp only[Blk.ren,Blk.renX];rw[dh _ es h]
def bX (Dz Fz:Fzs):Fzs->C5
 | []=>[]
 |(_,_,b)::r=>b.renX Dz Fz::bX Dz Fz r
def mg (Dz Fz:Fzs):Fzs->Prop
 | []=>True
 |(_,_,b)::r=>b.okX Dz Fz/\mg Dz Fz r
theorem abJ {Dz Fz:Fzs}: ∀{Z:Fzs},mg Dz Fz Z->(Z.map λx=>x.2.2.ren (φX Dz Fz))=bX Dz Fz Z
 | [],_=>rfl
 |(k,g,b)::r,h=>by simp only[An,bX];rw[Blk.renX_eq h.1,abJ h.2]
mutual
def AV.renS (φ:Nat->Nat->Tgt):AV->AV
 | .ref k g o=>match φ k g with
  | .to k' g'=>.ref k' g' o
  |_=>.any
 | .er k g i o=>match φ k g with
  | .to k' g'=>.er k' g' i o
  |_=>.any
 | .vs k g n=>match φ k g with
  | .to k' g'=>.vs k' g' n
  |_=>.any
 | .vw k g o n=>match φ k g with
  | .to k' g'=>.vw k' g' o n
  |_=>.any
 | .mp k g=>match φ k g with
  | .to k' g'=>.mp k' g'
  |_=>.any
 | .agg cs=>.agg (oo φ cs)
 | .tup cs=>.tup (oo φ cs)
 | .fn f cs=>.fn f (oo φ cs)
 |a=>a
def oo (φ:Nat->Nat->Tgt):B7->B7
 | []=>[]
 |a::r=>AV.renS φ a::oo φ r
end
mutual
def AV.okS:AV->Prop
 | .agg cs=>se cs
 | .tup cs=>se cs
 | .fn _ cs=>se cs
 | .sl _ es=>ab es=true
 | .rp cs=>aM cs=true
 | .ifc _ v=>v.pure=true
 |_=>True
def se:B7->Prop
 | []=>True
 |a::r=>AV.okS a/\se r
end
def NoFrz (φ:Nat->Nat->Tgt):Prop:= ∀k g b,φ k g≠ .frz b
theorem NoFrz.ψ: ∀(K Q:Cc),NoFrz (ψX K Q)
 | [],_,_,_,_=>by simp[ψX]
 |_::_,[],_,_,_=>by simp[ψX]
 |k::K,g::Q,0,_,_=>by simp[ψX]
 |k::K,g::Q,i+1,x,b=>by simpa[ψX] using NoFrz.ψ K Q i x b
mutual
theorem AV.renS_eq {φ:Nat->Nat->Tgt}(hφ:NoFrz φ): ∀a:AV,a.okS->a.ren φ=a.renS φ
 | .any,_| .int _ _,_| .bool _,_| .str _,_| .con _,_=>by simp[AV.ren,AV.renS]
 | .agg cs,h=>by simp only[AV.ren,AV.renS];rw[kJ hφ cs (by simpa[AV.okS] using h)]
 | .tup cs,h=>by simp only[AV.ren,AV.renS];rw[kJ hφ cs (by simpa[AV.okS] using h)]
 | .fn f cs,h=>by simp only[AV.ren,AV.renS];rw[kJ hφ cs (by simpa[AV.okS] using h)]
 | .sl s es,h=>by simp only[AV.ren,AV.renS];rw[dh _ es (by simpa[AV.okS] using h)]
 | .rp cs,h=>by simp only[AV.ren,AV.renS];rw[gV _ cs (by simpa[AV.okS] using h)]
 | .ifc t v,h=>by simp only[AV.ren,AV.renS];rw[AV.ren_pure _ v (by simpa[AV.okS] using h)]
 | .ref k g o,_=>by
  simp only[AV.ren,AV.renS];cases h:φ k g with
  |frz b=>exact absurd h (hφ k g b)
  |_=>rfl
 | .er k g i o,_=>by
  simp only[AV.ren,AV.renS];cases h:φ k g with
  |frz b=>exact absurd h (hφ k g b)
  |_=>rfl
 | .vs k g n,_=>by
  simp only[AV.ren,AV.renS];cases h:φ k g with
  |frz b=>exact absurd h (hφ k g b)
  |_=>rfl
 | .mp k g,_=>by
  simp only[AV.ren,AV.renS];cases h:φ k g with
  |frz b=>exact absurd h (hφ k g b)
  |_=>rfl
 | .vw k g o n,_=>by
  simp only[AV.ren,AV.renS];cases h:φ k g with
  |frz b=>exact absurd h (hφ k g b)
  |_=>rfl
theorem kJ {φ:Nat->Nat->Tgt}(hφ:NoFrz φ): ∀l:B7,se l->dT φ l=oo φ l
 | [],_=>rfl
 |a::r,h=>by
  simp only[se] at h;simp only[dT,oo];rw[AV.renS_eq hφ a h.1,kJ hφ r h.2]
end
def Blk.renS (φ:Nat->Nat->Tgt):Blk->Blk
 | .cells cs=>.cells (oo φ cs)
 | .vec s es=>.vec s es
 | .mp es=>.mp es
def Blk.okS:Blk->Prop
 | .cells cs=>se cs
 | .vec _ es=>ab es=true
 | .mp _=>True
theorem Blk.renS_eq {φ:Nat->Nat->Tgt}(hφ:NoFrz φ){b:Blk}(h:b.okS):b.ren φ=b.renS φ:=by
 cases b with
 |mp es=>rfl
 |cells cs=>simp only[Blk.ren,Blk.renS];rw[kJ hφ cs h]
 |vec s es=>simp only[Blk.ren,Blk.renS];rw[dh _ es h]
def xK:Co->Prop
 | []=>True
 |(_,b)::r=>b.okS/\xK r
def wS (ψ:Nat->Nat->Tgt):Cc->Cc->Co->az
 |k::K,g::Q,(_,b)::R=>(k,some (g,b.renS ψ))::wS ψ K Q R
 |_,_,_=>[]
theorem OO {ψ:Nat->Nat->Tgt}(hψ:NoFrz ψ): ∀{R:Co}(K Q:Cc),xK R->wX ψ K Q R=wS ψ K Q R
 | [],K,Q,_=>by cases K<;>cases Q<;>rfl
 |(fl,b)::R,[],_,_=>rfl
 |(fl,b)::R,_::_,[],_=>rfl
 |(fl,b)::R,k::K,g::Q,h=>by simp only[wX,wS];rw[Blk.renS_eq hψ h.1,OO hψ K Q h.2]
mutual
def fA:AV->(AV->Prop)->Prop
 | .any,K=>K .any
 | .int k n,K=>K (.int k n)
 | .bool b,K=>K (.bool b)
 | .str s,K=>K (.str s)
 | .con v,K=>K (.con v)
 | .agg cs,K=>fL cs λl=>K (.agg l)
 | .sl s es,K=>K (.sl s es)
 | .rp cs,K=>K (.rp cs)
 | .ref k g o,K=>K (.ref k g o)
 | .er k g i o,K=>K (.er k g i o)
 | .vs k g n,K=>K (.vs k g n)
 | .vw k g o n,K=>K (.vw k g o n)
 | .mp k g,K=>K (.mp k g)
 | .fn f cs,K=>fL cs λl=>K (.fn f l)
 | .tup cs,K=>fL cs λl=>K (.tup l)
 | .ifc t v,K=>K (.ifc t v)
def fL:B7->(B7->Prop)->Prop
 | [],K=>K []
 |a::r,K=>fA a λa=>fL r λl=>K (a::l)
end
mutual
theorem zc: ∀(a:AV)(K:AV->Prop),fA a K↔K a
 | .any,K| .int _ _,K| .bool _,K| .str _,K| .con _,K| .sl _ _,K| .rp _,K| .ref _ _ _,K| .er _ _ _ _,K| .vs _ _ _,K| .vw _ _ _ _,K| .ifc _ _,K| .mp _ _,K=>by simp[fA]
 | .agg cs,K=>by simp only[fA];exact pg cs _
 | .fn f cs,K=>by simp only[fA];exact pg cs _
 | .tup cs,K=>by simp only[fA];exact pg cs _
theorem pg: ∀(l:B7)(K:B7->Prop),fL l K↔K l
 | [],K=>by simp[fL]
 |a::r,K=>by simp only[fL];rw[zc a];exact pg r _
end
def fLL:B6->(B6->Prop)->Prop
 | [],K=>K []
 |a::r,K=>fL a λa=>fLL r λl=>K (a::l)
theorem Bx: ∀{l:B6}{K:B6->Prop},fLL l K↔K l
 | [],K=>Iff.rfl
 |a::r,K=>by simp only[fLL];rw[pg a];exact Bx
def fW:az->(az->Prop)->Prop
 | [],K=>K []
 |(k,some (g,.cells cs))::r,K=>fL cs λcs=>fW r λl=>K ((k,some (g,.cells cs))::l)
 |(k,some (g,.vec s es))::r,K=>fW r λl=>K ((k,some (g,.vec s es))::l)
 |(k,some (g,.mp es))::r,K=>fW r λl=>K ((k,some (g,.mp es))::l)
 |(k,none)::r,K=>fW r λl=>K ((k,none)::l)
theorem rt: ∀{l:az}{K:az->Prop},fW l K↔K l
 | [],K=>Iff.rfl
 |(k,some (g,.cells cs))::r,K=>by simp only[fW];rw[pg];exact rt
 |(k,some (g,.vec s es))::r,K=>by simp only[fW];exact rt
 |(k,some (g,.mp es))::r,K=>by simp only[fW];exact rt
 |(k,none)::r,K=>by simp only[fW];exact rt
mutual
def AV.kS (all:Bool):AV->Cc
 | .agg cs| .fn _ cs| .tup cs=>kSL all cs
 | .ref k _ _=>[k]
 | .er k _ _ _=>[k]
 | .vs k _ _=>bif all then [k] else []
 | .vw k _ _ _=>bif all then [k] else []
 | .mp k _=>[k]
 |_=>[]
def kSL (all:Bool):B7->Cc
 | []=>[]
 |a::r=>AV.kS all a++kSL all r
end
mutual
theorem AV.kS_eq {Dz Fz:Fzs}{all:Bool}: ∀a:AV,a.okX Dz Fz->a.keys all=a.kS all
 | .any,_| .int _ _,_| .bool _,_| .str _,_| .con _,_=>by simp[AV.keys,AV.kS]
 | .agg cs,h=>by simp only[AV.keys,AV.kS];exact iY cs (by simpa[AV.okX] using h)
 | .tup cs,h=>by simp only[AV.keys,AV.kS];exact iY cs (by simpa[AV.okX] using h)
 | .fn f cs,h=>by simp only[AV.keys,AV.kS];exact iY cs (by simpa[AV.okX] using h)
 | .sl s es,h=>by simp only[AV.keys,AV.kS];exact jn all es (by simpa[AV.okX] using h)
 | .rp cs,h=>by simp only[AV.keys,AV.kS];exact jg all cs (by simpa[AV.okX] using h)
 | .ifc t v,h=>by simp only[AV.keys,AV.kS];exact AV.keys_pure all v (by simpa[AV.okX] using h)
 | .ref _ _ _,_| .er _ _ _ _,_| .vs _ _ _,_| .vw _ _ _ _,_| .mp _ _,_=>by simp[AV.keys,AV.kS]
theorem iY {Dz Fz:Fzs}{all:Bool}: ∀l:B7,iJ Dz Fz l->cm all l=kSL all l
 | [],_=>rfl
 |a::r,h=>by
  simp only[iJ] at h;simp only[cm,kSL];rw[AV.kS_eq a h.1,iY r h.2]
end
def Blk.kS:Blk->Cc
 | .cells cs=>kSL true cs
 | .vec _ _=>[]
 | .mp _=>[]
theorem Blk.kS_eq {Dz Fz:Fzs}{b:Blk}(h:b.okX Dz Fz):b.keys=b.kS:=by
 cases b with
 |mp es=>rfl
 |cells cs=>exact iY cs h
 |vec s es=>exact jn true es h
def mc (hp:az):Cc->Cc
 | []=>[]
 |k::r=>(match aY hp k with|some (_,b)=>b.kS|none=>[])++mc hp r
def JT (hp:az)(E:Cc):Cc:=E++fy ((mc hp E).filter λk=> !E.contains k)
def uC (hp:az)(raw:Bool)(args:B7):Cc:=
 match kSL raw args with
 | []=>[]
 |D=>JT hp (fy ((D++mc hp D)++mc hp (D++mc hp D)))
theorem Cz {Dz Fz:Fzs}: ∀{Z:Fzs},mg Dz Fz Z-> ∀x∈Z,x.2.2.okX Dz Fz
 |(k,g,b)::r,h,x,hx=>by
  rcases AI.1 hx with rfl|hx
  ·exact h.1
  ·exact Cz h.2 x hx
section
variable {G:Nat->Fun}{hp:az}{f:Nat}{args:B7}{g dst:Nat}{E:Prop}{k:Eff->Prop}{r:AV}{R:Co}
theorem Om {raw:Bool}{args:B7}{Dz Fz:Fzs}(hD:AtOk hp Dz)(hok:iJ Dz Fz args)(hbok:mg Dz Fz Dz)(hE:uC hp raw args=Dz.map (·.1)):gZ (aY hp) raw args=Dz.map (·.1):=by
 rw[<-hE];unfold gZ uC;rw[iY args hok]
 have key: ∀D:Cc,(∀k∈D,k∈Dz.map (·.1))->bU (aY hp) D=mc hp D:=by
  intro D
  induction D with
  |nil=>intro _;rfl
  |cons k r ih=>
   intro h;simp only[bU,mc];rw[ih λx hx=>h x (by simp[hx])]
   congr 1
   obtain ⟨x,hx,rfl⟩:=Bd.1 (h k (by simp))
   rw[hD.at x hx];exact Blk.kS_eq (Cz hbok x hx)
 grind [uC,eF,ru,JT]
theorem wZ {Dz Fz:Fzs}{args:B7}(hok:iJ Dz Fz args)(h:kSL true args≠ []):cm true args≠ []:=by grind [iY]
theorem tp (h:r.okS):dv r=none:=by
 cases hu:dv r with
 |none=>rfl
 |some a=>
  obtain ⟨t,rfl⟩:=qc hu;have:(AV.tup [.ref 0 1 0,a]).pure=true:=h
  grind [AV.pure,aM]
theorem ahu (Dz Fz:Fzs)(hD:AtOk hp Dz)(hF:FzOk hp Fz)(hE:uC hp (G f).raw args=Dz.map (·.1))(hK:(kSL true args).filter (λk=> !(Dz.map (·.1)).contains k)=Fz.map (·.1))(hne:kSL true args≠ [])(hok:iJ Dz Fz args)(hbok:mg Dz Fz Dz)(hG:ag G f (iQ Dz Fz args) (bX Dz Fz Dz) ⟨r,R⟩)(hd:(R.isEmpty&&r.dry)=false)(hl:Nat.ble Dz.length R.length=true)(hn:d9 (bN Dz dst 0 R)=true)(hro:r.okS)(hRo:xK R)(h:fA (r.renS (ψX (bN Dz dst 0 R) (cw Dz R g))) λr'=>fW (wS (ψX (bN Dz dst 0 R) (cw Dz R g)) (bN Dz dst 0 R) (cw Dz R g) R) λw'=>k {res:=r',wr:=w'++bW (Fz.map (·.1)),rd:=Fz.map (·.1)++Dz.map (·.1)}):CallG G hp f args g dst E k:=by
 rw[<-iI args hok,<-abJ hbok] at hG;refine .mk _ _ _ (xG hD hF (Om hD hok hbok hE) (by grind [iY]) (wZ hok hne)) hG (uR hD hd (Nat.le_of_ble_eq_true hl) hn (tp hro)) ?_
 grind [AV.renS_eq,NoFrz.ψ,OO,rt,zc]
theorem agl (hG:ag G f args [] ⟨r,R⟩)(hp':aM args=true)(hd:(R.isEmpty&&r.dry)=false)(hn:d9 (bN [] dst 0 R)=true)(hro:r.okS)(hRo:xK R)(h:fA (r.renS (ψX (bN [] dst 0 R) (cw [] R g))) λr'=>fW (wS (ψX (bN [] dst 0 R) (cw [] R g)) (bN [] dst 0 R) (cw [] R g) R) λw'=>k {res:=r',wr:=w'++bW [],rd:=[]++[]}):CallG G hp f args g dst E k:=by
 refine .mk _ _ _ (qU hp') hG (uR (Dz:=[]) (hp:=hp) trivial hd (Nat.zero_le _) hn (tp hro)) ?_
 grind [AV.renS_eq,NoFrz.ψ,OO,rt,zc]
theorem aht (Fz:Fzs)(hF:FzOk hp Fz)(hE:uC hp (G f).raw args= [])(hK:kSL true args=Fz.map (·.1))(hne:kSL true args≠ [])(hok:iJ [] Fz args)(hG:ag G f (iQ [] Fz args) [] ⟨r,[]⟩)(hr:r.dry=true)(h:k {res:=r,wr:=[],rd:=Fz.map (·.1)++[]}):CallG G hp f args g dst E k:=by
 rw[<-iI args hok] at hG;refine .mk _ _ _ (xG (Dz:=[]) trivial hF (Om (Dz:=[]) (Fz:=Fz) trivial hok trivial hE) ((List.filter_eq_self.2 λ_ _=>rfl).trans ((iY args hok).trans hK)) (wZ hok hne)) hG ?_ h
 grind [ck]
theorem bslP {s:Nat}{z:B7}{n:Nat}{ps:Cc}{vs:B7}{k:B6->Cc->Prop}{es:B6}(h1:aM vs=true)(h2:l9 s (iV n z) ps vs=some es)(hk:fLL es λes=>k es []):BslC hp s z n ps vs k:=.pure h1 es h2 (Bx.1 hk)
end
section
variable {k:Eff->Prop} {a b:Int} {q:IntKind} {xs:Do} {g key:Nat} {hg:Nat->Cl}
theorem agB (h:k {res:=.int q a})(h1:b<=a:=by omega): ∃e,aX (.minmax true xs) g key [.int q a,.int q b] hg=some e/\k e:=by
 grind [aX,qM]
theorem agA (h:k {res:=.int q b})(h1:a<b:=by omega): ∃e,aX (.minmax true xs) g key [.int q a,.int q b] hg=some e/\k e:=by
 grind [aX,qM]
theorem agz (h:k {res:=.int q a})(h1:a<=b:=by omega): ∃e,aX (.minmax false xs) g key [.int q a,.int q b] hg=some e/\k e:=by
 grind [aX,qM]
theorem agy (h:k {res:=.int q b})(h1:b<a:=by omega): ∃e,aX (.minmax false xs) g key [.int q a,.int q b] hg=some e/\k e:=by
 grind [aX,qM]
theorem agD {x:Opd}{n:Nat}(h:k {res:=.int .u8 (UInt8.ofNat n).toNat}): ∃e,aX (.conv .u8 x) g key [.int q (n:Int)] hg=some e/\k e:=by
 refine ⟨_,?_,h⟩
 have e:IntKind.wrap .u8 (n:Int)=((UInt8.ofNat n).toNat:Int):=by
  simp_all[IntKind.wrap,IntKind.bits,IntKind.signed]
 show some (Eff.mk (AV.int .u8 (IntKind.wrap .u8 n)) [] [] [])=_
 rw[e]
theorem zShr {k:AV->Prop}{n:Nat}{b:Int}(h:k (.int .u64 ((n/ 2^b.toNat:Nat):Int)))(h1:0<=b:=by omega)(h2:b<=64:=by omega): ∃v,bm .shr (.int .u64 (n:Int)) (.int .i64 b)=some v/\k v:=by
 refine ⟨_,?_,h⟩;show (if b<0 then none else some (AV.int .u64 ((n:Int).fdiv (2^ (min b.toNat 64)))))=_
 grind
end
def be:Nat->Nat->B5
 |0,_=>[]
 |n+1,x=>UInt8.ofNat (x/ 256^n)::be n x
@[simp] theorem VO: ∀n x,(be n x).length=n
 |0,_=>rfl
 |n+1,x=>by simp[be,VO n x]
@[simp] theorem aa0 (l:B5):(byteCells l).length=l.length:=by simp[byteCells]
@[simp] theorem aa1 (a b:B5):byteCells (a++b)=byteCells a++byteCells b:=by simp[byteCells]
theorem nt {α:Type}{f:α->B7}(h: ∀x,aM (f x)=true): ∀l:List α,ab (l.map f)=true
 | []=>rfl
 |x::r=>by simp only[An,ab,h x,nt h r,Bool.and_self]
@[simp] theorem acn (l:B5):ab (byteCells l)=true:=nt (f:=λb:UInt8=>[AV.int .u8 (b.toNat:Int)]) (λ_=>rfl) l
theorem dx: ∀a b:B6,ab (a++b)=(ab a&&ab b):=by
 intro z0;induction z0<;>grind [ab]
attribute [simp] dx
def xT:Fzs->Dg->Prop
 | [],[]=>True
 |(_,g,_)::r,f::fs=>f=decide (g=0)/\xT r fs
 |_,_=>False
def flB (Zs:Fzs):Fzs->Dg->Co
 |(_,_,b)::r,f::fs=>(f,b.renX Zs [])::flB Zs r fs
 |(_,_,b)::r,[]=>(false,b.renX Zs [])::flB Zs r []
 | [],_=>[]
def Bj (hp:az)(m:Nat)(r:AV):Cc:=
 let D:=(r.kS true++mc hp (List.range m)).filter (λk=>decide (m<=k))
 fy ((D++mc hp D).filter (λk=>decide (m<=k)))
theorem Kl {hp:az}{Zs Fz:Fzs}(hA:AtOk hp Zs)(hb:mg Zs Fz Zs): ∀(D:Cc),(∀k∈D,(∃x,aY hp k=some x)->k∈Zs.map (·.1))->bU (aY hp) D=mc hp D
 | [],_=>rfl
 |k::r,h=>by
  simp only[bU,mc];rw[Kl hA hb r λx hx=>h x (by simp[hx])]
  congr 1
  cases hk:aY hp k with
  |none=>rfl
  |some x=>
   obtain ⟨y,hy,rfl⟩:=Bd.1 (h k (by simp) ⟨x,hk⟩)
   rw[hA.at y hy] at hk;obtain rfl:=Ad hk;exact Blk.kS_eq (Cz hb y hy)
theorem Ub {hp:az}{m:Nat}{Zs:Fzs}{N:Cc}(hA:AtOk hp Zs)(hk:Zs.map (·.1)=List.range m++N)(hN: ∀k∈N,m<=k)(hnd:N.Nodup):wW hp m N=φX Zs []:=by
 funext k g
 unfold wW φX
 by_cases h1:k∈Zs.map (·.1)
 ·rw[Gq 0 hA k g h1,hk]
  cases aY hp k with
  |none=>rfl
  |some x=>
   obtain ⟨g',b⟩:=x;dsimp only;split
   ·by_cases hlt:k<m
    ·rw[Ac hlt]
     have:idx k (List.range m++N)=some k:=by
      have hmem:k∈List.range m++N:=by simp[hlt]
      obtain ⟨i,hi⟩:=idx_at hmem;have hi2:=fH hi
      grind
     grind
    ·rw[Aa hlt]
     have hkN:k∈N:=by grind
     obtain ⟨i,hi⟩:=idx_at hkN
     have:idx k (List.range m++N)=some (m+i):=by
      have hmem:k∈List.range m++N:=by simp[hkN]
      obtain ⟨j,hj⟩:=idx_at hmem;have hj2:=fH hj;rw[ym] at hj2;split at hj2
      ·grind
      ·rename_i hh
       have:=qk hnd hj2 (fH hi);rw[hj];congr 1;omega
     grind
   ·rfl
 grind [Gn,φZ,qP]
theorem tZ {hp:az}{φ:Nat->Nat->Tgt}{m:Nat}: ∀{Zs:Fzs},AtOk hp Zs->iW hp φ m (Zs.map (·.1))=some (Zs.map λx=>(decide (x.1<m/\x.2.1=0),x.2.2.ren φ))
 | [],_=>rfl
 |(k,g,b)::r,h=>by
  have h1:=h.at (k,g,b) (by simp)
  simp only at h1;simp only[An,iW,h1,tZ h.2]
theorem Js {Zs:Fzs}{m:Nat}: ∀(Ez Nz:Fzs)(fl:Dg),xT Ez fl->(∀x∈Ez,x.1<m)->(∀x∈Nz,m<=x.1)->mg Zs [] (Ez++Nz)->(Ez++Nz).map (λx=>(decide (x.1<m/\x.2.1=0),x.2.2.ren (φX Zs [])))=flB Zs (Ez++Nz) fl
 | [],[],[],_,_,_,_=>rfl
 | [],(k,g,b)::Nz,[],h1,h2,h3,h4=>by
  have:=Js (Zs:=Zs) [] Nz [] trivial (by simp) (λx hx=>h3 x (by simp[hx])) h4.2
  have hk: ¬k<m:=by simp_all
  simp only[A9] at this;simp only[A9,An,flB,hk,false_and,decide_false,this];rw[Blk.renX_eq h4.1]
 |(k,g,b)::Ez,Nz,f::fl,h1,h2,h3,h4=>by
  have:=Js (Zs:=Zs) Ez Nz fl h1.2 (λx hx=>h2 x (by simp[hx])) h3 h4.2
  have hk:k<m:=h2 (k,g,b) (by simp)
  simp only[BD,An,flB,hk,true_and,this,h1.1];rw[Blk.renX_eq h4.1]
 | [],_,_::_,h1,_,_,_=>h1.elim
 |_::_,_,[],h1,_,_,_=>h1.elim
theorem GX {tm:Cf}{hp:az}{ctr:Nat}{rs:CT}{m:Nat}{a:AV}(Ez Nz:Fzs)(fl:Dg)(ha:kw ⟨tm,hp,ctr⟩ rs=some a)(hm:0<m)(hA:AtOk hp (Ez++Nz))(hE:Ez.map (·.1)=List.range m)(hN:Bj hp m a=Nz.map (·.1))(hok:a.okX (Ez++Nz) [])(hbok:mg (Ez++Nz) [] (Ez++Nz))(hfl:xT Ez fl):
  fC ⟨tm,hp,ctr⟩ rs m=some ⟨a.renX (Ez++Nz) [],flB (Ez++Nz) (Ez++Nz) fl⟩:=by
 unfold fC;rw[ha];dsimp only;have hm0:(m==0)=false:=by grind
 rw[hm0,Bo,cond_false]
 have hNk:jm hp m a=Nz.map (·.1):=by
  grind [jm,Bj,AV.kS_eq,Kl,eF]
 have hspec:=o8 (hp:=hp) (m:=m) (r:=a);rw[hNk] at hspec;have hkk:(Ez++Nz).map (·.1)=List.range m++Nz.map (·.1):=by grind
 rw[hNk,Ub hA hkk hspec.2 hspec.1,<-hkk,tZ hA];simp only[Option.map_some]
 rw[AV.renX_eq a hok,Js Ez Nz fl hfl (λx hx=>by
  have:x.1∈Ez.map (·.1):=Bd.2 ⟨x,hx,rfl⟩
  grind) (λx hx=>hspec.2 _ (Bd.2 ⟨x,hx,rfl⟩)) hbok]
section
variable {G:Nat->Fun}{k:C1}{tm:Cf}{hp:az}{ctr:Nat}{rs:CT}{m:Nat}{t:Ret}(Ez Nz:Fzs)(fl:Dg)(hm:0<m)(hA:AtOk hp (Ez++Nz))(hE:Ez.map (·.1)=List.range m)(hbok:mg (Ez++Nz) [] (Ez++Nz))(hfl:xT Ez fl)(h:jC tm hp (fQ rs) (je λa=>Bj hp m a=Nz.map (·.1)/\a.okX (Ez++Nz) []/\Ret.mk (a.renX (Ez++Nz) []) (flB (Ez++Nz) (Ez++Nz) fl)=t))
include hm hA hE hbok hfl h
theorem adq:Ev G ⟨.code .ret::k,⟨tm,hp,ctr⟩,rs,m⟩ t:=by
 obtain ⟨a,h1,h2,h3,rfl⟩:=mI (ctr:=ctr) h
 grind [Vh,GX]
theorem aaH:Ev G ⟨[],⟨tm,hp,ctr⟩,rs,m⟩ t:=by
 obtain ⟨a,h1,h2,h3,rfl⟩:=mI (ctr:=ctr) h
 grind [Vm,GX]
end
def φM (k g k2 g2:Nat)(x y:Nat):Tgt:=if x=k/\y=g then .to k2 g2 else .to x y
def hpM (hp:HF)(k k2 g2:Nat)(b:Blk)(φ:Nat->Nat->Tgt):HF:=λx=>if x=k2 then some (g2,b.ren φ) else if x=k then none else (hp x).map λz=>(z.1,z.2.ren φ)
theorem HI.move {C:Ctx}{U:Nat->Prop}{hp:HF}{w:World}{S:Nat->Prop}{β:Nat->Place}{used:Nat->Nat->Prop}(h:HI C U hp w S β used){k g k2 g2:Nat}{b:Blk}(hk:hp k=some (g,b))(hne:k≠k2)(hg: ¬U g2)(hg0:g2≠0):
  let β':=up β k2 (β k)
  let used':Nat->Nat->Prop:=λx y=>used x y∨(x=k2/\y=g2)
  RenOk (aP C S β used hp w) (aP C S β' used' (hpM hp k k2 g2 b (φM k g k2 g2)) w) (φM k g k2 g2)/\HI C (λx=>U x∨x=g2) (hpM hp k k2 g2 b (φM k g k2 g2)) w S β' used':=by
 intro β' used';have hat: ∀x,x≠k2->β' x=β x:=λx e=>du _ _ e
 have hr:RenOk (aP C S β used hp w) (aP C S β' used' (hpM hp k k2 g2 b (φM k g k2 g2)) w) (φM k g k2 g2):=by
  refine ⟨λ_ _ _ z=>z,rfl,rfl,λx y hu=>?_⟩
  have hu:used x y:=hu;unfold φM
  by_cases e:x=k/\y=g
  ·rw[Ac e]
   obtain ⟨rfl,rfl⟩:=e;refine ⟨.inr ⟨rfl,rfl⟩,λp hp'=>?_⟩
   grind [fF,bA,dY]
  ·rw[Aa e]
   refine ⟨.inl hu,λp hp'=>?_⟩
   obtain ⟨b',q1,q2⟩:=fF hp';unfold hpM at q1;split at q1
   ·rename_i e2
    have:g2=y:=(Prod.mk.inj (Ad q1)).1;exact absurd (h.us x y hu) (by grind)
   ·rename_i e2
    split at q1
    ·cases q1
    ·obtain ⟨z,z1,z2⟩:=map_some q1
     grind [bA]
 refine ⟨hr,h.kept,h.s,h.s0,h.keep,?_,λx y b' hx=>?_,λx x' z z' hx hx' n1 n2 hb=>?_,λx b' hx=>?_⟩
 ·rintro x y (hu|⟨_,rfl⟩)
  ·exact .inl (h.us _ _ hu)
  grind
 ·unfold hpM at hx
  split at hx
  ·rename_i e;subst e
   obtain ⟨rfl,rfl⟩:g2=y/\b.ren (φM k g x g2)=b':=by grind
   obtain ⟨q1,q2,q3⟩:=h.at_ k g b hk
   grind [dY,BlkOk.ren]
  ·rename_i e
   split at hx
   ·cases hx
   ·obtain ⟨z,z1,z2⟩:=map_some hx
    obtain ⟨zg,zb⟩:=z;obtain ⟨rfl,rfl⟩:zg=y/\zb.ren (φM k g k2 g2)=b':=by grind
    obtain ⟨q1,q2,q3⟩:=h.at_ x zg zb z1
    grind [BlkOk.ren]
 ·have key: ∀x z,hpM hp k k2 g2 b (φM k g k2 g2) x=some z-> ∃x0 z0,hp x0=some z0/\β' x=β x0/\(x=k2/\x0=k∨x≠k2/\x≠k/\x0=x):=by
   intro x z hx;unfold hpM at hx;split at hx
   ·grind [dY]
   ·rename_i e
    split at hx
    ·cases hx
    ·rename_i e2
     obtain ⟨y,y1,_⟩:=map_some hx
     grind
  obtain ⟨a,za,a1,a2,a3⟩:=key x z hx;obtain ⟨d,zd,d1,d2,d3⟩:=key x' z' hx';rw[a2] at n1 hb;rw[d2] at n2 hb;have:=h.inj a d _ _ a1 d1 n1 n2 hb;omega
 ·unfold hpM at hx
  split at hx
  ·grind
  ·rename_i e
   split at hx
   ·cases hx
   ·obtain ⟨z,z1,z2⟩:=map_some hx
    obtain ⟨zg,zb⟩:=z;obtain ⟨rfl,_⟩:zg=0/\zb.ren (φM k g k2 g2)=b':=by grind
    rw[hat x e];exact h.pl x zb z1
def LMv (k g k2 g2:Nat)(tm:Cf):Cf->Prop
 | []=>True
 |(t,v)::r=>(mW tm t λu=>u.ren (φM k g k2 g2)=v)/\LMv k g k2 g2 tm r
def KMv (k g k2 g2:Nat)(hp:az):az->Prop
 | []=>True
 |(x,z)::r=>(x≠k/\x≠k2/\dU hp x λy=>match y with
  |none=>z=none
  |some (g',b)=>z=some (g',b.ren (φM k g k2 g2)))/\KMv k g k2 g2 hp r
theorem LMv.get {k g k2 g2:Nat}{tm:Cf}: ∀{L:Cf},LMv k g k2 g2 tm L->bI (L++jt (φM k g k2 g2) tm)=bI (jt (φM k g k2 g2) tm)
 | [],_=>rfl
 |(t,v)::r,⟨h1,h2⟩=>by
  funext u
  simp only[BD,bI,h2.get]
  grind [iK,lg]
theorem KMv.get {k g k2 g2:Nat}{b:Blk}{hp:az}: ∀{K:az},KMv k g k2 g2 hp K-> ∀x,aY ((k2,some (g2,b.ren (φM k g k2 g2)))::(k,none)::(K++renH (φM k g k2 g2) hp)) x=hpM (aY hp) k k2 g2 b (φM k g k2 g2) x:=by
 intro K hK x;unfold hpM;simp only[aY]
 by_cases e1:k2=x
 ·grind
 ·rw[Aa e1,Aa (Ne.symm e1)]
  by_cases e2:k=x
  ·grind
  ·rw[Aa e2,Aa (Ne.symm e2)]
   induction K with
   |nil=>grind [jJ]
   |cons y r ih=>
    obtain ⟨y,z⟩:=y;obtain ⟨⟨h1,h2,h3⟩,h4⟩:=hK
    grind [aY,bG]
section
variable {G:Nat->Fun}{todo:C1}{tm:Cf}{hp:az}{ctr:Nat}{rs:CT}{m:Nat}{t:Ret}{g:Nat}{b:Blk}(k k2:Nat)(L:Cf)(K:az)
theorem ahk (hk:dU hp k λz=>z=some (g,b))(hne:k≠k2)(hL:LMv k g k2 ctr tm L)(hK:KMv k g k2 ctr hp K)(h: ∀T H,Ev G ⟨todo,⟨L++T,(k2,some (ctr,b.ren (φM k g k2 ctr)))::(k,none)::(K++H),ctr+1⟩,rs,m⟩ t)(hd:o7 todo=true:=by rfl):Ev G ⟨todo,⟨tm,hp,ctr⟩,rs,m⟩ t:=by
 refine .weak hd (Nat.le_succ ctr) ?_ (h (jt (φM k g k2 ctr) tm) (renH (φM k g k2 ctr) hp))
 rintro C a w hpos ⟨S,β,used,hR⟩
 have hpos:0<ctr:=hpos;obtain ⟨h1,h2⟩:=hR.hi.move (bG.1 hk) hne (g2:=ctr) (λhlt=>Nat.lt_irrefl _ hlt) (by omega)
 have e:(AS.fs ⟨L++jt (φM k g k2 ctr) tm,(k2,some (ctr,b.ren (φM k g k2 ctr)))::(k,none)::(K++renH (φM k g k2 ctr) hp),ctr+1⟩)=⟨bI (jt (φM k g k2 ctr) tm),hpM (aY hp) k k2 ctr b (φM k g k2 ctr)⟩:=by
  unfold AS.fs;rw[hL.get]
  congr 1
  funext x;exact hK.get x
 rw[e];refine ⟨S,_,_,h2.wide (λx hx=>?_),hR.size,hR.defers,λt=>?_⟩
 ·grind
 ·show V _ _ (bI (jt _ tm) t)
  rw[lg];exact (hR.tm t).ren h1
theorem zOr8 {k:AV->Prop}{a b:UInt8}{y:Int}(h:k (.int .u8 ((a|||b:UInt8).toNat:Int)))(hy:y=b.toNat): ∃v,bm .or (.int .u8 (a.toNat:Int)) (.int .u8 y)=some v/\k v:=by
 subst hy;refine ⟨_,?_,h⟩;show some (AV.int .u8 (intBits .or .u8 a.toNat b.toNat))=_
 congr 2
 unfold intBits
 have h1:(BitVec.ofInt 8 (a.toNat:Int))=a.toBitVec:=by
  simp_all
 have h2:(BitVec.ofInt 8 (b.toNat:Int))=b.toBitVec:=by
  simp_all
 show IntKind.wrap .u8 (((BitVec.ofInt 8 (a.toNat:Int))|||(BitVec.ofInt 8 (b.toNat:Int))).toNat:Int)=_
 rw[h1,h2];have h3:(a.toBitVec|||b.toBitVec).toNat=(a|||b:UInt8).toNat:=by simp
 rw[h3];have hlt:=(a|||b:UInt8).toNat_lt
 grind [rc]
theorem agx {k:AV->Prop}{a:UInt8}(h:k (.int .u8 ((a|||16:UInt8).toNat:Int))): ∃v,bm .or (.int .u8 (a.toNat:Int)) (.int .u8 16)=some v/\k v:=zOr8 (b:=16) h rfl
theorem Vj (hk:dU hp k λz=>z=some (g,b))(hb:b.pure=true)(hne:k≠k2)(hL:LMv k g k2 ctr tm L)(hK:KMv k g k2 ctr hp K)(h: ∀T H,Ev G ⟨todo,⟨L++T,(k2,some (ctr,b))::(k,none)::(K++H),ctr+1⟩,rs,m⟩ t)(hd:o7 todo=true:=by rfl):Ev G ⟨todo,⟨tm,hp,ctr⟩,rs,m⟩ t:=
 ahk k k2 L K hk hne hL hK (λT H=>by grind [Blk.ren_pure]) hd
end
section
variable {hg:Nat->Cl} {a b:Int} {q:IntKind} {xs:Do} {g key:Nat}
end
section
variable {p q:Prop}
theorem cF {b:Bool}(h:q)(hb:b=false:=by first|rfl|exact Al (by omega)|exact beq_false_of_ne (by omega)|exact bne_eq_false_iff_eq.2 (by omega)|exact beq_false_of_ne (by assumption)|assumption):condC b p q:=agb hb h
end
section
variable {G:Nat->Fun} {hp:az} {f:Nat} {args:B7} {g dst:Nat} {E:Prop} {k:Eff->Prop} {r:AV} {R:Co}
theorem kV (hG:ag G f args [] ⟨r,[]⟩)(h:k {res:=r})(hp':aM args=true:=by first|rfl|(simp[aM,ab,AV.pure];done)|fail)(hr:r.dry=true:=by first|rfl|(simp[AV.dry,uE];done)|fail):CallG G hp f args g dst E k:=ahv hG hp' hr h
theorem kN (hG:ag G f args [] ⟨r,R⟩)(h:fA (r.renS (ψX (bN [] dst 0 R) (cw [] R g))) λr'=>fW (wS (ψX (bN [] dst 0 R) (cw [] R g)) (bN [] dst 0 R) (cw [] R g) R) λw'=>k {res:=r',wr:=w'++bW [],rd:=[]++[]})(hp':aM args=true:=by first|rfl|(simp[aM,ab,AV.pure];done)|fail)(hd:(R.isEmpty&&r.dry)=false:=by rfl)(hn:d9 (bN [] dst 0 R)=true:=by rfl)(hro:r.okS:=by repeat' (first|exact trivial|rfl|refine And.intro ?_ ?_|(simp[aM,ab,AV.pure,Blk.renS,Blk.okS,Blk.okX,AV.okS,AV.okX];done)|omega|fail))(hRo:xK R:=by repeat' (first|exact trivial|rfl|refine And.intro ?_ ?_|(simp[aM,ab,AV.pure,Blk.renS,Blk.okS,Blk.okX,AV.okS,AV.okX];done)|omega|fail)):CallG G hp f args g dst E k:=agl hG hp' hd hn hro hRo h
theorem kX (Dz Fz:Fzs)(hD:AtOk hp Dz)(hF:FzOk hp Fz)(hG:ag G f (iQ Dz Fz args) (bX Dz Fz Dz) ⟨r,R⟩)(h:fA (r.renS (ψX (bN Dz dst 0 R) (cw Dz R g))) λr'=>fW (wS (ψX (bN Dz dst 0 R) (cw Dz R g)) (bN Dz dst 0 R) (cw Dz R g) R) λw'=>k {res:=r',wr:=w'++bW (Fz.map (·.1)),rd:=Fz.map (·.1)++Dz.map (·.1)})(hE:uC hp (G f).raw args=Dz.map (·.1):=by rfl)(hK:(kSL true args).filter (λk=> !(Dz.map (·.1)).contains k)=Fz.map (·.1):=by rfl)(hne:kSL true args≠ []:=by exact List.cons_ne_nil _ _)(hok:iJ Dz Fz args:=by repeat' (first|exact trivial|rfl|refine And.intro ?_ ?_|(simp[aM,ab,AV.pure,Blk.renS,Blk.okS,Blk.okX,AV.okS,AV.okX];done)|omega|fail))(hbok:mg Dz Fz Dz:=by repeat' (first|exact trivial|rfl|refine And.intro ?_ ?_|(simp[aM,ab,AV.pure,Blk.renS,Blk.okS,Blk.okX,AV.okS,AV.okX];done)|omega|fail))(hd:(R.isEmpty&&r.dry)=false:=by rfl)(hl:Nat.ble Dz.length R.length=true:=by rfl)(hn:d9 (bN Dz dst 0 R)=true:=by rfl)(hro:r.okS:=by repeat' (first|exact trivial|rfl|refine And.intro ?_ ?_|(simp[aM,ab,AV.pure,Blk.renS,Blk.okS,Blk.okX,AV.okS,AV.okX];done)|omega|fail))(hRo:xK R:=by repeat' (first|exact trivial|rfl|refine And.intro ?_ ?_|(simp[aM,ab,AV.pure,Blk.renS,Blk.okS,Blk.okX,AV.okS,AV.okX];done)|omega|fail)):CallG G hp f args g dst E k:=ahu Dz Fz hD hF hE hK hne hok hbok hG hd hl hn hro hRo h
theorem kX1 (kk:Nat){gg:Nat}{bb:Blk}(hD:dU hp kk λz=>z=some (gg,bb))(hG:ag G f (iQ [(kk,gg,bb)] [] args) (bX [(kk,gg,bb)] [] [(kk,gg,bb)]) ⟨r,R⟩)(h:fA (r.renS (ψX (bN [(kk,gg,bb)] dst 0 R) (cw [(kk,gg,bb)] R g))) λr'=>fW (wS (ψX (bN [(kk,gg,bb)] dst 0 R) (cw [(kk,gg,bb)] R g)) (bN [(kk,gg,bb)] dst 0 R) (cw [(kk,gg,bb)] R g) R) λw'=>k {res:=r',wr:=w'++bW ([]),rd:=[]++[kk]})(hE:uC hp (G f).raw args= [kk]:=by rfl)(hK:(kSL true args).filter (λk=> !([kk]).contains k)= []:=by rfl)(hne:kSL true args≠ []:=by exact List.cons_ne_nil _ _)(hok:iJ [(kk,gg,bb)] [] args:=by repeat' (first|exact trivial|rfl|refine And.intro ?_ ?_|(simp[aM,ab,AV.pure,Blk.renS,Blk.okS,Blk.okX,AV.okS,AV.okX];done)|omega|fail))(hbok:mg [(kk,gg,bb)] [] [(kk,gg,bb)]:=by repeat' (first|exact trivial|rfl|refine And.intro ?_ ?_|(simp[aM,ab,AV.pure,Blk.renS,Blk.okS,Blk.okX,AV.okS,AV.okX];done)|omega|fail))(hd:(R.isEmpty&&r.dry)=false:=by rfl)(hl:Nat.ble [(kk,gg,bb)].length R.length=true:=by rfl)(hn:d9 (bN [(kk,gg,bb)] dst 0 R)=true:=by rfl)(hro:r.okS:=by repeat' (first|exact trivial|rfl|refine And.intro ?_ ?_|(simp[aM,ab,AV.pure,Blk.renS,Blk.okS,Blk.okX,AV.okS,AV.okX];done)|omega|fail))(hRo:xK R:=by repeat' (first|exact trivial|rfl|refine And.intro ?_ ?_|(simp[aM,ab,AV.pure,Blk.renS,Blk.okS,Blk.okX,AV.okS,AV.okX];done)|omega|fail)):CallG G hp f args g dst E k:=kX [(kk,gg,bb)] [] ⟨hD,trivial⟩ trivial hG h hE hK hne hok hbok hd hl hn hro hRo
theorem kZ (Fz:Fzs)(hF:FzOk hp Fz)(hG:ag G f (iQ [] Fz args) [] ⟨r,[]⟩)(h:k {res:=r,wr:=[],rd:=Fz.map (·.1)++[]})(hE:uC hp (G f).raw args= []:=by rfl)(hK:kSL true args=Fz.map (·.1):=by rfl)(hne:kSL true args≠ []:=by exact List.cons_ne_nil _ _)(hok:iJ [] Fz args:=by repeat' (first|exact trivial|rfl|refine And.intro ?_ ?_|(simp[aM,ab,AV.pure,Blk.renS,Blk.okS,Blk.okX,AV.okS,AV.okX];done)|omega|fail))(hr:r.dry=true:=by first|rfl|(simp[AV.dry,uE];done)|fail):CallG G hp f args g dst E k:=aht Fz hF hE hK hne hok hG hr h
end
theorem pz {b:Blk}{a:Prop}(k:a)(h:b.pure=true:=by first|rfl|(simp[Blk.renS,Blk.pure,aM,ab,AV.pure];done)|fail):b.pure=true/\a:=⟨h,k⟩
set_option maxRecDepth 100000
section
variable {k:AV->Prop} {a b:Int}
theorem aeo {x c:Nat}(hc:c<256):(x*256)|||c=x*256+c:=by
 have:=Nat.two_pow_add_eq_or_of_lt (i:=8) (b:=c) (by omega) x
 grind
end
section
variable {k:AV->Prop} {b:UInt8}
end
mutual
def WU (Fz:Fzs):AV->(AV->Prop)->Prop
 | .ref k g o,K=>eZ Fz k (λ_ _=>False) (K (.ref k g o))
 | .mp k g,K=>eZ Fz k (λ_ _=>False) (K (.mp k g))
 | .er k g i o,K=>eZ Fz k (λ_ _=>False) (K (.er k g i o))
 | .vs k g n,K=>eZ Fz k (λg' b=>match b with| .vec s es=>g'=g/\n=es.length/\K (.sl s es)|_=>False) (K (.vs k g n))
 | .vw k g o n,K=>eZ Fz k (λg' b=>match b with| .vec s es=>g'=g/\o+n<=es.length/\K (.sl s ((es.drop o).take n))|_=>False) (K (.vw k g o n))
 | .agg cs,K=>qf Fz cs λl=>K (.agg l)
 | .tup cs,K=>qf Fz cs λl=>K (.tup l)
 | .fn f cs,K=>qf Fz cs λl=>K (.fn f l)
 | .sl s es,K=>ab es=true/\K (.sl s es)
 | .rp cs,K=>aM cs=true/\K (.rp cs)
 | .ifc t v,K=>v.pure=true/\K (.ifc t v)
 | .any,K=>K .any
 | .int k n,K=>K (.int k n)
 | .bool b,K=>K (.bool b)
 | .str l,K=>K (.str l)
 | .con v,K=>K (.con v)
def qf (Fz:Fzs):B7->(B7->Prop)->Prop
 | [],K=>K []
 |a::r,K=>WU Fz a λv=>qf Fz r λl=>K (v::l)
end
theorem oB {k:Nat}{f:Nat->Blk->Prop}{d:Prop}: ∀{Fz:Fzs},eZ Fz k f d->(∃g' b,(∀g,φF Fz k g=bif Nat.beq g' g then .frz b else .dead)/\f g' b)∨((∀g,φF Fz k g= .to k g)/\d)
 | [],h=>.inr ⟨λ_=>rfl,h⟩
 |(k',g',b)::r,h=>by
  unfold eZ at h;cases hb:Nat.beq k' k with
  |true=>
   grind [φF]
  |false=>
   rw[hb] at h;rcases oB (Fz:=r) h with ⟨g'',b',h1,h2⟩|⟨h1,h2⟩
   all_goals grind [φF]
mutual
theorem ND {Fz:Fzs}: ∀(a:AV){K:AV->Prop},WU Fz a K-> ∃v,a.ren (φF Fz)=v/\K v
 | .ref k g o,K,h=>by
  rcases oB h with ⟨_,_,_,h2⟩|⟨h1,h2⟩
  ·exact h2.elim
  ·exact ⟨_,by simp only[AV.ren,h1],h2⟩
 | .mp k g,K,h=>by
  rcases oB h with ⟨_,_,_,h2⟩|⟨h1,h2⟩
  ·exact h2.elim
  ·exact ⟨_,by simp only[AV.ren,h1],h2⟩
 | .er k g i o,K,h=>by
  rcases oB h with ⟨_,_,_,h2⟩|⟨h1,h2⟩
  ·exact h2.elim
  ·exact ⟨_,by simp only[AV.ren,h1],h2⟩
 | .vs k g n,K,h=>by
  rcases oB h with ⟨g',b,h1,h2⟩|⟨h1,h2⟩
  ·cases b with
   |cells _=>exact h2.elim
   |mp=>exact h2.elim
   |vec s es=>
    obtain ⟨rfl,rfl,h3⟩:=h2;exact ⟨_,by simp only[AV.ren,h1,Nat.beq_refl,cond_true,A7,if_true,List.take_length],h3⟩
  ·exact ⟨_,by simp only[AV.ren,h1],h2⟩
 | .vw k g o n,K,h=>by
  rcases oB h with ⟨g',b,h1,h2⟩|⟨h1,h2⟩
  ·cases b with
   |cells _=>exact h2.elim
   |mp=>exact h2.elim
   |vec s es=>
    obtain ⟨rfl,h4,h3⟩:=h2;exact ⟨_,by simp only[AV.ren,h1,Nat.beq_refl,cond_true,h4,if_true],h3⟩
  ·exact ⟨_,by simp only[AV.ren,h1],h2⟩
 | .agg cs,K,h=>by obtain ⟨l,h1,h2⟩:=kL cs h;exact ⟨_,by simp only[AV.ren,h1],h2⟩
 | .tup cs,K,h=>by obtain ⟨l,h1,h2⟩:=kL cs h;exact ⟨_,by simp only[AV.ren,h1],h2⟩
 | .fn f cs,K,h=>by obtain ⟨l,h1,h2⟩:=kL cs h;exact ⟨_,by simp only[AV.ren,h1],h2⟩
 | .sl s es,K,h=>⟨_,AV.ren_pure _ _ (by simpa only[AV.pure] using h.1),h.2⟩
 | .rp cs,K,h=>⟨_,AV.ren_pure _ _ (by simpa only[AV.pure] using h.1),h.2⟩
 | .ifc t v,K,h=>⟨_,AV.ren_pure _ _ (by simpa only[AV.pure] using h.1),h.2⟩
 | .any,K,h=>⟨_,rfl,h⟩
 | .int k n,K,h=>⟨_,rfl,h⟩
 | .bool b,K,h=>⟨_,rfl,h⟩
 | .str l,K,h=>⟨_,rfl,h⟩
 | .con v,K,h=>⟨_,rfl,h⟩
theorem kL {Fz:Fzs}: ∀(l:B7){K:B7->Prop},qf Fz l K-> ∃v,dT (φF Fz) l=v/\K v
 | [],K,h=>⟨_,rfl,h⟩
 |a::r,K,h=>by
  obtain ⟨v,h1,h2⟩:=ND a h;obtain ⟨l,h3,h4⟩:=kL r h2;exact ⟨_,by simp only[dT,h1,h3],h4⟩
end
def abk (Fz:Fzs):Blk->(Blk->Prop)->Prop
 | .cells cs,K=>qf Fz cs λl=>K (.cells l)
 | .vec s es,K=>ab es=true/\K (.vec s es)
 | .mp es,K=>K (.mp es)
theorem WT {Fz:Fzs}: ∀(b:Blk){K:Blk->Prop},abk Fz b K-> ∃v,b.ren (φF Fz)=v/\K v
 | .cells cs,K,h=>by obtain ⟨l,h1,h2⟩:=kL cs h;grind [Blk.ren]
 | .vec s es,K,h=>⟨_,by simp only[Blk.ren,dh _ es h.1],h.2⟩
 | .mp es,K,h=>⟨_,rfl,h⟩
def Bu (Fz:Fzs)(tm:Cf):Cc->(Cf->Prop)->Prop
 | [],K=>K []
 |t::r,K=>mW tm t λu=>WU Fz u λv=>Bu Fz tm r λl=>K ((t,v)::l)
def Jn (Fz:Fzs)(hp:az):Cc->(az->Prop)->Prop
 | [],K=>K []
 |k::r,K=>bif (Fz.map (·.1)).contains k then False else dU hp k λy=>match y with
  |some (g,b)=>abk Fz b λb'=>Jn Fz hp r λl=>K ((k,some (g,b'))::l)
  |none=>False
theorem vG {Fz:Fzs}{tm:Cf}: ∀(ts:Cc){K:Cf->Prop},Bu Fz tm ts K-> ∃L,LOk tm (φF Fz) L/\K L
 | [],K,h=>⟨[],trivial,h⟩
 |t::r,K,h=>by
  unfold Bu at h;rw[iK] at h;obtain ⟨v,h1,h2⟩:=ND _ h;obtain ⟨L,h3,h4⟩:=vG r h2;exact ⟨(t,v)::L,⟨iK.2 h1,h3⟩,h4⟩
theorem Bv {Fz:Fzs}{hp:az}: ∀(ks:Cc){K:az->Prop},Jn Fz hp ks K-> ∃L,KOk hp (Fz.map (·.1)) (φF Fz) L/\K L
 | [],K,h=>⟨[],trivial,h⟩
 |k::r,K,h=>by
  unfold Jn at h;cases hc:(Fz.map (·.1)).contains k with
  |true=>grind
  |false=>
   rw[hc,cond_false,bG] at h;cases hk:aY hp k with
   |none=>grind
   |some y=>
    obtain ⟨g,b⟩:=y;rw[hk] at h;obtain ⟨b',h1,h2⟩:=WT b h;obtain ⟨L,h3,h4⟩:=Bv r h2;refine ⟨(k,some (g,b'))::L,⟨?_,h3⟩,h4⟩
    grind [bG]
section
variable {G:Nat->Fun}{todo:C1}{tm:Cf}{hp:az}
theorem lx {ctr:Nat}{rs:CT}{m:Nat}{t:Ret}(Fz:Fzs)(ts ks:Cc)(hF:FzOk hp Fz)(h:Bu Fz tm ts λL=>Jn Fz hp ks λK=> ∀T H,Ev G ⟨todo,⟨L++T,K++H,ctr⟩,rs,m⟩ t)(hd:mU todo=true:=by rfl):Ev G ⟨todo,⟨tm,hp,ctr⟩,rs,m⟩ t:=by
 grind [vG,Bv,JV]
theorem Ni {hg:Nat->Cl}{args:B7}{g dst:Nat}{r:AV}(hr:r.pure=true):ck hg ⟨args,[],[],[]⟩ g dst ⟨r,[]⟩=some {res:=r}:=by
 unfold ck;cases hd:r.dry with
 |true=>simp
 |false=>simp[fc,jT,nV,bW,AV.ren_pure _ _ hr,d9,OU hr]
theorem zx {f:Nat}{args:B7}{g dst:Nat}{E:Prop}{k:Eff->Prop}{r:AV}(hG:ag G f args [] ⟨r,[]⟩)(h:k {res:=r})(hp':aM args=true:=by first|rfl|(simp[aM,ab,AV.pure];done)|fail)(hr:r.pure=true:=by first|rfl|(simp[aM,ab,AV.pure];done)|fail):CallG G hp f args g dst E k:=
 .mk _ _ _ (qU hp') hG (Ni hr) h
end
@[reducible] def Mv (d s:Nat):AOper:=⟨some d,.mv (.t s),none,[]⟩
section
variable (d:Nat)(b:BinOp)
@[reducible] def Mc (v:AV):AOper:=⟨some d,.mv (.c v),none,[]⟩
@[reducible] def Bi (x y:Nat):AOper:=⟨some d,.bin b (.t x) (.t y),none,[]⟩
@[reducible] def Bc (x:Nat)(n:Int):AOper:=⟨some d,.bin b (.t x) (.c (.int .i64 n)),none,[]⟩
@[reducible] def Ld (d s:Nat):AOper:=⟨some d,.load none (.t s),none,[]⟩
@[reducible] def Ls (d n s:Nat):AOper:=⟨some d,.load (some n) (.t s),none,[]⟩
@[reducible] def Fa (d o s:Nat):AOper:=⟨some d,.fadr o (.t s),none,[]⟩
@[reducible] def Ca (d f:Nat)(xs:Do):AOper:=⟨some d,.call (.c (.fn f [])) xs,none,[]⟩
@[reducible] def Ct (d f:Nat)(xs:Cc):AOper:=⟨some d,.call (.c (.fn f [])) (xs.map .t),none,[]⟩
@[reducible] def Po (d c x:Nat):AOper:=⟨some d,.pick (.t c) (.c (.bool true)) (.t x),none,[]⟩
@[reducible] def Pa (d c x:Nat):AOper:=⟨some d,.pick (.t c) (.t x) (.c (.bool false)),none,[]⟩
@[reducible] def Ln (d s x:Nat):AOper:=⟨some d,.len (Nat.beq s 1) (.t x),none,[]⟩
@[reducible] def Ia (d s x i:Nat):AOper:=⟨some d,.iadr s (.t x) (.t i),none,[]⟩
@[reducible] def St (n a x:Nat):AOper:=⟨none,.store n (.t a) (.t x),none,[]⟩
@[reducible] def Ex (d x i:Nat):AOper:=⟨some d,.ext (.t x) i,none,[]⟩
@[reducible] def Cv (k:IntKind)(x:Nat):AOper:=⟨some d,.conv k (.t x),none,[]⟩
@[reducible] def Un (u:UnOp)(x:Nat):AOper:=⟨some d,.un u (.t x),none,[]⟩
@[reducible] def Nc (d x:Nat):AOper:=⟨some d,.nilck (.t x),none,[]⟩
@[reducible] def Ap (d s b x y:Nat):AOper:=⟨some d,.app s b (.t x) (.t y),none,[]⟩
@[reducible] def Op (o:AOp):AOper:=⟨some d,o,none,[]⟩
end
@[reducible] def Gt (g:Nat)(o:AOper):AOper:=⟨o.dst,o.op,some (g,true),o.after⟩
@[reducible] def Gf (g:Nat)(o:AOper):AOper:=⟨o.dst,o.op,some (g,false),o.after⟩
@[reducible] def Af (l:Cc)(o:AOper):AOper:=⟨o.dst,o.op,o.guard,l⟩
open Go.RowKit
section
variable {P:Program} {N:Nums} {G:Nat->Fun}
theorem vm (hG:GOk P N G){C:Ctx}{ops:Array Oper}{aops:Cb}{c0:Nat}(hc0:0<c0)(hn:ew N C)(ht:C.tnum=N.tnum)(hl:aops.length<=ops.size)(L:Cc)(hrel: ∀i o ao,ops[i]? =some o->aops[i]? =some ao->OpRel P N C.n ops i o ao){A':AS}{Q:Exit->Act->World->Prop}(hQ: ∀a w,Rel C (fj c0 λj=>decide (j<aops.length)) A'.fs a w->wpOps P ops Q L a w):
  ∀(r:Cb)(i:Nat)(A:AS)(a:Act)(w:World),aops.drop i=r->A.ctr=c0->i+r.length=aops.length->RegSeq G (gu P N) r i A A'->Rel C (fj c0 λj=>decide (j<i)) A.fs a w->wpOps P ops Q (List.range' i r.length++L) a w
 | [],i,A,a,w,_,_,hi,hs,hR=>by
  obtain rfl:i=aops.length:=by grind
  exact hQ a w (hs.2 _ _ _ _ hR)
 |ao::r,i,A,a,w,hd,hc,hi,hs,hR=>by
  have hlt:i<ops.size:=by grind
  have ho:ops[i]? =some ops[i]:=by simp[hlt]
  generalize ops[i]=o at ho
  have ha:aops[i]? =some ao:=by
   have:(aops.drop i)[0]? =some ao:=by rw[hd];rfl
   grind
  have hrl:=hrel i o ao ho ha;have hd':aops.drop (i+1)=r:=by rw[<-List.drop_drop,hd];rfl
  have hU: ∀g,Or1 (fj c0 λj=>decide (j<i)) (c0+i) g->fj c0 (λj=>decide (j<i+1)) g:=by
   rintro g ((hg|⟨j,hj,rfl⟩)|rfl)
   ·exact .inl hg
   ·exact .inr ⟨j,by grind,rfl⟩
   ·exact .inr ⟨i,by simp,rfl⟩
  have hfr: ¬fj c0 (λj=>decide (j<i)) (c0+i):=by
   rintro (hg|⟨j,hj,hg⟩)
   all_goals grind
  rw[Ar,List.range'_succ,BD,wpOps_cons];unfold wpOp;simp only[ho];obtain ⟨A0,hA0,hs⟩:=hs;have hR:=hA0.2 _ _ _ _ hR;have hc0':A0.ctr=c0:=hA0.1.trans hc;rcases hs with ⟨h1,h2⟩|⟨A1,e,hA1,hw,⟨ih,hih,he⟩,h2⟩
  ·rw[dQ hR hrl (by rw[fa];exact h1)]
   simp only[AR,if_false];refine vm hG hc0 hn ht hl L hrel hQ r (i+1) (A0.put ao.dst iP) _ _ hd' (by grind [AS.put_ctr]) (by grind) h2 ?_
   rw[AS.fs_put,<-hrl.dst];exact (hR.put ao.dst (λd hd=>hrl.bd d (by rw[<-hrl.dst];exact hd))).wide λy hy=>hU y (.inl hy)
  ·rw[dQ hR hrl (by rw[fa];exact hw)]
   simp only[if_true];have hR1:Rel C (fj c0 λj=>decide (j<i)) A1.fs a w:=hA1.2 _ _ _ _ hR
   have hc1:A1.ctr=c0:=hA1.1.trans hc0';rw[hc] at he;have hdo:=nf hG hrl rfl rfl hn ht (by omega) hih he A1.fs (λ_ _=>rfl) (λ_ _=>.inl rfl)
   refine .inl (hdo _ a w _ Q hfr hR1 λa' w' hR'=>?_)
   refine vm hG hc0 hn ht hl L hrel hQ r (i+1) (A1.app ao.dst e) _ _ hd' (by grind [AS.app_ctr]) (by grind) h2 ?_
   rw[AS.fs_app];exact hR'.wide hU
structure AGuard where
 n:Nat
 np:Nat
 pre1:Cb
 pre2:Cb
 dop:Opd
 rest:ACode
 results:CT
 deriving Inhabited
def uI (N:Nums)(o:Oper):D2:=match o.op with
 | .defer {callee:=.value f,args,.. }=>if args.size=0/\o.dst=none/\o.guard.isNone=true then aQ N f else none
 |_=>none
def me (P:Program)(N:Nums)(fn:Func):Option AGuard:=match fn.body with
 |some (.seq (.region _ ops1 false) (.seq (.region _ ops2 false) rest))=>
  match fp P N fn.ntmps ops1 0 ops1.toList,fp P N fn.ntmps ops2 0 (ops2.toList.dropLast),(ops2.back?).bind (uI N),ce P N fn.ntmps rest,dX (jq P) fn.results.toList with
  |some p1,some p2,some d,some r,some rs=>if fn.params.size+fn.nfree<=fn.ntmps/\fn.ntmps<=D0/\fn.name≠ "runtime.NumGoroutine" then some {n:=fn.ntmps,np:=fn.params.size+fn.nfree,pre1:=p1,pre2:=p2,dop:=d,rest:=r,results:=rs} else none
  |_,_,_,_,_=>none
 |_=>none
def nA (G:Nat->Fun):Cb->Nat->AS->Option AS
 | [],_,A=>some A
 |o::r,i,A=>match bL A.tm o.guard with
  |some true=>match ik G (λ_=>none) o (A.ctr+i) A with
   |some e=>nA G r (i+1) (A.app o.dst e)
   |none=>none
  |some false=>nA G r (i+1) (A.put o.dst iP)
  |none=>none
theorem oh {Q:(Cfg->C3)->Prop}(hQ:Q λ_=>none): ∀{r:Cb}{i:Nat}{A A':AS},nA G r i A=some A'->RegSeq G Q r i A A'
 | [],_,A,A',h=>by obtain rfl:=Ad h;exact Wk0.refl A
 |o::r,i,A,A',h=>by
  simp only[nA] at h;split at h
  ·rename_i hw
   split at h
   ·rename_i e he
    exact ⟨A,Wk0.refl A,.inr ⟨A,e,Wk0.refl A,hw,⟨_,hQ,he⟩,oh hQ h⟩⟩
   ·cases h
  ·rename_i hw
   exact ⟨A,Wk0.refl A,.inl ⟨hw,oh hQ h⟩⟩
  ·cases h
def AGuard.pre (g:AGuard)(G:Nat->Fun)(args:B7)(bs:C5):Option AS:=
 (nA G g.pre1 0 ⟨tms 0 args,jM 0 bs,1⟩).bind λA1=>(nA G g.pre2 0 {A1 with ctr:=1+g.pre1.length}).map λA2=> {A2 with tm:=(D0,evo A2.tm g.dop)::A2.tm,ctr:=1+g.pre1.length+(g.pre2.length+1)}
def AGuard.cfg (g:AGuard)(sp:AV->Option B6)(A:AS)(m:Nat):Cfg:=⟨[.code g.rest],A,.dfd sp::g.results,m⟩
theorem ol: ∀{r:Cb}{i:Nat}{A A':AS},nA G r i A=some A'->A'.ctr=A.ctr
 | [],_,A,A',h=>by obtain rfl:=Ad h;rfl
 |o::r,i,A,A',h=>by
  simp only[nA] at h;split at h
  ·split at h
   ·have:=ol h;grind [AS.app_ctr]
   ·cases h
  ·have:=ol h;grind [AS.put_ctr]
  ·cases h
theorem yT (hG:GOk P N G)(hm:P.follows .mixedOrders=true){f kf:Nat}{fn:Func}{g:AGuard}{sp:AV->Option B6}(hfn:P.funcs[N.num f]? =some fn)(hc:me P N fn=some g)(hkf:isB kf=false){caps:B7}(hD: ∀(C:Ctx) (cs:Array Value),cs.size=caps.length->C.num=N.num->C.tnum=N.tnum->C.dfr= [{target:=.fn (.func (N.num kf)) cs,args:= #[]}]->C.dval= .func (.func (N.num kf)) #[] cs->DSem P C fn sp){args:B7}{bs:C5}{t:Ret}(hl:args.length=g.np){A:AS}(hp:g.pre G args bs=some A)(hd:bI A.tm D0= .fn kf caps)(hr:Ev G (g.cfg sp A bs.length) t):fq P N f args bs t:=by
 intro C vs hent cs;unfold me at hc;split at hc
 case h_2=>cases hc
 rename_i id1 ops1 id2 ops2 rest hbody;split at hc
 case h_2=>cases hc
 rename_i p1 p2 dop r rs e1 e2 e3 e4 e5;split at hc
 case isFalse=>cases hc
 rename_i hq;obtain rfl:=Ad hc;obtain ⟨hq1,hq2,hq3⟩:=hq;dsimp only at hl;unfold AGuard.pre at hp;obtain ⟨A1,r1,hp⟩:=Option.bind_eq_some_iff.1 hp;obtain ⟨A2,r2,rfl⟩:=map_some hp;dsimp only at r1 r2 hd;have hQ:gu P N λ_=>none:=λc t h=>by cases h
 have s1:=oh (Q:=gu P N) hQ r1;have s2:=oh (Q:=gu P N) hQ r2;have c1:=ol r1;have c2:=ol r2;dsimp only at c1 c2
 let C':Ctx:= {C with n:=fn.ntmps,dfr:=[],dval:=undef}
 let b:Frame:= { (default:Frame) with fn:=N.num f,kind:=.normal}
 let a:Act:= {tmps:=vs++Array.replicate (fn.ntmps-vs.size) undef,defers:=[]}
 have henter:Frame.enter P (N.num f) vs .normal=b.at a [.code (.seq (.region id1 ops1 false) (.seq (.region id2 ops2 false) rest))]:=by
  grind [Frame.enter,Frame.at]
 have hrel:Rel C' (λg=>g<1) (AS.mk (tms 0 args) (jM 0 bs) 1).fs a C.W0:=CM hent ⟨by omega,hq2⟩
 obtain ⟨l1,l2⟩:=gm e1;obtain ⟨m1,m2⟩:=gm e2;have hp1:p1.length=ops1.size:=by rw[l1];simp
 have hn:ew N C':=hent.num
 -- the first region
 have w1:(Code.region id1 ops1 false).wp P (λe a' w'=>e= .normal/\Rel C' (fj 1 λj=>decide (j<p1.length)) A1.fs a' w') a C.W0:=by
  refine wp_region ?_;rw[List.range_eq_range',show List.range' 0 ops1.size=List.range' 0 p1.length++[] from by grind]
  refine vm hG Nat.zero_lt_one hn hent.tnum (Nat.le_of_eq hp1) [] (λi o ao ho ha=>?_) (λa' w' hR'=>by refine ⟨rfl,hR'⟩) p1 0 _ a C.W0 rfl rfl (A3 _) s1 (hrel.wide λx hx=>.inl hx)
  grind
 obtain ⟨x1,a1,W1,⟨rfl,hR1⟩,harr1⟩:=w1 b [.code (.seq (.region id2 ops2 false) rest)] cs
 -- the second one
 have hlast: ∃o,ops2.back?=some o/\uI N o=some dop:=Option.bind_eq_some_iff.1 e3
 obtain ⟨o,ho1,ho2⟩:=hlast
 have hsz:ops2.size≠0:=λq=>by
  grind
 have hp2:p2.length+1=ops2.size:=by
  grind
 have hoat:ops2[p2.length]? =some o:=by
  grind
 obtain ⟨y,tys,hoop,hoc,hodst,hog⟩: ∃y tys,o.op= .defer {callee:=.value y,args:= #[],argTypes:=tys}/\aQ N y=some dop/\o.dst=none/\o.guard=none:=by
  unfold uI at ho2;split at ho2
  ·rename_i y as tys hop
   split at ho2
   ·rename_i hz
    obtain ⟨z1,z2,z3⟩:=hz;have:as= #[]:=Array.eq_empty_of_size_eq_zero z1;subst this;exact ⟨y,tys,hop,ho2,z2,by simpa using z3⟩
   ·cases ho2
  ·cases ho2
 have w2:(Code.region id2 ops2 false).wp P (λe a' w'=>e= .normal/\ ∃a2 U S β used cv,a'= {a2 with defers:=[{target:=.fn (.func (N.num kf)) cv,args:= #[]}]}/\cv.size=caps.length/\a2.defers= []/\RelC C' U A2.fs a2 w' S β used/\(∀x,U x->x<1+p1.length+(p2.length+1))/\V (aP C' S β used A2.fs.hp w') (.func (.func (N.num kf)) #[] cv) (evo A2.tm dop)) a1 W1:=by
  refine wp_region ?_;rw[List.range_eq_range',show List.range' 0 ops2.size=List.range' 0 p2.length++[p2.length] from by grind [List.range'_concat]]
  refine vm (c0:=1+p1.length) hG (by omega) hn hent.tnum (by omega) [p2.length] (λi o ao ho ha=>?_) (λa' w' hR'=>?_) p2 0 _ a1 W1 rfl rfl (A3 _) s2 (hR1.wide λx hx=>.inl ?_)
  ·have hi:i<p2.length:=by
    grind
   have ho':ops2.toList.dropLast[i]? =some o:=by
    rw[List.getElem?_dropLast]
    grind
   grind
  ·rw[wpOps_cons]
   unfold wpOp;simp only[hoat];have hwant:Region.wanted o (yielded ops2 a'.tmps)=true:=by grind [Region.wanted]
   rw[hwant];simp only[if_true];refine .inl ?_;obtain ⟨S,β,used,hRC⟩:=hR';have hv:=uV hRC hn y dop hoc;rw[zh] at hv;have hdk:evo A2.tm dop= .fn kf caps:=by rw[<-hd];rfl
   have hv2:=hv;rw[hdk] at hv2;obtain ⟨cv,v1,v2,v3⟩:=hv2.fn_inv;have hfid:bV kf=kf:=by grind [bV]
   have hnum:(aP C' S β used A2.fs.hp w').num (bV kf)=N.num kf:=by rw[hfid];show C.num kf=_;rw[hent.num.1]
   rw[hnum,show fnF kf cv= #[] from by grind [fnF],show fnC kf cv=cv from by grind [fnC]] at v1
   have hrun:(execOp a'.eval o).run P w'= .ok (.defer {target:=.fn (.func (N.num kf)) cv,args:= #[]}) w':=by
    simp[execOp,hoop,resolve,v1,Deferred.ofValue]
   unfold Oper.wp;rw[hrun];rw[Oper.upon_defer,hodst];have hdf:a'.defers= []:=hRC.defers;refine ⟨rfl,a',_,S,β,used,cv,?_,v2,hdf,hRC,?_,by grind⟩
   ·show ({a' with defers:=_::a'.defers}:Act)=_
    rw[hdf]
   ·rintro x (hx|⟨j,hj,rfl⟩)
    all_goals grind
  ·rcases hx with hx|⟨j,hj,rfl⟩
   all_goals grind
 obtain ⟨x2,a2',W2,⟨rfl,a2,U,S,β,used,cv,rfl,hcs,hdf,hR2,hU,hcv⟩,harr2⟩:=w2 b [.code rest] cs
 -- the rest
 let C2:Ctx:= {C with n:=fn.ntmps,dfr:=[{target:=.fn (.func (N.num kf)) cv,args:= #[]}],dval:=.func (.func (N.num kf)) #[] cv}
 have hi:=hR2.hi
 have hR3:Rel C2 (λg=>g<1+p1.length+(p2.length+1)) (AS.mk ((D0,evo A2.tm dop)::A2.tm) A2.hp (1+p1.length+(p2.length+1))).fs {a2 with defers:=[{target:=.fn (.func (N.num kf)) cv,args:= #[]}]} W2:=by
  refine ⟨S,β,used,⟨hi.kept,hi.s,hi.s0,hi.keep,λk g u=>hU _ (hi.us k g u),hi.at_,hi.inj,hi.pl⟩,hR2.size,rfl,λt=>?_⟩
  show V (aP C' S β used A2.fs.hp W2) (if t=D0 then .func (.func (N.num kf)) #[] cv else a2.tmps.getD t undef) (if D0=t then evo A2.tm dop else bI A2.tm t)
  by_cases e:t=D0
  ·grind
  ·rw[Aa e,Aa (Ne.symm e)]
   have:=hR2.tm t;unfold tmv at this;rw[Aa e] at this;exact this
 have hsem:=cX (Vl hG hm hr);have hds:=hD C2 cv hcs hent.num.1 hent.tnum rfl rfl;obtain ⟨v,w',fr,S1,β1,hret,hst,hfr,hlv⟩:=hsem C2 [.code rest] _ W2 b cs fn ⟨e4,trivial⟩ hent.num hent.tnum (by grind [AGuard.cfg]) hR3 hfn ⟨e5,hds⟩ rfl
 refine ⟨iA t.r v,w',fr,⟨v,rfl,S1,β1,⟨hret.kept,hret.s,hret.keep,hret.val,hret.at_,hret.inj,hret.pl,hret.len⟩⟩,?_,hfr,hlv⟩;refine wx ?_;rw[henter];exact .head step_seq (Steps.trans harr1 (.head step_seq (Steps.trans harr2 hst)))
end
def QH (Fz:Fzs)(hp:az):Cc->(az->Prop)->Prop
 | [],K=>K []
 |k::r,K=>bif (Fz.map (·.1)).contains k then False else dU hp k λy=>match y with
  |some (g,b)=>b.pure=true/\QH Fz hp r λl=>K ((k,some (g,b))::l)
  |none=>False
theorem Oe {Fz:Fzs}{hp:az}: ∀(ks:Cc){K:az->Prop},QH Fz hp ks K-> ∃L,KOk hp (Fz.map (·.1)) (φF Fz) L/\K L
 | [],K,h=>⟨[],trivial,h⟩
 |k::r,K,h=>by
  unfold QH at h;cases hc:(Fz.map (·.1)).contains k with
  |true=>grind
  |false=>
   rw[hc,cond_false,bG] at h;cases hk:aY hp k with
   |none=>grind
   |some y=>
    obtain ⟨g,b⟩:=y;rw[hk] at h;obtain ⟨hb,h⟩:=h;obtain ⟨L,h3,h4⟩:=Oe r h;refine ⟨(k,some (g,b))::L,⟨?_,h3⟩,h4⟩
    grind [bG,Blk.ren_pure]
theorem OG {hp:az}{D:Cc}{φ:Nat->Nat->Tgt}: ∀{A B:az},KOk hp D φ A->KOk hp D φ B->KOk hp D φ (A++B)
 | [],_,_,h=>h
 |(_,_)::_,_,⟨h1,h2⟩,h=>⟨h1,OG h2 h⟩
theorem BW {G:Nat->Fun}{todo:C1}{tm:Cf}{hp:az}{ctr:Nat}{rs:CT}{m:Nat}{t:Ret}(Fz:Fzs)(ts ks ps:Cc)(hF:FzOk hp Fz)(h:Bu Fz tm ts λL=>Jn Fz hp ks λK=>QH Fz hp ps λP=> ∀T H,Ev G ⟨todo,⟨L++T,K++(P++H),ctr⟩,rs,m⟩ t)(hd:mU todo=true:=by rfl):Ev G ⟨todo,⟨tm,hp,ctr⟩,rs,m⟩ t:=by
 obtain ⟨L,h1,h2⟩:=vG ts h;obtain ⟨K,h3,h4⟩:=Bv ks h2;obtain ⟨P,h5,h6⟩:=Oe ps h4;exact JV Fz L (K++P) hF h1 (OG h3 h5) (λT H=>by grind) hd
section
variable {k:Eff->Prop} {b:UInt8} {x:Opd} {g key:Nat} {hg:Nat->Cl}
end
@[irreducible] def Stuck (p:Prop):Prop:=p
theorem Stuck.out {p:Prop}(h:Stuck p):p:=by grind [Stuck]
theorem Stuck.in {p:Prop}(h:p):Stuck p:=by grind [Stuck]
@[irreducible] def wr (n:Int):Int:=IntKind.wrap .i64 n
section
variable {k:AV->Prop} {a b:Int}
end
structure Hold (q:Prop):Prop where
 get:q
structure Stp (a:DS)(v:AV):Prop where
 get:a=some v
section
variable {kv:AV->Prop} {k:Eff->Prop} {x y:Opd} {g key:Nat} {hg:Nat->Cl} {a b:B5}
theorem xs {o:DS}{v:AV}(h:Stp o v)(h2:kv v): ∃v,o=some v/\kv v:=⟨v,h.get,h2⟩
theorem sEqT (h:kv (.bool true)): ∃v,bm .eql (.str a) (.str a)=some v/\kv v:=⟨.bool true,by show some (AV.bool (a==a))=_;simp,h⟩
theorem WC (h:kv (.bool false)): ∃v,bm .neq (.str a) (.str a)=some v/\kv v:=⟨.bool false,by show some (AV.bool (a !=a))=_;simp,h⟩
theorem O6 (n:a≠b)(h:kv (.bool true)): ∃v,bm .neq (.str a) (.str b)=some v/\kv v:=⟨.bool true,by show some (AV.bool (a !=b))=_;simp[n],h⟩
theorem O8 (n:a≠b)(h:kv (.bool false)): ∃v,bm .eql (.str a) (.str b)=some v/\kv v:=⟨.bool false,by show some (AV.bool (a==b))=_;simp[n],h⟩
theorem O7 (n:a=b)(h:kv (.bool true)): ∃v,bm .eql (.str a) (.str b)=some v/\kv v:=⟨.bool true,by show some (AV.bool (a==b))=_;simp[n],h⟩
theorem iG (h:kv (.str (a++b)))(hl:a.length+b.length<2^62:=by first|omega|(simp;omega)): ∃v,bm .add (.str a) (.str b)=some v/\kv v:=⟨_,Ac hl,h⟩
theorem rM {q:IntKind}{j:Int}{s:B5}{c:UInt8}(hb:s[j.toNat]? =some c)(h:k {res:=.int .u8 (c.toNat:Int)})(hj:0<=j:=by omega): ∃e,aX (.istr x y) g key [.str s,.int q j] hg=some e/\k e:=by
 have hl:j.toNat<s.length:=by
  rcases AO j.toNat s.length with h|h
  ·exact h
  ·rw[AA h] at hb;cases hb
 refine ⟨_,?_,h⟩;show (if 0<=j/\j.toNat<s.length then some {res:=AV.int .u8 (s.getD j.toNat 0).toNat} else none:C6)=_
 rw[Ac ⟨hj,hl⟩,Ai,hb];rfl
theorem abf {c:Bool}(h:k {res:=.bool true}): ∃e,aX (.eqb false x y) g key [.bool c,.bool c] hg=some e/\k e:=⟨_,by simp[aX],h⟩
theorem Tv {c:Bool}(h:k {res:=.bool false}): ∃e,aX (.eqb true x y) g key [.bool c,.bool c] hg=some e/\k e:=⟨_,by simp[aX],h⟩
theorem Tw {q:IntKind}{n:Int}(h:kv (.bool true)): ∃v,bm .eql (.int q n) (.int q n)=some v/\kv v:=⟨_,by simp[bm],h⟩
end
section
variable {after:Cc}{e:Eff}
theorem okK {dn:Df}{p:Prop}(h:OkS after e dn)(h2:p):OkS after e dn/\p:=⟨h,h2⟩
theorem okS0:OkS after e []:=trivial
theorem okS1 {j:Nat}{x:Cc×Cc×Dd}{r:Df}(h:after.contains j=true)(h2:OkS after e r):OkS after e ((j,x)::r):=⟨.inl h,h2⟩
theorem okS2 {x:DnE}{r:Df}(h:kj after e [x]=true)(h2:OkS after e r):OkS after e (x::r):=⟨(OkS.of h).1,h2⟩
theorem okS3 {j k g o:Nat}{l cs:B7}{r:Df}(h: ∀f,hov e.wr f k=some (g,.cells cs))(ht:(cs.drop o).take l.length=l)(h2:OkS after e r):OkS after e ((j,[k],[],[(k,g,o,l)])::r):=by
 refine ⟨.inr ⟨rfl,rfl,λq _ hq f=>?_⟩,h2⟩
 obtain rfl:q=k:=by simpa using hq
 exact ⟨g,o,l,.head _,cs,h f,ht⟩
end
section
variable {p q:Prop}(h:q)
include h
theorem aq (k:Hold q->p:=by
 intro K
 first|refine bslP (by first|rfl|(simp[aM,ab,AV.pure];done)|fail) rfl ?_|refine TakeC.full (by first|rfl|omega|(simp;done)|(simp;omega)|fail) ?_|refine zBs ?_|refine zBn ?_|refine zBv rfl rfl ?_|refine zN ?_|refine zC ?_|refine zC4 ?_|refine agx ?_|refine zC1 ?_|refine agD ?_|refine agB ?_|refine agA ?_|refine agz ?_|refine agy ?_|refine zShr ?_|refine zC8 ?_|refine zQ ?_|refine zR ?_|refine zS ?_|refine zA ?_|refine zM ?_|refine xr rfl ?_|refine ai rfl ?_|refine abA ?_|refine abC ?_|refine af9 ?_|refine aga ?_|refine cD ?_|refine dD ?_|refine cB ?_|refine dB ?_|refine cN ?_|refine dN ?_|refine cV ?_|refine dV ?_|refine cE ?_|refine dE ?_|refine af5 ?_|refine af4 ?_|refine Ow ?_|refine adB ?_|refine af6 ?_|refine aO ?_|refine aB ?_|refine aR ?_|refine aR ?_ (by simp;omega)|refine xr (by assumption) ?_|refine ai (by assumption) ?_|refine kV (by assumption) ?_|refine kN (by assumption) ?_|refine zx (by assumption) ?_|refine okK (by repeat' (first|exact okS0|refine okS1 rfl ?_|refine okS3 (λ_=>rfl) rfl ?_|refine okS2 rfl ?_|fail)) ?_
 exact K.get):p:=k ⟨h⟩
theorem aW (k:Hold q->p:=by
 intro K
 (conv=>whnf)
 refine aq ?_
 repeat ((conv=>whnf);refine aq ?_)
 exact K.get):p:=k ⟨h⟩
theorem bp (k:Hold q->p:=by
 intro K
 (conv=>whnf)
 first|refine xs (by assumption) ?_|refine sEqT ?_|refine WC ?_|refine O6 (by assumption) ?_|refine O8 (by assumption) ?_|refine O7 (by assumption) ?_|refine iG ?_|refine rM (by assumption) ?_|refine abf ?_|refine Tv ?_|refine Tw ?_|refine aq ?_
 repeat ((conv=>whnf);first|refine xs (by assumption) ?_|refine sEqT ?_|refine WC ?_|refine O6 (by assumption) ?_|refine O8 (by assumption) ?_|refine O7 (by assumption) ?_|refine iG ?_|refine rM (by assumption) ?_|refine abf ?_|refine Tv ?_|refine Tw ?_|refine aq ?_)
 exact K.get):p:=k ⟨h⟩
end
class Spl (b:Bool) (c d:outParam Prop):Prop where
 t:b=true->c
 f:b=false->d
instance (priority:=low) splV (b:Bool):Spl b (b=true) (b=false):=⟨id,id⟩
instance splE {α:Type}[BEq α][LawfulBEq α](a b:α):Spl (a==b) (a=b) (¬a=b):=⟨λh=>by simpa using h,λh=>by simpa using h⟩
instance splN (a b:Int):Spl (a !=b) (¬a=b) (a=b):=⟨λh=>by simpa using h,λh=>by simpa using h⟩
instance splD (c:Prop)[Decidable c]:Spl (decide c) c (¬c):=⟨λh=>by simpa using h,λh=>by simpa using h⟩
theorem ae {b:Bool}{c d p q:Prop}[s:Spl b c d](h1:c->p)(h2:d->q):condC b p q:=⟨λh=>h1 (s.t h),λh=>h2 (s.f h)⟩
section
variable {G:Nat->Fun} {tm:Cf} {hp:az} {rs:CT} {ctr m:Nat} {k:C1} {t:Ret} {a b:Prop}
theorem YU (e:b)(h:jC tm hp (fQ rs) (je λx=>x.pure=true/\Ret.mk x []=t)=(a/\b):=by exact rfl)(ha:a:=by first|rfl|(simp[AV.pure,aM];done)|fail):Ev G ⟨.code .ret::k,⟨tm,hp,ctr⟩,rs,0⟩ t:=Vk (h.mpr ⟨ha,e⟩)
theorem fin0 (e:b)(h:jC tm hp (fQ rs) (je λx=>x.pure=true/\Ret.mk x []=t)=(a/\b):=by exact rfl)(ha:a:=by first|rfl|(simp[AV.pure,aM];done)|fail):Ev G ⟨[],⟨tm,hp,ctr⟩,rs,0⟩ t:=Oo (h.mpr ⟨ha,e⟩)
section
variable {b1 b2 b3:Prop}(Ez Nz:Fzs)(fl:Dg)
theorem ahh (e:b3)(hm:0<m:=by exact Nat.succ_pos _)(hA:AtOk hp (Ez++Nz):=by repeat' (first|exact trivial|refine ⟨rfl,?_⟩))(hE:Ez.map (·.1)=List.range m:=by rfl)(hbok:mg (Ez++Nz) [] (Ez++Nz):=by repeat' (first|exact trivial|rfl|refine And.intro ?_ ?_|(simp[aM,ab,AV.pure,Blk.renS,Blk.okS,Blk.okX,AV.okS,AV.okX];done)|omega|fail))(hfl:xT Ez fl:=by repeat' (first|exact trivial|refine ⟨(by first|rfl|exact (Al (by omega)).symm),?_⟩))(h:jC tm hp (fQ rs) (je λa=>Bj hp m a=Nz.map (·.1)/\a.okX (Ez++Nz) []/\Ret.mk (a.renX (Ez++Nz) []) (flB (Ez++Nz) (Ez++Nz) fl)=t)=(b1/\b2/\b3):=by exact rfl)(h1:b1:=by rfl)(h2:b2:=by repeat' (first|exact trivial|rfl|refine And.intro ?_ ?_|(simp[aM,ab,AV.pure,Blk.renS,Blk.okS,Blk.okX,AV.okS,AV.okX];done)|omega|fail)):Ev G ⟨.code .ret::k,⟨tm,hp,ctr⟩,rs,m⟩ t:=adq Ez Nz fl hm hA hE hbok hfl (h.mpr ⟨h1,h2,e⟩)
theorem ahj (e:b3)(hm:0<m:=by exact Nat.succ_pos _)(hA:AtOk hp (Ez++Nz):=by repeat' (first|exact trivial|refine ⟨rfl,?_⟩))(hE:Ez.map (·.1)=List.range m:=by rfl)(hbok:mg (Ez++Nz) [] (Ez++Nz):=by repeat' (first|exact trivial|rfl|refine And.intro ?_ ?_|(simp[aM,ab,AV.pure,Blk.renS,Blk.okS,Blk.okX,AV.okS,AV.okX];done)|omega|fail))(hfl:xT Ez fl:=by repeat' (first|exact trivial|refine ⟨(by first|rfl|exact (Al (by omega)).symm),?_⟩))(h:jC tm hp (fQ rs) (je λa=>Bj hp m a=Nz.map (·.1)/\a.okX (Ez++Nz) []/\Ret.mk (a.renX (Ez++Nz) []) (flB (Ez++Nz) (Ez++Nz) fl)=t)=(b1/\b2/\b3):=by exact rfl)(h1:b1:=by rfl)(h2:b2:=by repeat' (first|exact trivial|rfl|refine And.intro ?_ ?_|(simp[aM,ab,AV.pure,Blk.renS,Blk.okS,Blk.okX,AV.okS,AV.okX];done)|omega|fail)):Ev G ⟨[],⟨tm,hp,ctr⟩,rs,m⟩ t:=aaH Ez Nz fl hm hA hE hbok hfl (h.mpr ⟨h1,h2,e⟩)
end
end
theorem finC {a b:Prop}(e:b)(ha:a:=by first|rfl|(simp[AV.pure,aM,ab, *];done)|fail):a/\b:=⟨ha,e⟩
theorem cx {a b:Prop}(e:b)(ha:a:=by repeat' (first|exact trivial|rfl|refine And.intro ?_ ?_|(simp[aM,ab,AV.pure,Blk.renS,Blk.okS,Blk.okX,AV.okS,AV.okX];done)|omega|fail)):a/\b:=⟨ha,e⟩
section
variable {G:Nat->Fun} {rs:CT} {m:Nat} {t:Ret} {tm:Cf} {hp:az} {ctr:Nat}
theorem evl {b:ACode}{k:C1}(h:W G rs m t 0 300 (.code b:: .inLoop b::k) tm hp ctr):Ev G ⟨.inLoop b::k,⟨tm,hp,ctr⟩,rs,m⟩ t:=iM (W_ok 300 _ _ _ _ h)
theorem wk3 {todo:C1}(h:W G rs m t 0 300 todo tm hp ctr):Ev G ⟨todo,⟨tm,hp,ctr⟩,rs,m⟩ t:=W_ok 300 _ _ _ _ h
end
theorem ap {p q:Prop}(h:q)(k:Hold q->p:=by
 intro K
 first|refine YU ?_|refine fin0 ?_
 exact K.get):p:=k ⟨h⟩
section
variable {p:Prop}
theorem dnA (h:p:=by
 (first|refine YU ?_|refine fin0 ?_);first|rfl|(simp[Bool.cond_eq_ite, *];done)|(simp[Bool.cond_eq_ite, *];omega)):p:=h
theorem leA (h:p:=by repeat' (first|exact trivial|exact LeP.refl _|exact LeP.nil _|exact LeP.nilV _ _ _|refine LeP.sl ?_|refine ⟨?_,?_⟩)):p:=h
theorem frA {a b:Prop}(h:b)(k:a:=by first|rfl|omega|(simp[aM,ab,AV.pure];done)|(simp;omega)|(simp[aM,ab,AV.pure, *];done)|assumption|fail):a/\b:=⟨k,h⟩
theorem frP (h:p:=by first|rfl|(simp[Blk.pure,aM,ab,AV.pure, *];done)|fail):p:=h
theorem puL (h:p:=by first|rfl|(simp[Blk.pure,ab,aM,AV.pure];done)|fail):p:=h
end
section
variable {G:Nat->Fun}{f:Nat}{F:AFunc}{args:B7}{bs:C5}{t:Ret}
theorem gvA (hf:G f= .code F:=by rfl)(hl:args.length=F.np:=by rfl)(h:Ev G ⟨[.code F.body],⟨tms 0 args,jM 0 bs,1⟩,F.results,bs.length⟩ t:=by
 refine wk3 ?_
 repeat' (first|refine aW ?_|apply ae<;>intro h)
 all_goals (refine ap ?_;rfl)):ag G f args bs t:=lZ hf hl h
theorem fX1 {p q:Prop}(h:q)(k:Hold q->p:=by
 intro K
 (conv=>whnf)
 first|refine ahh [(0,_,_)] [] [true] ?_|refine ahj [(0,_,_)] [] [true] ?_
 exact K.get):p:=k ⟨h⟩
theorem evA {p q:Prop}(h:q)(k:Hold q->p:=by
 intro K;refine evl ?_
 repeat refine aW ?_
 exact K.get):p:=k ⟨h⟩
theorem gvB {q:Prop}(h:q)(hf:G f= .code F:=by rfl)(hl:args.length=F.np:=by rfl)(k:Hold q->Ev G ⟨[.code F.body],⟨tms 0 args,jM 0 bs,1⟩,F.results,bs.length⟩ t:=by
 intro K;refine wk3 ?_
 repeat refine aW ?_
 exact K.get):ag G f args bs t:=lZ hf hl (k ⟨h⟩)
theorem ml {α β:Type _}(l:List α)(f:α->β):(l.map f).length=l.length:=by simp
theorem md {α:Type _}{l d r:List α}{x:α}(e:l=d++x::r):l.length=d.length+(r.length+1):=by simp[e]
theorem md0 {α:Type _}{l d:List α}(e:l=d++[]):l.length=d.length:=by simp[e]
theorem mx {α β:Type _}{l d r:List α}{x:α}{n:Int}(f:α->β)(e:l=d++x::r)(hn:n=d.length):(l.map f)[n.toNat]? =some (f x):=by simp[e,hn]
abbrev TV:=Cf
theorem gvC (h:W G F.results bs.length t 0 300 [.code F.body] (tms 0 args) (jM 0 bs) 1)(hf:G f= .code F:=by rfl)(hl:args.length=F.np:=by rfl):ag G f args bs t:=lZ hf hl (wk3 h)
end
open Go.RowKit
section
variable {P:Program} {C:Ctx} {fn:Func} {f:Nat} {cs:Array Value} {sp:AV->Option B6}
theorem Ot (h1:C.dfr= [{target:=.fn (.func f) cs,args:= #[]}])(h2:C.dval= .func (.func f) #[] cs)(hinv: ∀w,(invoke (.fn (.func f) cs) #[]).run P w= .ok (.enter f cs) w)(hidle: ∀w,CallsD P f cs .returning w λe u' w'=>e= .returned (.tuple #[])/\u'= .returning/\ ∃os,w'=more w os)(hpan: ∀(E:Env) (v:Value) (a:AV) (css:B6),E.tnum=C.tnum->V E v a->sp a=some css-> ∃wss,Vss E wss css/\ ∀(w:World) (ps:List Addr),cs=(ps.map λp=>Value.pointer (some p)).toArray->Lx w ps wss->
   CallsD P f cs (.panicking [{v:=v,recovered:=false}]) w λe u' w'=>e= .returned (.tuple #[])/\u'= .panicking [{v:=v,recovered:=true}]/\ ∃os,w'=more (wO w ps wss) os):DSem P C fn sp:=by
 refine ⟨λtmps w R hR=>?_,λE v a css e1 e2 hv hs=>?_⟩
 ·rw[h1]
  refine leaves_cons (by simp) (hinv w) ((hidle w).mono ?_)
  rintro e u' w' ⟨rfl,rfl,os,rfl⟩
  simpa[Leaves,settle] using hR os
 ·obtain ⟨wss,k1,k2⟩:=hpan E v a css e2 hv hs
  refine ⟨wss,k1,λtmps w R fv ps hd hw hR=>?_⟩
  rw[h1];have hc:cs=(ps.map λp=>Value.pointer (some p)).toArray:=by grind
  refine leaves_cons (by simp) (hinv w) ((k2 w ps hc hw).mono ?_)
  rintro e u' w' ⟨rfl,rfl,os,rfl⟩
  simpa[Leaves,settle] using hR os
end
end Go.AM
