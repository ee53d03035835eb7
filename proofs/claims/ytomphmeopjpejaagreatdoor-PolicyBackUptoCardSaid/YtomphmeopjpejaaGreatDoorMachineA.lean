/- An abstract machine: its functions give what the calls of the program give. -/
import Derived.Calls
import Derived.Orders
import Derived.Below
import Derived.Deep.AppendSrc
import Derived.Deep.Upon
import Derived.KernelRfl
import Derived.Laws.StructEq
import Derived.Laws.MakeOwn
import Derived.Laws.BytesArg
import Derived.Laws.Cover3
import Derived.Laws.Tables
import Derived.Laws.Strings
import Derived.Laws.IdiomStrings
import Derived.Deep.MidRow
set_option linter.unusedSectionVars false
set_option linter.unusedVariables false
set_option linter.unusedSimpArgs false
abbrev Ac:= @if_neg
abbrev Ad:= @if_pos
abbrev Ai:= @Option.some.inj
abbrev Aj:= @List.getD_eq_getElem?_getD
abbrev Ak:= @Array.getD_eq_getD_getElem?
abbrev Al:= @decide_eq_true
abbrev An:= @decide_eq_false
abbrev Ao:= @List.map_cons
abbrev Ar:= @List.length_append
abbrev As:= @List.length_cons
abbrev At:= @List.length_map
abbrev Av:= @Bool.and_eq_true
abbrev AC:= @List.getElem?_eq_some_iff
abbrev AD:= @List.getElem?_eq_none
abbrev AF:= @Decidable.not_not
abbrev AI:= @List.append_assoc
abbrev AJ:= @List.eq_nil_of_length_eq_zero
abbrev AK:= @List.getElem?_eq_getElem
abbrev AL:= @List.mem_cons
abbrev AN:= @Nat.le_trans
abbrev AO:= @decide_eq_true_eq
abbrev AR:= @decide_eq_false_iff_not
abbrev A3:= @Bool.not_eq_true
abbrev A4:= @Nat.lt_or_ge
abbrev A5:= @List.mem_of_getElem?
abbrev A6:= @Bool.false_eq_true
abbrev A7:= @Nat.zero_add
abbrev A8:= @Nat.mul_le_mul_right
abbrev A9:= @UInt8.toNat_inj
abbrev Bb:= @List.length_nil
abbrev Bd:= @List.map_nil
abbrev Be:= @Nat.le_refl
abbrev Bo:= @Option.isSome_iff_exists
abbrev By:= @List.nil_append
abbrev BD:= @List.append_nil
abbrev BE:= @List.mem_map
abbrev BF:= @List.getElem?_append_left
abbrev BO:= @List.getElem?_append_right
abbrev BS:= @Bool.false_and
abbrev BY:= @Bool.true_and
abbrev B4:= @List.cons_append
abbrev B5:= @List.mem_append
abbrev B6:= @List.mem_singleton
abbrev B7:= @Nat.lt_of_lt_of_le
abbrev Cb:= @Int.toNat_of_nonneg
abbrev Cc:= @List.all_cons
abbrev Cf:= @List.getElem?_map
abbrev Cl:= @Nat.add_assoc
abbrev Co:= @Nat.lt_of_le_of_lt
abbrev CF:=List UInt8
abbrev CT:=List Nat
abbrev C5:=List CF
abbrev C8:=Option Nat
abbrev DN:=Option (Nat×Bool)
abbrev DS:=List Bool
abbrev D3:=Option Int
abbrev Ed:=Option Bool
abbrev Ee:=List Int
namespace Go.AM
inductive AV where
 |any
 |int (k:IntKind) (n:Int)
 |bool (b:Bool)
 |str (s:CF)
 |con (v:Value)
 |agg (cs:List AV)
 |sl (s:Nat) (es:List (List AV))
 |rp (cs:List AV)
 |ref (key gen off:Nat)
 |er (key gen i off:Nat)
 |vs (key gen len:Nat)
 |vw (key gen off len:Nat)
 |fn (f:Nat) (cap:List AV)
 |tup (vs:List AV)
 |ifc (t:Nat) (v:AV)
 |mp (key gen:Nat)
 deriving Inhabited
abbrev Ec:=List (AV×AV)
abbrev D6:=Option AV
abbrev CV:=List (Nat×AV)
abbrev CL:=List AV
abbrev DA:=List (Nat×Nat×Nat×CL)
abbrev CS:=List CL
structure Place where
 blk:Nat
 off:Nat
 cap:Nat
 sz:Nat
 isNil:Bool
def Place.base (p:Place)(o:Nat):Option Addr:=if p.isNil then none else some ⟨p.blk,p.off+o,none⟩
structure Env where
 ro:Nat->Nat->Value->Prop
 lv:Nat->Nat->Option Place
 used:Nat->Nat->Prop
 num:Nat->Nat
 tnum:Nat->Nat
def BB:Nat:=1048576
section
variable (f:Nat)(cs:Array Value)
def isB:Bool:=Nat.ble BB f
def bV:Nat:=bif isB f then f-BB else f
def fnF:Array Value:=bif isB f then cs else #[]
def fnC:Array Value:=bif isB f then #[] else cs
end
inductive V (E:Env):Value->AV->Prop
 |any (v:Value):V E v .any
 |int (k:IntKind) (n:Int):V E (.int k n) (.int k n)
 |bool (b:Bool):V E (.bool b) (.bool b)
 |str (s:CF):V E (.string ⟨s.toArray⟩) (.str s)
 |con (v:Value):V E v (.con v)
 |agg (cs:Array Value) (as:CL) (hl:cs.size=as.length) (hf: ∀i,i<as.length->(cs.getD i undef).oneCell'=true) (h: ∀i,i<as.length->V E (cs.getD i undef) (as.getD i .any)):V E (.agg cs) (.agg as)
 | sl (s:Nat) (es:CS) (a:Option Addr) (n c:Nat) (hn:n=es.length) (hs: ∀i,i<es.length->(es.getD i []).length=s) (hc:n<=c)
   (u:Nat->Nat->Value)
   (hb:es≠ []-> ∃b off,a=some ⟨b,off,none⟩/\ ∀i,i<es.length-> ∀j,j<s->E.ro b (off+i*s+j) (u i j))
   (h: ∀i,i<es.length-> ∀j,j<s->V E (u i j) ((es.getD i []).getD j .any)):V E (.slice a n c) (.sl s es)
 | rp (b off:Nat) (cs:CL) (u:Nat->Value) (hb: ∀j,j<cs.length->E.ro b (off+j) (u j))
   (h: ∀j,j<cs.length->V E (u j) (cs.getD j .any)):V E (.pointer (some ⟨b,off,none⟩)) (.rp cs)
 |ref (x:Value) (key gen off:Nat) (hf: ∃b o,x= .pointer (some ⟨b,o,none⟩)) (hu:E.used key gen) (h: ∀p,E.lv key gen=some p->x= .pointer (some ⟨p.blk,p.off+off,none⟩)):V E x (.ref key gen off)
 |er (x:Value) (key gen i off:Nat) (hf: ∃b o,x= .pointer (some ⟨b,o,none⟩)) (hu:E.used key gen) (h: ∀p,E.lv key gen=some p->x= .pointer (some ⟨p.blk,p.off+i*p.sz+off,none⟩)):V E x (.er key gen i off)
 |vs (x:Value) (key gen len:Nat) (hf: ∃a c,x= .slice a len c) (hu:E.used key gen) (h: ∀p,E.lv key gen=some p->x= .slice (p.base 0) len p.cap/\len<=p.cap):V E x (.vs key gen len)
 |vw (x:Value) (key gen off len:Nat) (hf: ∃a c,x= .slice a len c) (hu:E.used key gen) (h: ∀p,E.lv key gen=some p-> ∃c o,x= .slice (p.base o) len c/\len<=c/\(len≠0->o=off*p.sz/\p.isNil=false)):V E x (.vw key gen off len)
 |fn (f:Nat) (cs:Array Value) (as:CL) (hl:cs.size=as.length) (h: ∀i,i<as.length->V E (cs.getD i undef) (as.getD i .any)):V E (.func (.func (E.num (bV f))) (fnF f cs) (fnC f cs)) (.fn f as)
 |tup (cs:Array Value) (as:CL) (hl:cs.size=as.length) (h: ∀i,i<as.length->V E (cs.getD i undef) (as.getD i .any)):V E (.tuple cs) (.tup as)
 |ifc (t:Nat) (v:Value) (a:AV) (h:V E v a):V E (.iface (E.tnum t) v) (.ifc t a)
 |mp (x:Value) (key gen:Nat) (hf: ∃r,x= .map (some r)) (hu:E.used key gen) (h: ∀p,E.lv key gen=some p->x= .map (some p.blk)):V E x (.mp key gen)
structure Env.le (E E':Env):Prop where
 ro: ∀b o u,E.ro b o u->E'.ro b o u
 lv: ∀k g p,E.used k g->E'.lv k g=some p->E.lv k g=some p
 used: ∀k g,E.used k g->E'.used k g
 num:E'.num=E.num
 tnum:E'.tnum=E.tnum
theorem Env.le.refl (E:Env):E.le E:=⟨λ_ _ _ h=>h,λ_ _ _ _ h=>h,λ_ _ h=>h,rfl,rfl⟩
theorem Env.le.trans {a b c:Env}(h:a.le b)(k:b.le c):a.le c:=
 ⟨λ_ _ _ x=>k.ro _ _ _ (h.ro _ _ _ x),λ_ _ _ u x=>h.lv _ _ _ u (k.lv _ _ _ (h.used _ _ u) x),λ_ _ u=>k.used _ _ (h.used _ _ u),k.num.trans h.num,k.tnum.trans h.tnum⟩
theorem V.mono {E E':Env}(l:E.le E'){v:Value}{a:AV}(h:V E v a):V E' v a:=by
 induction h with
 |any v=>exact .any v
 |int k n=>exact .int k n
 |bool b=>exact .bool b
 |str s=>exact .str s
 |con v=>exact .con v
 |agg cs as hl hf _ ih=>exact .agg cs as hl hf ih
 |sl s es a n c hn hs hc u hb _ ih=>
  exact .sl s es a n c hn hs hc u (λhe=>let ⟨b,off,e,r⟩:=hb he;⟨b,off,e,λi hi j hj=>l.ro _ _ _ (r i hi j hj)⟩) ih
 |rp b off cs u hb _ ih=>exact .rp b off cs u (λj hj=>l.ro _ _ _ (hb j hj)) ih
 |ref x key gen off hf hu h=>exact .ref x key gen off hf (l.used _ _ hu) λp hp=>h p (l.lv _ _ _ hu hp)
 |er x key gen i off hf hu h=>exact .er x key gen i off hf (l.used _ _ hu) λp hp=>h p (l.lv _ _ _ hu hp)
 |vs x key gen len hf hu h=>exact .vs x key gen len hf (l.used _ _ hu) λp hp=>h p (l.lv _ _ _ hu hp)
 |vw x key gen off len hf hu h=>exact .vw x key gen off len hf (l.used _ _ hu) λp hp=>h p (l.lv _ _ _ hu hp)
 |fn f cs as hl _ ih=>rw[<-l.num];exact .fn f cs as hl ih
 |tup cs as hl _ ih=>exact .tup cs as hl ih
 |ifc t v a _ ih=>rw[<-l.tnum];exact .ifc t v a ih
 |mp x key gen hf hu h=>exact .mp x key gen hf (l.used _ _ hu) λp hp=>h p (l.lv _ _ _ hu hp)
inductive Blk where
 |cells (cs:CL)
 |vec (s:Nat) (es:CS)
 |mp (es:Ec)
 deriving Inhabited
abbrev Dn:=List Blk
abbrev C1:=List (Bool×Blk)
abbrev C0:=Option (Nat×Blk)
inductive Tgt where
 |to (key gen:Nat)
 |frz (b:Blk)
 |dead
 deriving Inhabited
mutual
def AV.ren (φ:Nat->Nat->Tgt):AV->AV
 | .any=>.any
 | .int k n=>.int k n
 | .bool b=>.bool b
 | .str s=>.str s
 | .con v=>.con v
 | .agg cs=>.agg (di φ cs)
 | .sl s es=>.sl s (fa φ es)
 | .rp cs=>.rp (di φ cs)
 | .ref k g o=>match φ k g with
  | .to k' g'=>.ref k' g' o
  | .frz (.cells cs)=>.rp (cs.drop o)
  |_=>.any
 | .er k g i o=>match φ k g with
  | .to k' g'=>.er k' g' i o
  | .frz (.vec _ es)=>.rp ((es.getD i []).drop o)
  |_=>.any
 | .vs k g n=>match φ k g with
  | .to k' g'=>.vs k' g' n
  | .frz (.vec s es)=>if n<=es.length then .sl s (es.take n) else .any
  |_=>.any
 | .vw k g o n=>match φ k g with
  | .to k' g'=>.vw k' g' o n
  | .frz (.vec s es)=>if o+n<=es.length then .sl s ((es.drop o).take n) else .any
  |_=>.any
 | .fn f cs=>.fn f (di φ cs)
 | .tup cs=>.tup (di φ cs)
 | .ifc t v=>.ifc t (AV.ren φ v)
 | .mp k g=>match φ k g with
  | .to k' g'=>.mp k' g'
  |_=>.any
def di (φ:Nat->Nat->Tgt):CL->CL
 | []=>[]
 |a::r=>AV.ren φ a::di φ r
def fa (φ:Nat->Nat->Tgt):CS->CS
 | []=>[]
 |a::r=>di φ a::fa φ r
end
theorem bL (φ:Nat->Nat->Tgt): ∀l:CL,(di φ l).length=l.length
 | []=>rfl
 |_::r=>by simp[di,bL φ r]
theorem gf (φ:Nat->Nat->Tgt): ∀l:CS,(fa φ l).length=l.length
 | []=>rfl
 |_::r=>by simp[fa,gf φ r]
theorem gU (φ:Nat->Nat->Tgt): ∀(l:CL)(i:Nat),(di φ l).getD i .any=(l.getD i .any).ren φ
 | [],i=>by simp[di,AV.ren]
 |a::r,0=>by simp[di]
 |a::r,i+1=>by simpa[di] using gU φ r i
theorem ly (φ:Nat->Nat->Tgt): ∀(l:CS)(i:Nat),(fa φ l).getD i []=di φ (l.getD i [])
 | [],i=>by simp[fa,di]
 |a::r,0=>by simp[fa]
 |a::r,i+1=>by simpa[fa] using ly φ r i
def T8 (E:Env)(p:Place):Blk->Prop
 | .cells cs=> ∃u:Nat->Value,∀j,j<cs.length->E.ro p.blk (p.off+j) (u j)/\V E (u j) (cs.getD j .any)
 | .vec s es=>p.sz=s/\(∀i,i<es.length->(es.getD i []).length=s)/\(p.isNil=true->es= [])/\
   ∃u:Nat->Nat->Value,∀i,i<es.length-> ∀j,j<s->E.ro p.blk (p.off+i*s+j) (u i j)/\V E (u i j) ((es.getD i []).getD j .any)
 | .mp _=>True
structure RenOk (E E':Env)(φ:Nat->Nat->Tgt):Prop where
 ro: ∀b o u,E.ro b o u->E'.ro b o u
 num:E'.num=E.num
 tnum:E'.tnum=E.tnum
 at_: ∀k g,E.used k g->match φ k g with
  | .to k' g'=>E'.used k' g'/\ ∀p,E'.lv k' g'=some p->E.lv k g=some p
  | .frz b=> ∃p,E.lv k g=some p/\T8 E' p b
  | .dead=>True
section
variable {α:Type}(l:List α)(n i:Nat)(d:α)
theorem cu (h:i<n):(l.take n).getD i d=l.getD i d:=by
 simp[Aj,h]
theorem cG:(l.drop n).getD i d=l.getD (n+i) d:=by
 simp[Aj,List.getElem?_drop]
end
theorem V.ren {E E':Env}{φ:Nat->Nat->Tgt}(r:RenOk E E' φ){v:Value}{a:AV}(h:V E v a):V E' v (a.ren φ):=by
 induction h with
 |any v=>exact .any v
 |int k n=>exact .int k n
 |bool b=>exact .bool b
 |str s=>exact .str s
 |con v=>exact .con v
 |agg cs as hl hf _ ih=>
  exact .agg cs _ (by rw[bL];exact hl) (λi hi=>hf i (by rwa [bL] at hi)) λi hi=>by rw[gU];exact ih i (by rwa [bL] at hi)
 |sl s es a n c hn hs hc u hb _ ih=>
  refine .sl s _ a n c (by rw[gf];exact hn) (λi hi=>?_) hc u (λhe=>?_) λi hi j hj=>?_
  ·rw[ly,bL];exact hs i (by rwa [gf] at hi)
  ·have he':es≠ []:=λe=>he (by rw[e];rfl)
   obtain ⟨b,off,e,q⟩:=hb he';exact ⟨b,off,e,λi hi j hj=>r.ro _ _ _ (q i (by rwa [gf] at hi) j hj)⟩
  ·rw[ly,gU];exact ih i (by rwa [gf] at hi) j hj
 |rp b off cs u hb _ ih=>
  exact .rp b off _ u (λj hj=>r.ro _ _ _ (hb j (by rwa [bL] at hj))) λj hj=>by rw[gU];exact ih j (by rwa [bL] at hj)
 |ref x k g o hf hu h=>
  have q:=r.at_ k g hu;simp only[AV.ren];cases hφ:φ k g with
  |to k' g'=>rw[hφ] at q;exact .ref x k' g' o hf q.1 λp hp=>h p (q.2 p hp)
  |dead=>exact .any x
  |frz b=>
   rw[hφ] at q;obtain ⟨p,hp,hb⟩:=q;cases b with
   |mp es=>exact .any x
   |vec s es=>exact .any x
   |cells cs=>
    obtain ⟨u,hu⟩:=hb;rw[h p hp];refine .rp p.blk (p.off+o) _ (λj=>u (o+j)) (λj hj=>?_) λj hj=>?_
    ·rw[Cl];exact (hu (o+j) (by simp at hj;omega)).1
    ·rw[cG];exact (hu (o+j) (by simp at hj;omega)).2
 |er x k g i o hf hu h=>
  have q:=r.at_ k g hu;simp only[AV.ren];cases hφ:φ k g with
  |to k' g'=>rw[hφ] at q;exact .er x k' g' i o hf q.1 λp hp=>h p (q.2 p hp)
  |dead=>exact .any x
  |frz b=>
   rw[hφ] at q;obtain ⟨p,hp,hb⟩:=q;cases b with
   |mp es=>exact .any x
   |cells cs=>exact .any x
   |vec s es=>
    obtain ⟨hsz,hs,hnil,u,hu⟩:=hb;rw[h p hp,hsz]
    have hlen: ∀j,j<((es.getD i []).drop o).length->i<es.length/\o+j<s:=λj hj=>by
     have h1:o+j<(es.getD i []).length:=by simp at hj⊢;omega
     have h2:i<es.length:=by
      rcases A4 i es.length with h|h
      ·exact h
      ·simp[Aj,AD h] at h1
     exact ⟨h2,by rw[<-hs i h2];exact h1⟩
    refine .rp p.blk (p.off+i*s+o) _ (λj=>u i (o+j)) (λj hj=>?_) λj hj=>?_
    ·obtain ⟨h2,h3⟩:=hlen j hj
     have:=(hu i h2 (o+j) h3).1;rwa [show p.off+i*s+o+j=p.off+i*s+(o+j) from by omega]
    ·obtain ⟨h2,h3⟩:=hlen j hj
     rw[cG];exact (hu i h2 (o+j) h3).2
 |vs x k g n hf hu h=>
  have q:=r.at_ k g hu;simp only[AV.ren];cases hφ:φ k g with
  |to k' g'=>rw[hφ] at q;exact .vs x k' g' n hf q.1 λp hp=>h p (q.2 p hp)
  |dead=>exact .any x
  |frz b=>
   rw[hφ] at q;obtain ⟨p,hp,hb⟩:=q;cases b with
   |mp es=>exact .any x
   |cells cs=>exact .any x
   |vec s es=>
    obtain ⟨hsz,hs,hnil,u,hu⟩:=hb;dsimp only;split
    ·rename_i hn
     obtain ⟨rfl,hcap⟩:=h p hp;refine .sl s _ _ n p.cap (by simp;omega) (λi hi=>?_) hcap u (λhe=>?_) λi hi j hj=>?_
     ·rw[cu _ _ _ _ (by simp at hi;omega)];exact hs i (by simp at hi;omega)
     ·refine ⟨p.blk,p.off,?_,λi hi j hj=>(hu i (by simp at hi;omega) j hj).1⟩
      cases hn:p.isNil with
      |true=>exact absurd (by rw[hnil hn];simp) he
      |false=>simp[Place.base,hn]
     ·rw[cu _ _ _ _ (by simp at hi;omega)];exact (hu i (by simp at hi;omega) j hj).2
    ·exact .any x
 |vw x k g o n hf hu h=>
  have q:=r.at_ k g hu;simp only[AV.ren];cases hφ:φ k g with
  |to k' g'=>rw[hφ] at q;exact .vw x k' g' o n hf q.1 λp hp=>h p (q.2 p hp)
  |dead=>exact .any x
  |frz b=>
   rw[hφ] at q;obtain ⟨p,hp,hb⟩:=q;cases b with
   |mp es=>exact .any x
   |cells cs=>exact .any x
   |vec s es=>
    obtain ⟨hsz,hs,hnil,u,hu⟩:=hb;dsimp only;split
    ·rename_i hn
     obtain ⟨c,o',rfl,hcap,ho'⟩:=h p hp;refine .sl s _ _ n c (by simp;omega) (λi hi=>?_) hcap (λi j=>u (o+i) j) (λhe=>?_) λi hi j hj=>?_
     ·rw[cu _ _ _ _ (by simp at hi;omega),cG];exact hs (o+i) (by simp at hi;omega)
     ·have hn0:n≠0:=by rintro rfl;simp at he
      have ho:=(ho' hn0).1;subst ho;refine ⟨p.blk,p.off+o*s,?_,λi hi j hj=>?_⟩
      ·cases hn:p.isNil with
       |true=>exact absurd (by rw[hnil hn];simp) he
       |false=>simp[Place.base,hn,hsz]
      ·have:=(hu (o+i) (by simp at hi;omega) j hj).1
       rwa [show p.off+o*s+i*s+j=p.off+(o+i)*s+j from by rw[Nat.add_mul];omega]
     ·rw[cu _ _ _ _ (by simp at hi;omega),cG];exact (hu (o+i) (by simp at hi;omega) j hj).2
    ·exact .any x
 |fn f cs as hl _ ih=>
  rw[<-r.num];exact .fn f cs _ (by rw[bL];exact hl) λi hi=>by rw[gU];exact ih i (by rwa [bL] at hi)
 |tup cs as hl _ ih=>
  exact .tup cs _ (by rw[bL];exact hl) λi hi=>by rw[gU];exact ih i (by rwa [bL] at hi)
 |ifc t v a _ ih=>rw[<-r.tnum];exact .ifc t v _ ih
 |mp x k g hf hu h=>
  have q:=r.at_ k g hu;simp only[AV.ren];cases hφ:φ k g with
  |to k' g'=>rw[hφ] at q;exact .mp x k' g' hf q.1 λp hp=>h p (q.2 p hp)
  |dead=>exact .any x
  |frz b=>exact .any x
mutual
def AV.pure:AV->Bool
 | .any| .int _ _| .bool _| .str _| .con _=>true
 | .agg cs| .rp cs| .fn _ cs| .tup cs=>aP cs
 | .sl _ es=>aa es
 | .ref _ _ _| .er _ _ _ _| .vs _ _ _| .vw _ _ _ _| .mp _ _=>false
 | .ifc _ v=>AV.pure v
def aP:CL->Bool
 | []=>true
 |a::r=>AV.pure a&&aP r
def aa:CS->Bool
 | []=>true
 |a::r=>aP a&&aa r
end
mutual
theorem AV.ren_pure (φ:Nat->Nat->Tgt): ∀a:AV,a.pure=true->a.ren φ=a
 | .any,_| .int _ _,_| .bool _,_| .str _,_| .con _,_=>by simp[AV.ren]
 | .agg cs,h=>by simp only[AV.ren];rw[gR φ cs (by simpa[AV.pure] using h)]
 | .rp cs,h=>by simp only[AV.ren];rw[gR φ cs (by simpa[AV.pure] using h)]
 | .fn f cs,h=>by simp only[AV.ren];rw[gR φ cs (by simpa[AV.pure] using h)]
 | .tup cs,h=>by simp only[AV.ren];rw[gR φ cs (by simpa[AV.pure] using h)]
 | .sl s es,h=>by simp only[AV.ren];rw[cX φ es (by simpa[AV.pure] using h)]
 | .ref _ _ _,h| .er _ _ _ _,h| .vs _ _ _,h| .vw _ _ _ _,h| .mp _ _,h=>by simp[AV.pure] at h
 | .ifc t v,h=>by simp only[AV.ren];rw[AV.ren_pure φ v (by simpa[AV.pure] using h)]
theorem gR (φ:Nat->Nat->Tgt): ∀l:CL,aP l=true->di φ l=l
 | [],_=>rfl
 |a::r,h=>by
  simp only[aP,Av] at h;simp only[di];rw[AV.ren_pure φ a h.1,gR φ r h.2]
theorem cX (φ:Nat->Nat->Tgt): ∀l:CS,aa l=true->fa φ l=l
 | [],_=>rfl
 |a::r,h=>by
  simp only[aa,Av] at h;simp only[fa];rw[gR φ a h.1,cX φ r h.2]
end
inductive Opd where
 |t (n:Nat)
 |c (v:AV)
 deriving Inhabited
abbrev Eb:=Option Opd
abbrev DO:=List Opd
inductive NK where
 |ptr|slice|map|func|iface
 deriving Inhabited
inductive LK where
 |int|bool|str
 deriving Inhabited,DecidableEq
abbrev D4:=List LK
inductive AOp where
 |mv (x:Opd)
 |pick (c a b:Opd)
 |box (x:Opd)
 |alloc (z:AV)
 |build (z:CL) (na:List (Nat×Nat)) (xs:DO)
 |bsl (s:Nat) (z:CL) (n:Nat) (na:CT) (xs:DO)
 |load (sz:C8) (a:Opd)
 |store (sz:Nat) (a x:Opd)
 |fadr (off:Nat) (a:Opd)
 |iadr (s:Nat) (x i:Opd)
 |iarr (n s:Nat) (x i:Opd)
 |ival (n s:Nat) (sz:C8) (x i:Opd)
 |istr (x i:Opd)
 |bin (op:BinOp) (x y:Opd)
 |eqb (neg:Bool) (x y:Opd)
 |eqn (k:NK) (neg:Bool) (x y:Opd)
 |eqs (ks:D4) (neg:Bool) (x y:Opd)
 |un (op:UnOp) (x:Opd)
 |conv (k:IntKind) (x:Opd)
 |b2s (x:Opd)
 |mkfn (f:Nat) (cap:DO)
 |mksl (s bytes:Nat) (z:CL) (n c:Opd)
 |slc (s:Nat) (x:Opd) (lo hi mx:Eb)
 |slstr (x:Opd) (lo hi:Eb)
 |slarr (n s:Nat) (x:Opd) (lo hi mx:Eb)
 |ext (x:Opd) (i:Nat)
 |len (str:Bool) (x:Opd)
 |app (s bytes:Nat) (x y:Opd)
 |copy (s:Nat) (x y:Opd)
 |minmax (isMax:Bool) (xs:DO)
 |nilck (x:Opd)
 |mkifc (t:Nat) (x:Opd)
 |panic (x:Opd)
 |call (f:Opd) (args:DO)
 deriving Inhabited
def AOp.opds:AOp->DO
 | .mkifc _ x| .panic x| .mv x| .box x| .load _ x| .fadr _ x| .un _ x| .conv _ x| .b2s x| .ext x _| .len _ x| .nilck x=>[x]
 | .pick c a b=>[c,a,b]
 | .alloc _=>[]
 | .build _ _ xs| .bsl _ _ _ _ xs| .minmax _ xs=>xs
 | .store _ a x| .iadr _ a x| .iarr _ _ a x| .ival _ _ _ a x| .istr a x| .bin _ a x| .eqb _ a x| .eqn _ _ a x| .eqs _ _ a x| .mksl _ _ _ a x| .app _ _ a x| .copy _ a x=>[a,x]
 | .mkfn _ cap=>cap
 | .slc _ x lo hi mx| .slarr _ _ x lo hi mx=>x::(lo.toList++(hi.toList++mx.toList))
 | .slstr x lo hi=>x::(lo.toList++hi.toList)
 | .call f args=>f::args
structure AOper where
 dst:C8
 op:AOp
 guard:DN
 after:CT
 deriving Inhabited
abbrev CO:=List AOper
inductive ACode where
 |skip
 |region (ops:CO) (draw:Bool)
 |seq (a b:ACode)
 |cond (c:Opd) (a b:ACode)
 |block (id:Nat) (b:ACode)
 |loop (b:ACode)
 |scope (b:ACode)
 |exit (id:Nat)
 |ret
 deriving Inhabited
inductive RVar where
 |t (n:Nat)
 |cell (a:Nat) (sz:C8)
 |dfd (sp:AV->Option CS)
 deriving Inhabited
abbrev C7:=List RVar
structure AFunc where
 n:Nat
 np:Nat
 raw:Bool
 results:C7
 body:ACode
 deriving Inhabited
abbrev aq:=List (Nat×C0)
structure AS where
 tm:CV
 hp:aq
 ctr:Nat
 deriving Inhabited
def bJ:CV->Nat->AV
 | [],_=>.any
 |(t,v)::r,u=>if t=u then v else bJ r u
def aW:aq->Nat->C0
 | [],_=>none
 |(t,v)::r,u=>if t=u then v else aW r u
def evo (tm:CV):Opd->AV
 | .t n=>bJ tm n
 | .c v=>v
structure Eff where
 res:AV
 wr:aq:=[]
 rd:CT:=[]
 sf:DA:=[]
 deriving Inhabited
abbrev Dg:=Option Eff
abbrev D2:=List (C8×Dg)
abbrev DnE:=Nat×CT×CT×DA
abbrev DD:=List DnE
def si (a:AV)(cs:CL)(sz:C8):DA:=match a with
 | .ref k g o=>[(k,g,o,cs.take (sz.getD 1))]
 |_=>[]
mutual
def AV.keys (all:Bool):AV->CT
 | .any| .int _ _| .bool _| .str _| .con _=>[]
 | .agg cs| .rp cs| .fn _ cs| .tup cs=>b8 all cs
 | .sl _ es=>gF all es
 | .ref k _ _=>[k]
 | .er k _ _ _=>[k]
 | .vs k _ _=>bif all then [k] else []
 | .vw k _ _ _=>bif all then [k] else []
 | .mp k _=>[k]
 | .ifc _ v=>AV.keys all v
def b8 (all:Bool):CL->CT
 | []=>[]
 |a::r=>AV.keys all a++b8 all r
def gF (all:Bool):CS->CT
 | []=>[]
 |a::r=>b8 all a++gF all r
end
mutual
theorem AV.keys_pure (all:Bool): ∀a:AV,a.pure=true->a.keys all= []
 | .any,_| .int _ _,_| .bool _,_| .str _,_| .con _,_=>by simp[AV.keys]
 | .agg cs,h| .rp cs,h| .fn _ cs,h| .tup cs,h=>by simp only[AV.keys];exact ix all cs (by simpa[AV.pure] using h)
 | .sl _ es,h=>by simp only[AV.keys];exact iK all es (by simpa[AV.pure] using h)
 | .ref _ _ _,h| .er _ _ _ _,h| .vs _ _ _,h| .vw _ _ _ _,h| .mp _ _,h=>by simp[AV.pure] at h
 | .ifc _ v,h=>by simp only[AV.keys];exact AV.keys_pure all v (by simpa[AV.pure] using h)
theorem ix (all:Bool): ∀l:CL,aP l=true->b8 all l= []
 | [],_=>rfl
 |a::r,h=>by
  simp only[aP,Av] at h;simp only[b8,AV.keys_pure all a h.1,ix all r h.2,By]
theorem iK (all:Bool): ∀l:CS,aa l=true->gF all l= []
 | [],_=>rfl
 |a::r,h=>by
  simp only[aa,Av] at h;simp only[gF,ix all a h.1,iK all r h.2,By]
end
def Blk.keys:Blk->CT
 | .cells cs=>b8 true cs
 | .vec _ es=>gF true es
 | .mp _=>[]
def Blk.pure:Blk->Bool
 | .cells cs=>aP cs
 | .vec _ es=>aa es
 | .mp _=>false
def Blk.ren (φ:Nat->Nat->Tgt):Blk->Blk
 | .cells cs=>.cells (di φ cs)
 | .vec s es=>.vec s (fa φ es)
 | .mp es=>.mp es
def AV.flat:AV->Bool
 | .any| .agg _| .tup _=>false
 | .con v=>v.oneCell'
 |_=>true
def dJ:AV->Option CL
 | .agg cs=>some cs
 |a=>bif a.flat then some [a] else none
section
variable (hg:Nat->C0)(D:CT)
def j5 (k g:Nat):Tgt:=
 bif D.contains k then
  match hg k with
  |some (g',b)=>if g'=g then (bif b.pure then .frz b else .dead) else .dead
  |none=>.dead
 else .dead
def bU:CT->aq
 | []=>[]
 |k::r=>(k,none)::bU r
def cJ {α:Type}(l:List α)(off:Nat)(cs:List α):List α:=l.take off++(cs++l.drop (off+cs.length))
def rq (z:CL):List (Nat×Nat)->CL->Option CL
 | [],[]=>some z
 |(off,sz)::ps,v::vs=>
  match dJ v with
  |some cs=>if cs.length=sz/\off+sz<=z.length then rq (cJ z off cs) ps vs else none
  |none=>none
 |_,_=>none
def lU (s:Nat)(z:CS):CT->CL->Option CS
 | [],[]=>some z
 |i::ps,v::vs=>
  match dJ v with
  |some cs=>if cs.length=s/\i<z.length then lU s (z.set i cs) ps vs else none
  |none=>none
 |_,_=>none
def iY {α:Type}(n:Nat)(a:α):List α:=List.replicate n a
def fD (sz:C8)(cs:CL):D6:=
 match sz with
 |none=>match cs with
  |c::_=>some c
  | []=>none
 |some n=>if n<=cs.length then some (.agg (cs.take n)) else none
def cM:AV->Option (CL×CT)
 | .rp cs=>some (cs,[])
 | .ref k g o=>match hg k with
  |some (g',.cells cs)=>if g'=g then some (cs.drop o,[k]) else none
  |_=>none
 | .er k g i o=>match hg k with
  |some (g',.vec _ es)=>if g'=g then (if i<es.length then some ((es.getD i []).drop o,[k]) else none) else none
  |_=>none
 |_=>none
def cK:AV->Option (CS×CT)
 | .sl _ es=>some (es,[])
 | .con (.slice none 0 0)=>some ([],[])
 | .vs k g n=>match hg k with
  |some (g',.vec _ es)=>if g'=g then (if n<=es.length then some (es.take n,[k]) else none) else none
  |_=>none
 | .vw k g o n=>match hg k with
  |some (g',.vec _ es)=>if g'=g then (if o+n<=es.length then some ((es.drop o).take n,[k]) else none) else none
  |_=>none
 |_=>none
def byteCells (s:CF):CS:=s.map λb=>[.int .u8 b.toNat]
def lL:AV->C8
 | .sl _ es=>some es.length
 | .con (.slice none 0 0)=>some 0
 | .vs _ _ n=>some n
 | .vw _ _ _ n=>some n
 |_=>none
def lenS (str:Bool)(x:AV):C8:=
 match str,x with
 |true,.str s=>some s.length
 |false,x=>lL x
 |_,_=>none
def intBits (op:BinOp)(k:IntKind)(x y:Int):Int:=
 k.wrap ((match op with
  | .and=>BitVec.ofInt k.bits x&&&BitVec.ofInt k.bits y
  | .or=>BitVec.ofInt k.bits x|||BitVec.ofInt k.bits y
  | .xor=>BitVec.ofInt k.bits x^^^BitVec.ofInt k.bits y
  |_=>BitVec.ofInt k.bits x&&& ~~~(BitVec.ofInt k.bits y)).toNat:Int)
def Jz:AV->Ed
 | .con (.pointer none)| .con (.slice none _ _)| .con (.map none)| .con .nilIface| .con .nilFunc=>some true
 | .ref _ _ _| .er _ _ _ _| .rp _| .fn _ _| .ifc _ _=>some false
 |_=>none
def FP:NK->AV->Ed
 | .ptr,.con (.pointer none)=>some true
 | .ptr,.ref _ _ _| .ptr,.er _ _ _ _| .ptr,.rp _=>some false
 | .slice,.con (.slice none 0 0)=>some true
 | .slice,.sl _ (_::_)=>some false
 | .map,.con (.map none)=>some true
 | .func,.con .nilFunc=>some true
 | .func,.fn _ _=>some false
 | .iface,.con .nilIface=>some true
 | .iface,.ifc _ _=>some false
 |_,_=>none
def eqN (k:NK)(x y:AV):Ed:=
 match FP k x,FP k y with
 |some true,some t=>some t
 |some t,some true=>some t
 |_,_=>none
def od:LK->AV->AV->Ed
 | .int,.int k a,.int k' b=>if k=k' then some (a==b) else none
 | .bool,.bool a,.bool b=>some (a==b)
 | .str,.str a,.str b=>some (a==b)
 |_,_,_=>none
def eqL:D4->CL->CL->Ed
 | [],[],[]=>some true
 |k::ks,a::r,b::s=>match od k a b,eqL ks r s with
  |some p,some q=>some (p&&q)
  |_,_=>none
 |_,_,_=>none
def bp (op:BinOp)(x y:AV):D6:=
 match op,x,y with
 | .shl,.int k a,.int _ b=>if b<0 then none else some (.int k (k.wrap (a*2^ (min b.toNat k.bits))))
 | .shr,.int k a,.int _ b=>if b<0 then none else some (.int k (a.fdiv (2^ (min b.toNat k.bits))))
 |_,.int k a,.int k' b=>if k≠k' then none else
  match op with
  | .add=>some (.int k (k.wrap (a+b)))
  | .sub=>some (.int k (k.wrap (a-b)))
  | .mul=>some (.int k (k.wrap (a*b)))
  | .quo=>if b=0 then none else some (.int k (k.wrap (a.tdiv b)))
  | .rem=>if b=0 then none else some (.int k (a.tmod b))
  | .and| .or| .xor| .andNot=>some (.int k (intBits op k a b))
  | .eql=>some (.bool (a==b))
  | .neq=>some (.bool (a !=b))
  | .lss=>some (.bool (a<b))
  | .leq=>some (.bool (a<=b))
  | .gtr=>some (.bool (a>b))
  | .geq=>some (.bool (a>=b))
  |_=>none
 |_,.str a,.str b=>
  match op with
  | .add=>if a.length+b.length<2^62 then some (.str (a++b)) else none
  | .eql=>some (.bool (a==b))
  | .neq=>some (.bool !(a==b))
  | .lss=>some (.bool (Op.bytesLess a b))
  | .leq=>some (.bool (Op.bytesLess a b||a==b))
  | .gtr=>some (.bool !(Op.bytesLess a b||a==b))
  | .geq=>some (.bool !(Op.bytesLess a b))
  |_=>none
 |_,_,_=>none
def unA (op:UnOp)(x:AV):D6:=
 match op,x with
 | .neg,.int k n=>some (.int k (k.wrap (0-n)))
 | .xor,.int k n=>some (.int k (intBits .xor k (if k.signed then-1 else k.max) n))
 | .not,.bool b=>some (.bool !b)
 |_,_=>none
def bnd (v:AV)(y:Nat):C8:=
 match v with
 | .int _ i=>if 0<=i/\i<=y then some i.toNat else none
 |_=>none
def p8 (isMax:Bool)(k:IntKind)(x:Int):CL->D3
 | []=>some x
 | .int k' y::r=>if k'=k then p8 isMax k (bif isMax then (if x<y then y else x) else (if y<x then y else x)) r else none
 |_::_=>none
def ni (n bytes:Nat):Bool:=decide (n* (bytes+1)<=140737488355328)
def ql (n s:Nat)(full:Bool)(g key:Nat)(x:AV)(hg:Nat->C0):Dg:=
 match x with
 | .ref k gk off=>match hg k with
  |some (g',.cells cs)=>if full=true/\s=1/\off=0/\g'=gk/\cs.length=n/\k≠key then some {res:=.vs key g n,wr:=[(key,some (g,.vec 1 (cs.map λc=>[c]))),(k,some (g,.vec 1 []))],rd:=[k]} else none
  |_=>none
 |_=>none
def ad7:AV->Bool
 | .sl _ _| .vs _ _ _| .vw _ _ _ _| .con (.slice ..)=>true
 |_=>false
def qt:Bool:=D.all λk=>match hg k with
 |some (_,.vec _ es)=>es.any λr=>r.any ad7
 |_=>false
end
def wd (old:CL)(D:CT):Bool:=D.all λk=>(b8 true old).contains k
def aX (op:AOp)(g key:Nat)(vals:CL)(hg:Nat->C0):Dg:=
 match op,vals with
 | .mv _,[x]=>some {res:=x}
 | .pick ..,[c,a,b]=>match c with
  | .bool t=>some {res:=bif t then a else b}
  |_=>none
 | .box _,[x]=>(dJ x).map λcs=> {res:=.ref key g 0,wr:=[(key,some (g,.cells cs))]}
 | .alloc z,[]=>(dJ z).map λcs=> {res:=.ref key g 0,wr:=[(key,some (g,.cells cs))]}
 | .build z ps _,vs=>(rq z ps vs).map λcs=> {res:=.agg cs}
 | .bsl s z n ps _,vs=>
  if n*s<=2^24/\z.length=s then
   match b8 true vs with
   | []=>(lU s (iY n z) ps vs).map λes=> {res:=.vs key g n,wr:=[(key,some (g,.vec s es))]}
   |D=>(lU s (iY n z) ps (di (j5 hg D) vs)).map λes=> {res:=.vs key g n,wr:=(key,some (g,.vec s es))::bU D,rd:=D}
  else none
 | .load sz _,[a]=>match cM hg a with
  |some (cs,r)=>(fD sz cs).map λv=> {res:=v,rd:=r,sf:=si a cs sz}
  |none=>none
 | .store sz _ _,[a,x]=>match dJ x with
  |some cs=>
   if cs.length=sz then
    match a with
    | .ref k g' o=>match hg k with
          |some (g'',.cells old)=>if g''=g' then (if o+sz<=old.length then some {res:=.any,wr:=[(k,some (g'',.cells (cJ old o cs)))],rd:=[k]} else none) else none
          |_=>none
    | .er k g' i o=>match hg k with
          |some (g'',.vec s es)=>
           if g''=g' then (if i<es.length/\o+sz<=s then
            match b8 true cs with
            | []=>some {res:=.any,wr:=[(k,some (g'',.vec s (es.set i (cJ (es.getD i []) o cs))))],rd:=[k]}
            |D=>bif D.contains k then none else bif qt hg D||wd (((es.getD i []).drop o).take cs.length) D then some {res:=.any,wr:=[(k,some (g'',.vec s (es.set i (cJ (es.getD i []) o cs))))],rd:=k::D}
             else some {res:=.any,wr:=(k,some (g'',.vec s (es.set i (cJ (es.getD i []) o (di (j5 hg D) cs)))))::bU D,rd:=k::D}
            else none) else none
          |_=>none
    |_=>none
   else none
  |none=>none
 | .fadr off _,[a]=>match a with
  | .ref k g' o=>some {res:=.ref k g' (o+off)}
  | .er k g' i o=>some {res:=.er k g' i (o+off)}
  | .rp cs=>some {res:=.rp (cs.drop off)}
  |_=>none
 | .iadr s _ _,[x,i]=>match i with
  | .int _ j=>match x with
   | .sl s' es=>if s'=s/\0<=j/\j.toNat<es.length then some {res:=.rp (es.getD j.toNat [])} else none
   | .vs k g' n=>match hg k with
    |some (g'',.vec s' _)=>if g''=g'/\s'=s then (if 0<=j/\j.toNat<n then some {res:=.er k g' j.toNat 0,rd:=[k]} else none) else none
    |_=>none
   | .vw k g' o n=>match hg k with
    |some (g'',.vec s' _)=>if g''=g'/\s'=s then (if 0<=j/\j.toNat<n then some {res:=.er k g' (o+j.toNat) 0,rd:=[k]} else none) else none
    |_=>none
   |_=>none
  |_=>none
 | .iarr n s _ _,[x,i]=>match i with
  | .int _ j=>if 0<=j/\j.toNat<n then
    match x with
    | .ref k g' o=>some {res:=.ref k g' (o+j.toNat*s)}
    | .er k g' e o=>some {res:=.er k g' e (o+j.toNat*s)}
    | .rp cs=>some {res:=.rp (cs.drop (j.toNat*s))}
    |_=>none
   else none
  |_=>none
 | .ival n s sz _ _,[x,i]=>match i,x with
  | .int _ j,.agg cs=>if 0<=j/\j.toNat<n then (fD sz (cs.drop (j.toNat*s))).map λv=> {res:=v} else none
  |_,_=>none
 | .istr _ _,[x,i]=>match i,x with
  | .int _ j,.str l=>if 0<=j/\j.toNat<l.length then some {res:=.int .u8 (l.getD j.toNat 0).toNat} else none
  |_,_=>none
 | .bin op _ _,[x,y]=>(bp op x y).map λv=> {res:=v}
 | .eqb neg _ _,[x,y]=>match x,y with
  | .bool a,.bool b=>some {res:=.bool (xor neg (a==b))}
  |_,_=>none
 | .eqn k neg _ _,[x,y]=>(eqN k x y).map λb=> {res:=.bool (xor neg b)}
 | .eqs ks neg _ _,[x,y]=>match x,y with
  | .agg a,.agg b=>(eqL ks a b).map λt=> {res:=.bool (xor neg t)}
  |_,_=>none
 | .un op _,[x]=>(unA op x).map λv=> {res:=v}
 | .conv k _,[x]=>match x with
  | .int _ n=>some {res:=.int k (k.wrap n)}
  |_=>none
 | .b2s _,[x]=>match cK hg x with
  |some (es,r)=>(bytesOf es).map λl=> {res:=.str l,rd:=r}
  |none=>none
 | .mkfn f _,vs=>some {res:=.fn f vs}
 | .mksl s bytes z _ _,[n,c]=>match n,c with
  | .int .i64 n,.int .i64 c=>
   if 0<=n/\n<=c/\z.length=s/\ni c.toNat bytes=true then some {res:=.vs key g n.toNat,wr:=[(key,some (g,.vec s (iY n.toNat z)))]} else none
  |_,_=>none
 | .slc s _ lo hi mx,x::bs=>
  match lL x with
  |none=>none
  |some n=>
   match slBounds lo.isSome hi.isSome mx.isSome n bs with
   |none=>none
   |some (l,h)=>
    match x with
    | .sl s' es=>if s'=s then some {res:=.sl s ((es.drop l).take (h-l))} else none
    | .con (.slice none 0 0)=>some {res:=.sl s []}
    | .vs k g' _=>match hg k with
          |some (g'',.vec s' _)=>if g''=g'/\s'=s then (if l=0/\mx.isSome=false then some {res:=.vs k g' h,rd:=[k]} else some {res:=.vw k g' l (h-l),rd:=[k]}) else none
          |_=>none
    | .vw k g' o _=>match hg k with
          |some (g'',.vec s' _)=>if g''=g'/\s'=s then some {res:=.vw k g' (o+l) (h-l),rd:=[k]} else none
          |_=>none
    |_=>none
 | .slarr n s _ lo hi mx,x::_=>ql n s (!(lo.isSome||hi.isSome||mx.isSome)) g key x hg
 | .slstr _ lo hi,x::bs=>match x with
  | .str l=>match slBounds lo.isSome hi.isSome false l.length bs with
   |some (a,b)=>some {res:=.str ((l.drop a).take (b-a))}
   |none=>none
  |_=>none
 | .ext _ i,[x]=>match x with
  | .tup vs=>if i<vs.length then some {res:=vs.getD i .any} else none
  |_=>none
 | .len str _,[x]=>(lenS str x).map λn=> {res:=.int .i64 n}
 | .app s bytes _ _,[x,y]=>
  match appSrc hg s y with
  |none=>none
  |some (ys,r)=>
   match x with
   | .con (.slice none 0 0)=>if ni ys.length bytes=true then some {res:=.vs key g ys.length,wr:=[(key,some (g,.vec s ys))],rd:=r} else none
   | .vs k g' n=>match hg k with
    |some (g'',.vec s' es)=>if g''=g'/\s'=s/\n<=es.length/\ni (n+ys.length) bytes=true then some {res:=.vs k g (n+ys.length),wr:=[(k,some (g,.vec s (es.take n++ys)))],rd:=k::r} else none
    |_=>none
   |_=>none
 | .minmax m _,v::vs=>match v with
  | .int k x=>(p8 m k x vs).map λn=> {res:=.int k n}
  |_=>none
 | .mkifc t _,[x]=>some {res:=.ifc t x}
 | .nilck _,[x]=>match Jz x with
  |some false=>some {res:=x}
  |_=>none
 |_,_=>none
where
 bytesOf:CS->Option CF
  | []=>some []
  | [.int .u8 n]::r=>(bytesOf r).map λl=>UInt8.ofNat n.toNat::l
  |_=>none
 appSrc (hg:Nat->C0) (s:Nat) (y:AV):Option (CS×CT):=
  match y with
  | .str l=>if s=1 then some (byteCells l,[]) else none
  | .sl s' es=>if s'=s then some (es,[]) else none
  | .con (.slice none 0 0)=>some ([],[])
  | .vs k g n=>match hg k with
   |some (g',.vec s' es)=>if g'=g/\s'=s then (if n<=es.length then some (es.take n,[k]) else none) else none
   |_=>none
  | .vw k g o n=>match hg k with
   |some (g',.vec s' es)=>if g'=g/\s'=s then (if o+n<=es.length then some ((es.drop o).take n,[k]) else none) else none
   |_=>none
  |_=>none
 slBounds (lo hi mx:Bool) (n:Nat) (bs:CL):Option (Nat×Nat):=
  match lo,hi,mx,bs with
  |false,false,false,[]=>some (0,n)
  |true,false,false,[a]=>(bnd a n).map λl=>(l,n)
  |false,true,false,[b]=>(bnd b n).map λh=>(0,h)
  |true,true,false,[a,b]=>(bnd b n).bind λh=>(bnd a h).map λl=>(l,h)
  |false,true,true,[b,c]=>(bnd c n).bind λm=>(bnd b m).map λh=>(0,h)
  |true,true,true,[a,b,c]=>(bnd c n).bind λm=>(bnd b m).bind λh=>(bnd a h).map λl=>(l,h)
  |_,_,_,_=>none
mutual
def AV.dry:AV->Bool
 | .any| .int _ _| .bool _| .str _| .con _=>true
 | .agg cs| .fn _ cs| .tup cs=>tF cs
 | .sl _ []=>true
 | .ifc _ v=>AV.dry v
 |_=>false
def tF:CL->Bool
 | []=>true
 |a::r=>AV.dry a&&tF r
end
structure Ret where
 r:AV
 bs:C1
 deriving Inhabited
abbrev Df:=Option Ret
def dU:CT->CT
 | []=>[]
 |k::r=>bif (dU r).contains k then dU r else k::dU r
def idx (k:Nat):CT->C8
 | []=>none
 |x::r=>if x=k then some 0 else (idx k r).map (· +1)
def bA (hg:Nat->C0):CT->CT
 | []=>[]
 |k::r=>(match hg k with|some (_,b)=>b.keys|none=>[])++bA hg r
section
variable (hg:Nat->C0)
def qw (E:CT):CT:=E++dU ((bA hg E).filter λk=> !E.contains k)
def gY (raw:Bool)(args:CL):CT:=
 match b8 raw args with
 | []=>[]
 |D=>qw hg (dU ((D++bA hg D)++bA hg (D++bA hg D)))
def oZ (D fz:CT)(k g:Nat):Tgt:=
 match hg k with
 |some (g',b)=>if g'=g then (match idx k D with|some i=>.to i 0|none=>bif fz.contains k&&b.pure then .frz b else .dead) else .dead
 |none=>.dead
end
def jp (hg:Nat->C0)(φ:Nat->Nat->Tgt):CT->Option Dn
 | []=>some []
 |k::r=>match hg k,jp hg φ r with
  |some (_,b),some bs=>some (b.ren φ::bs)
  |_,_=>none
structure CIn where
 args:CL
 bs:Dn
 D:CT
 fz:CT
section
variable (hg:Nat->C0)
def fp (raw:Bool)(args:CL):Option CIn:=
 match b8 true args with
 | []=>some ⟨args,[],[],[]⟩
 |K=>
  let D:=gY hg raw args
  let fz:=K.filter λk=> !D.contains k
  (jp hg (oZ hg D fz) D).map λbs=>⟨di (oZ hg D fz) args,bs,D,fz⟩
def sJ (dst j:Nat):Nat:=64+dst+65536*j
def yq (k:Nat):Nat:=match hg k with|some (g,_)=>g|none=>0
def cH:CT->Bool
 | []=>true
 |k::r=> !r.contains k&&cH r
section
variable (D:CT)(dst n:Nat)
def jS:CT:=D++(List.range (n-D.length)).map (sJ dst)
def Jb (dst:Nat):CT->Nat
 | []=>0
 |k::r=>bif Nat.beq (k % 65536) (64+dst) then max (k/ 65536+1) (Jb dst r) else Jb dst r
def fh:CT:=
 bif cH (jS D dst n) then jS D dst n else D++(List.range (n-D.length)).map λj=>sJ dst (j+Jb dst D)
theorem Mh {D:CT}{dst n:Nat}(h:cH (jS D dst n)=true):fh D dst n=jS D dst n:=by unfold fh;rw[h,cond_true]
theorem se: ∃l,fh D dst n=D++l:=by
 unfold fh;cases cH (jS D dst n) with
 |true=>exact ⟨_,rfl⟩
 |false=>exact ⟨_,rfl⟩
end
section
variable (K:CT)(m g:Nat)(bs:C1)
def iX (i:Nat):Nat:=
 bif decide (i<m)&&(bs.getD i default).1 then yq hg (K.getD i 0) else g
def qL (i _g:Nat):Tgt:=
 match K[i]? with
 |some k=>.to k (iX hg K m g bs i)
 |none=>.dead
end
def nj (φ:Nat->Nat->Tgt)(gi:Nat->Nat):Nat->CT->C1->aq
 |i,k::K,(_,b)::r=>(k,some (gi i,b.ren φ))::nj φ gi (i+1) K r
 |_,_,_=>[]
def pnV (a:AV):AV:=.ifc 0 (.tup [.ref 0 1 0,a])
def du:AV->D6
 | .ifc _ (.tup [.ref 0 1 0,a])=>some a
 |_=>none
def D0:Nat:=1000003
def eZ:C7->C7
 | .dfd _::r=>r
 |l=>l
def ci (c:CIn)(g dst:Nat)(t:Ret):Dg:=
 bif t.bs.isEmpty&&t.r.dry then some {res:=t.r,wr:=[],rd:=c.fz++c.D} else
  let K:=fh c.D dst t.bs.length
  let φ:=qL hg K c.D.length g t.bs
  bif (du t.r).isNone&&(cH K&&decide (K.length=t.bs.length)) then some {res:=t.r.ren φ,wr:=nj φ (iX hg K c.D.length g t.bs) 0 K t.bs++bU c.fz,rd:=c.fz++c.D} else none
end
section
variable (A:AS)(rs:C7)
def uq:RVar->D6
 | .dfd _=>none
 | .t n=>some (bJ A.tm n)
 | .cell a sz=>match cM (aW A.hp) (bJ A.tm a) with
  |some (cs,_)=>fD sz cs
  |none=>none
def p5 (A:AS):C7->Option CL
 | []=>some []
 |v::r=>match uq A v,p5 A r with
  |some a,some l=>some (a::l)
  |_,_=>none
def iP:D6:=
 match p5 A rs with
 |some [a]=>some a
 |some l=>some (.tup l)
 |none=>none
section
variable (hp:aq)(m:Nat)
def im (r:AV):CT:=
 let D:=(r.keys true++bA (aW hp) (List.range m)).filter (λk=>decide (m<=k))
 dU ((D++bA (aW hp) D).filter (λk=>decide (m<=k)))
def qY (N:CT)(k g:Nat):Tgt:=
 match aW hp k with
 |some (g',_)=>if g'=g then (if k<m then .to k 0 else match idx k N with|some i=>.to (m+i) 0|none=>.dead) else .dead
 |none=>.dead
def gX (hp:aq)(φ:Nat->Nat->Tgt)(m:Nat):CT->Option C1
 | []=>some []
 |k::r=>match aW hp k,gX hp φ m r with
  |some (g,b),some bs=>some ((decide (k<m/\g=0),b.ren φ)::bs)
  |_,_=>none
def eT:Df:=
 match iP A rs with
 |none=>none
 |some a=>
  bif m==0&&a.pure then some {r:=a,bs:=[]} else
  let N:=im A.hp m a
  let φ:=qY A.hp m N
  (gX A.hp φ m (List.range m++N)).map λbs=> {r:=a.ren φ,bs:=bs}
def qn (a:AV):Df:=
 bif m==0&&a.pure then some {r:=a,bs:=[]} else
 let N:=im A.hp m a
 let φ:=qY A.hp m N
 (gX A.hp φ m (List.range m++N)).map λbs=> {r:=a.ren φ,bs:=bs}
end
def lc (A:AS):CL->CS->Option AS
 | [],[]=>some A
 | .ref k g 0::caps,cs::css=>match aW A.hp k with
  |some (g',.cells l)=>if g'=g/\cs.length=l.length then lc {A with hp:=(k,some (g,.cells cs))::A.hp} caps css else none
  |_=>none
 |_,_=>none
def eo (m:Nat)(a:AV):Df:=
 match rs with
 | .dfd sp::rs'=>match bJ A.tm D0 with
  | .fn f caps=>bif isB f then none else match sp a with
   |some css=>(lc A caps css).bind λA'=>eT A' rs' m
   |none=>none
  |_=>none
 |_=>(qn A m a).map λt=> {r:=pnV t.r,bs:=t.bs}
end
inductive AItem where
 |code (c:ACode)
 |inBlock (id:Nat)
 |inLoop (b:ACode)
 |inScope
 |inReg (rest:CO) (i:Nat) (dn:DD) (draw:Bool)
 deriving Inhabited
abbrev Dd:=List AItem
structure Cfg where
 todo:Dd
 A:AS
 rs:C7
 m:Nat
 deriving Inhabited
def pM (id:Nat):Dd->Option Dd
 | .inBlock id'::k=>if id'=id then some k else pM id k
 |_::k=>pM id k
 | []=>none
inductive Fun where
 |code (F:AFunc)
 |prim (raw:Bool) (p:CL->Dn->Df)
 |none
 deriving Inhabited
def Fun.raw:Fun->Bool
 | .code F=>F.raw
 | .prim r _=>r
 | .none=>false
def tms:Nat->CL->CV
 |_,[]=>[]
 |i,a::r=>(i,a)::tms (i+1) r
def j8:Nat->Dn->aq
 |_,[]=>[]
 |i,b::r=>(i,some (0,b))::j8 (i+1) r
def AFunc.start (F:AFunc)(args:CL)(bs:Dn):Cfg:=
 {todo:=[.code F.body],A:= {tm:=tms 0 args,hp:=j8 0 bs,ctr:=1},rs:=F.results,m:=bs.length}
def bN (tm:CV):DN->Ed
 |none=>some true
 |some (t,w)=>match bJ tm t with
  | .bool b=>some (b==w)
  | .con (.tuple _)=>some false
  |_=>none
def ip:AV:=.con (.tuple #[])
section
variable (A:AS)(dst:C8)
def AS.put (v:AV):AS:=
 match dst with
 |some d=> {A with tm:=(d,v)::A.tm}
 |none=>A
def AS.app (e:Eff):AS:= {A.put dst e.res with hp:=e.wr++A.hp}
def i6 (a b:CT):Bool:=a.any λk=>b.contains k
def wks:aq->CT
 | []=>[]
 |(k,_)::r=>k::wks r
def jI (after:CT)(e:Eff):DD->Bool
 | []=>true
 |(j,rd,wk,_)::r=>(after.contains j||(!i6 wk e.rd&& !i6 wk (wks e.wr)&& !i6 (wks e.wr) rd))&&jI after e r
def lW (i:Nat)(e:Eff)(dn:DD):DD:=
 match e.rd,wks e.wr with
 | [],[]=>dn
 |rd,wk=>(i,rd,wk,e.sf)::dn
def nub:CT->CV->CV
 |_,[]=>[]
 |seen,(t,v)::r=>bif seen.contains t then nub seen r else (t,v)::nub (t::seen) r
def Jd:CT->aq->aq
 |_,[]=>[]
 |seen,(t,v)::r=>bif seen.contains t then Jd seen r else (t,v)::Jd (t::seen) r
def AS.nub:AS:= {A with tm:=AM.nub [] A.tm,hp:=Jd [] A.hp}
def pm (hg:Nat->C0)(D:CT)(k g:Nat):Tgt:=bif D.contains k then j5 hg D k g else .to k g
def renH (φ:Nat->Nat->Tgt):aq->aq
 | []=>[]
 |(k,some (g,b))::r=>(k,some (g,b.ren φ))::renH φ r
 |(k,none)::r=>(k,none)::renH φ r
def jh (φ:Nat->Nat->Tgt):CV->CV
 | []=>[]
 |(t,v)::r=>(t,v.ren φ)::jh φ r
def AS.frz (D:CT):AS:=
 let φ:=pm (aW A.hp) D
 {A with tm:=jh φ A.tm,hp:=bU D++renH φ A.hp}
end
def wl (hg:Nat->C0):aq->CT
 | []=>[]
 |(k,none)::r=>(match hg k with
  |some (_,b)=>bif b.pure then [k] else []
  |none=>[])++wl hg r
 |(_,some _)::r=>wl hg r
section
variable (G:Nat->Fun)(ih:Cfg->Df)(hg:Nat->C0)(g dst:Nat)(vals:CL)
def n8:Dg:=
 match vals with
 | .fn f cap::args=>
  match fp hg (G (bV f)).raw (bif isB f then cap++args else args++cap) with
  |some c=>
   match G (bV f) with
   | .code F=>if c.args.length=F.np then
     match ih (F.start c.args c.bs) with
     |some t=>ci hg c g dst t
     |none=>none
     else none
   | .prim _ p=>match p c.args c.bs with
    |some t=>ci hg c g dst t
    |none=>none
   | .none=>none
  |none=>none
 |_=>none
def jH (c:CIn)(g dst:Nat)(t:Ret):Dg:=
 match du t.r with
 |some a=>ci hg c g dst {r:=a,bs:=t.bs}
 |none=>none
def nc:Dg:=
 match vals with
 | .fn f cap::args=>
  match fp hg (G (bV f)).raw (bif isB f then cap++args else args++cap) with
  |some c=>
   match G (bV f) with
   | .code F=>if c.args.length=F.np then
     match ih (F.start c.args c.bs) with
     |some t=>jH hg c g dst t
     |none=>none
     else none
   | .prim _ p=>match p c.args c.bs with
    |some t=>jH hg c g dst t
    |none=>none
   | .none=>none
  |none=>none
 |_=>none
section
variable (o:AOper)(g:Nat)(A:AS)
def iR:Dg:=
 match o.op with
 | .call f args=>nc G ih (aW A.hp) g (o.dst.getD 0) ((f::args).map (evo A.tm))
 | .panic x=>match evo A.tm x with
  | .ifc t v=>some {res:=.ifc t v}
  |_=>none
 |_=>none
def abR (after:CT)(dn:DD):Bool:=dn.all λx=>after.contains x.1
def nC:C7->Bool
 | .dfd _::_=>false
 |_=>true
def ig:Dg:=
 match o.op with
 | .call f args=>n8 G ih (aW A.hp) g (o.dst.getD 0) ((f::args).map (evo A.tm))
 |op=>aX op g (sJ (o.dst.getD 0) 0) (op.opds.map (evo A.tm)) (aW A.hp)
end
def jg (c:Cfg):Df:=
 match c.todo with
 | []=>eT c.A (eZ c.rs) c.m
 | .code .ret::_=>eT c.A (eZ c.rs) c.m
 | .code .skip::k=>ih {c with todo:=k}
 | .code (.seq a b)::k=>ih {c with todo:=.code a:: .code b::k}
 | .code (.cond x a b)::k=>match evo c.A.tm x with
  | .bool t=>ih {c with todo:=.code (bif t then a else b)::k}
  |_=>none
 | .code (.block id b)::k=>ih {c with todo:=.code b:: .inBlock id::k}
 | .code (.scope b)::k=>ih {c with todo:=.code b:: .inScope::k}
 | .code (.loop b)::k=>ih {c with todo:=.inLoop b::k}
 | .inLoop b::k=>ih {c with todo:=.code b:: .inLoop b::k,A:=c.A.nub}
 | .code (.exit id)::k=>match pM id k with
  |some k'=>ih {c with todo:=k'}
  |none=>none
 | .inBlock _::k=>ih {c with todo:=k}
 | .inScope::k=>ih {c with todo:=k}
 | .code (.region ops draw)::k=>ih {c with todo:=.inReg ops 0 [] draw::k}
 | .inReg [] i _ _::k=>ih {c with todo:=k,A:= {c.A with ctr:=c.A.ctr+i}}
 | .inReg (o::rest) i dn draw::k=>
  match bN c.A.tm o.guard with
  |none=>none
  |some false=>ih {c with todo:=.inReg rest (i+1) dn draw::k,A:=c.A.put o.dst ip}
  |some true=>match ig G ih o (c.A.ctr+i) c.A with
   |none=>bif draw&& !(rest.isEmpty&&(abR o.after dn&&nC c.rs)) then none else match iR G ih o (c.A.ctr+i) c.A with
    |none=>none
    |some e=>eo {c.A with hp:=e.wr++c.A.hp} c.rs c.m e.res
   |some e=>bif draw then (bif jI o.after e dn then ih {c with todo:=.inReg rest (i+1) (lW i e dn) draw::k,A:=c.A.app o.dst e} else none)
    else match wl (aW c.A.hp) e.wr with
     | []=>ih {c with todo:=.inReg rest (i+1) dn draw::k,A:=c.A.app o.dst e}
     | D =>match ig G ih o (c.A.ctr+i) (c.A.frz D) with
           |none=>none
           |some e=>ih {c with todo:=.inReg rest (i+1) dn draw::k,A:=(c.A.frz D).app o.dst e}
end
section
variable (G:Nat->Fun)(n:Nat)
def run:Cfg->Df:=Nat.rec (λ_=>none) (λ_ ih=>jg G ih) n
theorem XX (c:Cfg):run G (n+1) c=jg G (run G n) c:=rfl
end
open Go.RowKit
structure Ctx where
 num:Nat->Nat
 tnum:Nat->Nat
 W0:World
 X:Nat->Prop
 S0:Nat->Prop
 π:Nat->Place
 n:Nat
 dfr:List Deferred:=[]
 dval:Value:=undef
abbrev HF:=Nat->C0
def aG (C:Ctx)(S:Nat->Prop)(β:Nat->Place)(used:Nat->Nat->Prop)(hp:HF)(w:World):Env where
 ro b o u:= ¬S b/\w.cell? ⟨b,o,none⟩=some u/\u.oneCell'=true
 lv k g:=match hp k with
  |some (g',_)=>if g'=g then some (β k) else none
  |none=>none
 used:=used
 num:=C.num
 tnum:=C.tnum
structure Kept (X:Nat->Prop)(w w':World):Prop where
 os:w'.os=w.os
 tape:w'.tape=w.tape
 output:w'.output=w.output
 size:w.heap.size<=w'.heap.size
 block: ∀b,b<w.heap.size-> ¬X b->w'.heap[b]? =w.heap[b]?
theorem Kept.refl (X:Nat->Prop)(w:World):Kept X w w:=⟨rfl,rfl,rfl,Be _,λ_ _ _=>rfl⟩
theorem Kept.trans {X Y:Nat->Prop}{a b c:World}(h:Kept X a b)(k:Kept Y b c)(hy: ∀x,x<a.heap.size->Y x->X x):Kept X a c:=
 ⟨k.os.trans h.os,k.tape.trans h.tape,k.output.trans h.output,AN h.size k.size,
  λi hi hx=>(k.block i (B7 hi h.size) λy=>hx (hy i hi y)).trans (h.block i hi hx)⟩
theorem Kept.below {w w':World}(h:Kept (λ_=>False) w w'):Below w.heap.size w w':=⟨h.os,h.tape,h.output,h.size,λk hk=>h.block k hk id⟩
section
variable (E:Env)(w:World)
def CellsOk (b o:Nat)(cs:CL):Prop:=
 ∀j,j<cs.length-> ∃u,w.cell? ⟨b,o+j,none⟩=some u/\w.frozen? ⟨b,o+j,none⟩=false/\u.oneCell'=true/\V E u (cs.getD j .any)
def ahe (b:Nat)(es:Ec):Prop:=
 ∃(ents:Array MapEntry)(clock:Nat),w.heap[b]? =some (.map ents clock)/\ents.size=es.length/\ ∀i (h:i<ents.size),∀e,es[i]? =some e->e.1.pure=true/\e.2.pure=true/\V E ents[i].key e.1/\V E ents[i].val e.2
def BlkOk (p:Place):Blk->Prop
 | .cells cs=>p.isNil=false/\CellsOk E w p.blk p.off cs
 | .vec s es=>p.sz=s/\(∀i,i<es.length->(es.getD i []).length=s)/\es.length<=p.cap/\(p.isNil=true->es= []/\p.cap=0)/\
   (∀j,j<p.cap*s->(w.cell? ⟨p.blk,p.off+j,none⟩).isSome=true/\w.frozen? ⟨p.blk,p.off+j,none⟩=false)/\
   ∀i,i<es.length->CellsOk E w p.blk (p.off+i*s) (es.getD i [])
 | .mp es=>p.isNil=false/\ahe E w p.blk es
end
structure HI (C:Ctx)(U:Nat->Prop)(hp:HF)(w:World)(S:Nat->Prop)(β:Nat->Place)(used:Nat->Nat->Prop):Prop where
 kept:Kept C.X C.W0 w
 s: ∀b,S b->b<w.heap.size/\(C.W0.heap.size<=b∨C.S0 b)
 s0: ∀b,C.S0 b->b<C.W0.heap.size
 keep: ∀b,C.S0 b-> ¬C.X b->S b
 us: ∀k g,used k g->U g
 at_: ∀k g b,hp k=some (g,b)->used k g/\((β k).isNil=false->S (β k).blk/\(C.W0.heap.size<=(β k).blk∨C.X (β k).blk))/\BlkOk (aG C S β used hp w) w (β k) b
 inj: ∀k k' x x',hp k=some x->hp k'=some x'->(β k).isNil=false->(β k').isNil=false->(β k).blk=(β k').blk->k=k'
 pl: ∀k b,hp k=some (0,b)->β k=C.π k
def SameB (w w':World)(b:Nat):Prop:=w'.heap[b]? =w.heap[b]?
section
variable {E E':Env}{w w':World}
theorem SameB.of_block {b:Nat}(h:w'.heap[b]? =w.heap[b]?):SameB w w' b:=h
theorem SameB.at {b:Nat}(h:SameB w w' b)(o:Nat):w'.cell? ⟨b,o,none⟩=w.cell? ⟨b,o,none⟩/\w'.frozen? ⟨b,o,none⟩=w.frozen? ⟨b,o,none⟩:=by
 have h':w'.heap[b]? =w.heap[b]? :=h;simp[World.cell?,World.frozen?,h']
theorem SameB.refl (w:World)(b:Nat):SameB w w b:=rfl
theorem CellsOk.mono {b o:Nat}{cs:CL}(l:E.le E')(hs:SameB w w' b)(h:CellsOk E w b o cs):CellsOk E' w' b o cs:=λj hj=>
 let ⟨u,h1,h2,h3,h4⟩:=h j hj
 ⟨u,(hs.at _).1.trans h1,(hs.at _).2.trans h2,h3,h4.mono l⟩
theorem BlkOk.mono {p:Place}{b:Blk}(l:E.le E')(hs:p.isNil=false->SameB w w' p.blk)(h:BlkOk E w p b):BlkOk E' w' p b:=by
 cases b with
 |cells cs=>exact ⟨h.1,h.2.mono l (hs h.1)⟩
 |mp es=>
  obtain ⟨h1,ents,cl,h2,h3,h4⟩:=h;exact ⟨h1,ents,cl,(hs h1).trans h2,h3,λi hi e he=>let ⟨a,b,c,d⟩:=h4 i hi e he;⟨a,b,c.mono l,d.mono l⟩⟩
 |vec s es=>
  obtain ⟨h1,h2,h3,h4,h5,h6⟩:=h;refine ⟨h1,h2,h3,h4,?_,?_⟩
  ·intro j hj
   cases hn:p.isNil with
   |true=>rw[(h4 hn).2] at hj;omega
   |false=>rw[((hs hn).at _).1,((hs hn).at _).2];exact h5 j hj
  ·intro i hi
   cases hn:p.isNil with
   |true=>rw[(h4 hn).1] at hi;simp at hi
   |false=>exact (h6 i hi).mono l (hs hn)
end
section
variable {C:Ctx} {U U':Nat->Prop} {hp hp':HF} {w w':World} {S S':Nat->Prop} {β β':Nat->Place} {used used':Nat->Nat->Prop}
theorem fF {k g:Nat}{p:Place}(h:(aG C S β used hp w).lv k g=some p): ∃b,hp k=some (g,b)/\p=β k:=by
 simp only[aG] at h;split at h
 ·rename_i g' b hk
  split at h
  ·rename_i e;subst e;exact ⟨b,hk,(Ai h).symm⟩
  ·cases h
 ·cases h
theorem bu {k g:Nat}{b:Blk}(h:hp k=some (g,b)):(aG C S β used hp w).lv k g=some (β k):=by simp[aG,h]
theorem kJ (hro: ∀b o u,¬S b->w.cell? ⟨b,o,none⟩=some u-> ¬S' b/\w'.cell? ⟨b,o,none⟩=some u)(hu: ∀k g,used k g->used' k g)(hlv: ∀k g b,hp' k=some (g,b)->used k g->(∃b',hp k=some (g,b'))/\β' k=β k):
  (aG C S β used hp w).le (aG C S' β' used' hp' w') where
 ro b o u h:=⟨(hro b o u h.1 h.2.1).1,(hro b o u h.1 h.2.1).2,h.2.2⟩
 lv k g p u h:=by
  obtain ⟨b,hk,rfl⟩:=fF h;obtain ⟨⟨b',hb'⟩,e⟩:=hlv k g b hk u;rw[bu hb',e]
 used:=hu
 num:=rfl
 tnum:=rfl
theorem HI.change (h:HI C U hp w S β used)(kept:Kept C.X C.W0 w')(hro: ∀b o u,¬S b->w.cell? ⟨b,o,none⟩=some u-> ¬S' b/\w'.cell? ⟨b,o,none⟩=some u)(hu: ∀k g,used k g->used' k g)(hlv: ∀k g b,hp' k=some (g,b)->used k g->(∃b',hp k=some (g,b'))/\β' k=β k)(hs: ∀b,S' b->b<w'.heap.size/\(C.W0.heap.size<=b∨C.S0 b))(hkeep: ∀b,C.S0 b-> ¬C.X b->S' b)(hus: ∀k g,used' k g->U' g)(hat: ∀k g b,hp' k=some (g,b)->(hp k=some (g,b)/\β' k=β k/\((β k).isNil=false->S' (β k).blk/\SameB w w' (β k).blk))∨(used' k g/\((β' k).isNil=false->S' (β' k).blk/\(C.W0.heap.size<=(β' k).blk∨C.X (β' k).blk))/\BlkOk (aG C S' β' used' hp' w') w' (β' k) b))(hinj: ∀k k' x x',hp' k=some x->hp' k'=some x'->(β' k).isNil=false->(β' k').isNil=false->(β' k).blk=(β' k').blk->k=k')(hpl: ∀k b,hp' k=some (0,b)->β' k=C.π k):
  HI C U' hp' w' S' β' used'/\(aG C S β used hp w).le (aG C S' β' used' hp' w'):=by
 have l:(aG C S β used hp w).le (aG C S' β' used' hp' w'):=kJ hro hu hlv;refine ⟨⟨kept,hs,h.s0,hkeep,hus,λk g b hk=>?_,hinj,hpl⟩,l⟩
 rcases hat k g b hk with ⟨h1,h2,h3⟩|h1
 ·obtain ⟨q1,q2,q3⟩:=h.at_ k g b h1
  rw[h2];exact ⟨hu _ _ q1,λhn=>⟨(h3 hn).1,(q2 hn).2⟩,q3.mono l λhn=>(h3 hn).2⟩
 ·exact h1
end
theorem Kept.drew {X:Nat->Prop}{a w:World}(h:Kept X a w):Kept X a w.drew:=⟨h.os,h.tape,h.output,h.size,h.block⟩
theorem HI.drew {C:Ctx}{U:Nat->Prop}{hp:HF}{w:World}{S:Nat->Prop}{β:Nat->Place}{used:Nat->Nat->Prop}(h:HI C U hp w S β used):HI C U hp w.drew S β used:=by
 have e:aG C S β used hp w.drew=aG C S β used hp w:=rfl;exact ⟨h.kept.drew,h.s,h.s0,h.keep,h.us,λk g b hk=>by rw[e];exact h.at_ k g b hk,h.inj,h.pl⟩
section
variable {α:Type}(f:Nat->α)(k:Nat)(v:α)
def up:Nat->α:=λx=>if x=k then v else f x
theorem d7:up f k v k=v:=by simp[up]
theorem cr {k x:Nat}(v:α)(h:x≠k):up f k v x=f x:=by simp[up,h]
end
section
variable {C:Ctx} {U:Nat->Prop} {hp:HF} {w:World} {S:Nat->Prop} {β:Nat->Place} {used:Nat->Nat->Prop}
theorem qf (w:World)(o:Obj)(b:Nat)(h:b<w.heap.size):(w.alloc o).heap[b]? =w.heap[b]? :=Below.heap_alloc w o b h
theorem qz {w:World}{b o:Nat}{u:Value}(h:w.cell? ⟨b,o,none⟩=some u):b<w.heap.size:=by
 rcases A4 b w.heap.size with h'|h'
 ·exact h'
 ·simp[World.cell?,Array.getElem?_eq_none h'] at h
section
variable (h:HI C U hp w S β used){g:Nat}(hg: ¬U g)(hg0:g≠0)
include h hg hg0
theorem HI.new (k:Nat)(o:Obj)(p:Place)(hpn:p.isNil=false->p.blk=w.heap.size)(b:Blk)(hb: ∀E,(aG C S β used hp w).le E->BlkOk E (w.alloc o) p b):
  ∃S' β' used',HI C (λx=>U x∨x=g) (up hp k (some (g,b))) (w.alloc o) S' β' used'/\
   (aG C S β used hp w).le (aG C S' β' used' (up hp k (some (g,b))) (w.alloc o))/\β' k=p/\used' k g:=by
 let S':Nat->Prop:=λx=>S x∨x=w.heap.size
 let β':=up β k p
 let used':Nat->Nat->Prop:=λk' g'=>used k' g'∨(k'=k/\g'=g)
 have hnu: ∀k',¬used k' g:=λk' u=>hg (h.us _ _ u)
 have hro: ∀b o' u,¬S b->w.cell? ⟨b,o',none⟩=some u-> ¬S' b/\(w.alloc o).cell? ⟨b,o',none⟩=some u:=λb o' u hS hc=>by
  have hlt:=qz hc;exact ⟨λhS'=>hS'.elim hS λe=>by omega,by rw[((SameB.of_block (qf w o b hlt)).at o').1];exact hc⟩
 have hlv: ∀k' g' b',up hp k (some (g,b)) k'=some (g',b')->used k' g'->(∃b'',hp k'=some (g',b''))/\β' k'=β k':=λk' g' b' hk hu=>by
  by_cases e:k'=k
  ·subst e;rw[d7] at hk;cases hk;exact absurd hu (hnu _)
  ·rw[cr _ _ e] at hk;exact ⟨⟨b',hk⟩,cr _ _ e⟩
 have l:(aG C S β used hp w).le (aG C S' β' used' (up hp k (some (g,b))) (w.alloc o)):=kJ hro (λ_ _=>.inl) hlv
 have hold: ∀k' x,hp k'=some x->(β k').isNil=false->(β k').blk<w.heap.size:=λk' x hk hn=>(h.s _ ((h.at_ k' x.1 x.2 hk).2.1 hn).1).1
 have hsz:w.heap.size<=(w.alloc o).heap.size:=by show _<=(w.heap.push o).size;simp
 have hpl: ∀k' b',up hp k (some (g,b)) k'=some (0,b')->β' k'=C.π k':=λk' b' hk=>by
  by_cases e:k'=k
  ·subst e;rw[d7] at hk;cases hk;exact absurd rfl hg0
  ·rw[cr _ _ e] at hk;rw[show β' k'=β k' from cr _ _ e];exact h.pl k' b' hk
 refine ⟨S',β',used',(h.change (U':=λx=>U x∨x=g) ?_ hro (λ_ _=>.inl) hlv ?_ (λb a c=>.inl (h.keep b a c)) ?_ ?_ ?_ hpl).1,l,d7 _ _ _,.inr ⟨rfl,rfl⟩⟩
 ·exact h.kept.trans (Y:=λ_=>False) ⟨rfl,rfl,rfl,hsz,λb hb _=>qf w o b hb⟩ (λ_ _=>False.elim)
 ·rintro x (hx|rfl)
  ·exact ⟨B7 (h.s x hx).1 hsz,(h.s x hx).2⟩
  ·exact ⟨by show _<(w.heap.push o).size;simp,.inl h.kept.size⟩
 ·rintro k' g' (hu|⟨_,rfl⟩)
  ·exact .inl (h.us _ _ hu)
  ·exact .inr rfl
 ·intro k' g' b' hk
  by_cases e:k'=k
  ·subst e;rw[d7] at hk;cases hk
   refine .inr ⟨.inr ⟨rfl,rfl⟩,?_,?_⟩
   ·rw[show β' k'=p from d7 _ _ _];exact λhn=>⟨.inr (hpn hn),.inl (by rw[hpn hn];exact h.kept.size)⟩
   ·rw[show β' k'=p from d7 _ _ _];exact hb _ l
  ·rw[cr _ _ e] at hk
   refine .inl ⟨hk,cr _ _ e,λhn=>⟨.inl ((h.at_ _ _ _ hk).2.1 hn).1,.of_block (qf w o _ (hold _ _ hk hn))⟩⟩
 ·intro k1 k2 x x' h1 h2 n1 n2 hbk
  by_cases e1:k1=k<;>by_cases e2:k2=k
  ·rw[e1,e2]
  ·subst e1
   rw[show β' k1=p from d7 _ _ _] at n1 hbk
   rw[show β' k2=β k2 from cr _ _ e2] at n2 hbk
   rw[cr _ _ e2] at h2;have:=hold k2 _ h2 n2;have:=hpn n1;omega
  ·subst e2
   rw[show β' k2=p from d7 _ _ _] at n2 hbk
   rw[show β' k1=β k1 from cr _ _ e1] at n1 hbk
   rw[cr _ _ e1] at h1;have:=hold k1 _ h1 n1;have:=hpn n2;omega
  ·rw[show β' k1=β k1 from cr _ _ e1] at n1 hbk
   rw[show β' k2=β k2 from cr _ _ e2] at n2 hbk
   rw[cr _ _ e1] at h1;rw[cr _ _ e2] at h2;exact h.inj k1 k2 _ _ h1 h2 n1 n2 hbk
theorem HI.newNil (k s:Nat):
  ∃S' β' used',HI C (λx=>U x∨x=g) (up hp k (some (g,.vec s []))) w S' β' used'/\
   (aG C S β used hp w).le (aG C S' β' used' (up hp k (some (g,.vec s []))) w)/\β' k=⟨0,0,0,s,true⟩/\used' k g:=by
 let p:Place:=⟨0,0,0,s,true⟩
 let β':=up β k p
 let used':Nat->Nat->Prop:=λk' g'=>used k' g'∨(k'=k/\g'=g)
 have hnu: ∀k',¬used k' g:=λk' u=>hg (h.us _ _ u)
 have hlv: ∀k' g' b',up hp k (some (g,.vec s [])) k'=some (g',b')->used k' g'->(∃b'',hp k'=some (g',b''))/\β' k'=β k':=λk' g' b' hk hu=>by
  by_cases e:k'=k
  ·subst e;rw[d7] at hk;cases hk;exact absurd hu (hnu _)
  ·rw[cr _ _ e] at hk;exact ⟨⟨b',hk⟩,cr _ _ e⟩
 have l:(aG C S β used hp w).le (aG C S β' used' (up hp k (some (g,.vec s []))) w):=kJ (λ_ _ _ a b=>⟨a,b⟩) (λ_ _=>.inl) hlv
 have hpl: ∀k' b',up hp k (some (g,.vec s [])) k'=some (0,b')->β' k'=C.π k':=λk' b' hk=>by
  by_cases e:k'=k
  ·subst e;rw[d7] at hk;cases hk;exact absurd rfl hg0
  ·rw[cr _ _ e] at hk;rw[show β' k'=β k' from cr _ _ e];exact h.pl k' b' hk
 refine ⟨S,β',used',(h.change (U':=λx=>U x∨x=g) h.kept (λ_ _ _ a b=>⟨a,b⟩) (λ_ _=>.inl) hlv h.s h.keep ?_ ?_ ?_ hpl).1,l,d7 _ _ _,.inr ⟨rfl,rfl⟩⟩
 ·rintro k' g' (hu|⟨_,rfl⟩)
  ·exact .inl (h.us _ _ hu)
  ·exact .inr rfl
 ·intro k' g' b' hk
  by_cases e:k'=k
  ·subst e;rw[d7] at hk;cases hk
   refine .inr ⟨.inr ⟨rfl,rfl⟩,?_,?_⟩
   ·rw[show β' k'=p from d7 _ _ _];exact λhn=>by cases hn
   ·rw[show β' k'=p from d7 _ _ _]
    exact ⟨rfl,by simp,by simp,λ_=>⟨rfl,rfl⟩,λj hj=>by simp[p] at hj,by simp⟩
  ·rw[cr _ _ e] at hk
   exact .inl ⟨hk,cr _ _ e,λhn=>⟨((h.at_ _ _ _ hk).2.1 hn).1,.refl _ _⟩⟩
 ·intro k1 k2 x x' h1 h2 n1 n2 hbk
  by_cases e1:k1=k
  ·rw[e1,show β' k=p from d7 _ _ _] at n1;cases n1
  by_cases e2:k2=k
  ·rw[e2,show β' k=p from d7 _ _ _] at n2;cases n2
  rw[show β' k1=β k1 from cr _ _ e1] at n1 hbk
  rw[show β' k2=β k2 from cr _ _ e2] at n2 hbk
  rw[cr _ _ e1] at h1;rw[cr _ _ e2] at h2;exact h.inj k1 k2 _ _ h1 h2 n1 n2 hbk
end
section
variable (w:World)(g o:Nat)(vs:List Value)
theorem l9 {i:Nat}(hne:i≠g):(w.setCells g o vs).heap[i]? =w.heap[i]? :=by
 induction vs generalizing w o with
 |nil=>rfl
 |cons v r ih=>
  show ((w.setCell ⟨g,o,none⟩ v).setCells g (o+1) r).heap[i]? =_
  rw[ih,Below.heap_setCell _ _ _ _ hne]
theorem Ef:(w.setCells g o vs).os=w.os/\(w.setCells g o vs).tape=w.tape/\(w.setCells g o vs).output=w.output/\(w.setCells g o vs).heap.size=w.heap.size:=by
 induction vs generalizing w o with
 |nil=>exact ⟨rfl,rfl,rfl,rfl⟩
 |cons v r ih=>
  obtain ⟨h1,h2,h3,h4⟩:=ih (w.setCell ⟨g,o,none⟩ v) (o+1);exact ⟨h1,h2,h3,h4.trans (by simp[World.setCell])⟩
end
theorem HI.write (h:HI C U hp w S β used){k g0:Nat}{b0:Blk}(hk:hp k=some (g0,b0))(hn:(β k).isNil=false)(o:Nat)(vs:List Value)(g:Nat)(b:Blk)(hg:g=g0∨(¬U g/\g≠0))(hb: ∀E,(aG C S β used hp w).le E->BlkOk E (w.setCells (β k).blk o vs) (β k) b):
  ∃used',HI C (λx=>U x∨x=g) (up hp k (some (g,b))) (w.setCells (β k).blk o vs) S β used'/\
   (aG C S β used hp w).le (aG C S β used' (up hp k (some (g,b))) (w.setCells (β k).blk o vs))/\used' k g:=by
 let used':Nat->Nat->Prop:=λk' g'=>used k' g'∨(k'=k/\g'=g)
 obtain ⟨q1,q2,q3⟩:=h.at_ k g0 b0 hk;have hS:=(q2 hn).1;have hSx:=(q2 hn).2
 have hro: ∀b o' u,¬S b->w.cell? ⟨b,o',none⟩=some u-> ¬S b/\(w.setCells (β k).blk o vs).cell? ⟨b,o',none⟩=some u:=λb o' u hs hc=>
  ⟨hs,by rw[((SameB.of_block (l9 w _ o vs λe=>hs (by rw[e];exact hS))).at o').1];exact hc⟩
 have hlv: ∀k' g' b',up hp k (some (g,b)) k'=some (g',b')->used k' g'->(∃b'',hp k'=some (g',b''))/\β k'=β k':=λk' g' b' hk' hu=>by
  by_cases e:k'=k
  ·subst e;rw[d7] at hk';cases hk'
   rcases hg with rfl|hg
   ·exact ⟨⟨b0,hk⟩,rfl⟩
   ·exact absurd (h.us _ _ hu) hg.1
  ·rw[cr _ _ e] at hk';exact ⟨⟨b',hk'⟩,rfl⟩
 have l:(aG C S β used hp w).le (aG C S β used' (up hp k (some (g,b))) (w.setCells (β k).blk o vs)):=kJ hro (λ_ _=>.inl) hlv
 obtain ⟨k1,k2,k3,k4⟩:=Ef w (β k).blk o vs
 have hpl: ∀k' b',up hp k (some (g,b)) k'=some (0,b')->β k'=C.π k':=λk' b' hk'=>by
  by_cases e:k'=k
  ·subst e;rw[d7] at hk';cases hk'
   rcases hg with rfl|hg
   ·exact h.pl _ _ hk
   ·exact absurd rfl hg.2
  ·rw[cr _ _ e] at hk';exact h.pl k' b' hk'
 have hother: ∀k' x,k'≠k->hp k'=some x->(β k').isNil=false->(β k').blk≠(β k).blk:=λk' x e hk' hn' hbk=>e (h.inj k' k _ _ hk' hk hn' hn hbk)
 refine ⟨used',(h.change (U':=λx=>U x∨x=g) ?_ hro (λ_ _=>.inl) hlv ?_ h.keep ?_ ?_ ?_ hpl).1,l,.inr ⟨rfl,rfl⟩⟩
 ·refine ⟨k1.trans h.kept.os,k2.trans h.kept.tape,k3.trans h.kept.output,by rw[k4];exact h.kept.size,λb hb hx=>?_⟩
  rw[l9 w _ o vs (i:=b) (λe=>by subst e;rcases hSx with q|q;omega;exact hx q)]
  exact h.kept.block b hb hx
 ·intro x hx;rw[k4];exact h.s x hx
 ·rintro k' g' (hu|⟨_,rfl⟩)
  ·exact .inl (h.us _ _ hu)
  ·exact .inr rfl
 ·intro k' g' b' hk'
  by_cases e:k'=k
  ·subst e;rw[d7] at hk';cases hk'
   exact .inr ⟨.inr ⟨rfl,rfl⟩,λ_=>⟨hS,hSx⟩,hb _ l⟩
  ·rw[cr _ _ e] at hk'
   exact .inl ⟨hk',rfl,λhn'=>⟨((h.at_ _ _ _ hk').2.1 hn').1,.of_block (l9 w _ o vs (hother _ _ e hk' hn'))⟩⟩
 ·intro k1 k2 x x' h1 h2 n1 n2 hbk
  have r: ∀k' x,up hp k (some (g,b)) k'=some x-> ∃x',hp k'=some x':=λk' x hx=>by
   by_cases e:k'=k
   ·exact ⟨_,e▸hk⟩
   ·rw[cr _ _ e] at hx;exact ⟨x,hx⟩
  obtain ⟨y1,e1⟩:=r k1 x h1;obtain ⟨y2,e2⟩:=r k2 x' h2;exact h.inj k1 k2 _ _ e1 e2 n1 n2 hbk
def dC (hp:HF)(D:CT):HF:=λk=>if D.contains k then none else hp k
theorem HI.drop (h:HI C U hp w S β used)(D:CT):
  let S':Nat->Prop:=λb=>S b/\ ¬ ∃k∈D,∃x,hp k=some x/\(β k).isNil=false/\(β k).blk=b
  HI C U (dC hp D) w S' β used/\(aG C S β used hp w).le (aG C S' β used (dC hp D) w):=by
 intro S'
 have r: ∀k x,dC hp D k=some x-> ¬k∈D/\hp k=some x:=λk x hx=>by
  unfold dC at hx;split at hx
  ·cases hx
  ·rename_i q;exact ⟨by simpa using q,hx⟩
 refine h.change h.kept (λb o u hs hc=>⟨λhs'=>hs hs'.1,hc⟩) (λ_ _=>id) (λk g b hk hu=>⟨⟨b,(r k _ hk).2⟩,rfl⟩) (λb hb=>h.s b hb.1) (λb hb hx=>⟨h.keep b hb hx,?_⟩) h.us ?_ ?_ λk b hk=>h.pl k b (r k _ hk).2
 ·rintro ⟨k,_,x,hk,hn,rfl⟩
  rcases ((h.at_ k x.1 x.2 hk).2.1 hn).2 with q|q
  ·have:=h.s0 _ hb;omega
  ·exact hx q
 ·intro k g b hk
  obtain ⟨hD,hk⟩:=r k _ hk;refine .inl ⟨hk,rfl,λhn=>⟨⟨((h.at_ k g b hk).2.1 hn).1,?_⟩,.refl _ _⟩⟩
  rintro ⟨k',hk',x,hx,hn',hb⟩
  exact hD ((h.inj k' k _ _ hx hk hn' hn hb)▸hk')
 ·intro k k' x x' h1 h2 n1 n2 hb
  exact h.inj k k' _ _ (r k _ h1).2 (r k' _ h2).2 n1 n2 hb
theorem Ma {E E':Env}{p:Place}{b:Blk}{S':Nat->Prop}(h:BlkOk E w p b)(hro: ∀bk o u,w.cell? ⟨bk,o,none⟩=some u->u.oneCell'=true->bk=p.blk->p.isNil=false->E'.ro bk o u)(l:E.le E'):T8 E' p b:=by
 cases b with
 |mp es=>trivial
 |cells cs=>
  obtain ⟨hn,hc⟩:=h;refine ⟨λj=>(w.cell? ⟨p.blk,p.off+j,none⟩).getD undef,λj hj=>?_⟩
  obtain ⟨u,h1,_,h3,h4⟩:=hc j hj;simp only[h1,Option.getD_some];exact ⟨hro _ _ _ h1 h3 rfl hn,h4.mono l⟩
 |vec s es=>
  obtain ⟨h1,h2,h3,h4,h5,h6⟩:=h;refine ⟨h1,h2,λhn=>(h4 hn).1,λi j=>(w.cell? ⟨p.blk,p.off+i*s+j,none⟩).getD undef,λi hi j hj=>?_⟩
  have hn:p.isNil=false:=by
   cases hn:p.isNil with
   |false=>rfl
   |true=>rw[(h4 hn).1] at hi;simp at hi
  obtain ⟨u,q1,_,q3,q4⟩:=h6 i hi j (by rw[h2 i hi];exact hj)
  simp only[q1,Option.getD_some];exact ⟨hro _ _ _ q1 q3 rfl hn,q4.mono l⟩
theorem HI.frz (h:HI C U hp w S β used)(D:CT):
  let S':Nat->Prop:=λb=>S b/\ ¬ ∃k∈D,∃x,hp k=some x/\(β k).isNil=false/\(β k).blk=b
  RenOk (aG C S β used hp w) (aG C S' β used (dC hp D) w) (j5 hp D):=by
 intro S';have l:=(h.drop D).2;refine ⟨l.ro,rfl,rfl,λk g hu=>?_⟩
 unfold j5;cases hD:D.contains k with
 |false=>trivial
 |true=>
  dsimp only[cond];cases hk:hp k with
  |none=>trivial
  |some x=>
   obtain ⟨g',b⟩:=x
   by_cases e:g'=g
   ·subst e
    simp only[if_true];cases hb:b.pure with
    |false=>trivial
    |true=>
     refine ⟨β k,bu hk,?_⟩;refine Ma (S':=S') (h.at_ k g' b hk).2.2 (λbk o u hc h1 hbk hn=>⟨λhs=>hs.2 ⟨k,by simpa using hD,_,hk,hn,hbk.symm⟩,hc,h1⟩) l
   ·simp[e]
end
open Go.RowKit
structure FSt where
 tm:Nat->AV
 hp:HF
def hov:aq->HF->HF
 | [],f=>f
 |(k,v)::r,f=>up (hov r f) k v
theorem fU (l:aq)(hp:aq):aW (l++hp)=hov l (aW hp):=by
 funext k
 induction l with
 |nil=>rfl
 |cons x r ih=>
  obtain ⟨t,v⟩:=x;simp only[B4,aW,hov,up]
  by_cases e:t=k
  ·simp[e]
  ·rw[Ac e,Ac (λh=>e h.symm)];exact ih
def FSt.app (F:FSt)(dst:C8)(e:Eff):FSt:= {tm:=λt=>if dst=some t then e.res else F.tm t,hp:=hov e.wr F.hp}
def FSt.put (F:FSt)(dst:C8)(v:AV):FSt:= {F with tm:=λt=>if dst=some t then v else F.tm t}
section
variable (A:AS)(dst:C8)
def AS.fs:FSt:= {tm:=bJ A.tm,hp:=aW A.hp}
theorem AS.fs_put (v:AV):(A.put dst v).fs=A.fs.put dst v:=by
 cases dst with
 |none=>simp[AS.put,AS.fs,FSt.put]
 |some d=>
  simp only[AS.put,AS.fs,FSt.put,FSt.mk.injEq,and_true]
  funext t
  simp[bJ]
theorem AS.fs_app (e:Eff):(A.app dst e).fs=A.fs.app dst e:=by
 cases dst with
 |none=>simp[AS.app,AS.put,AS.fs,FSt.app,fU]
 |some d=>
  simp only[AS.app,AS.put,AS.fs,FSt.app,fU,FSt.mk.injEq,and_true]
  funext t
  simp[bJ]
end
def tmv (C:Ctx)(a:Act)(t:Nat):Value:=if t=D0 then C.dval else a.tmps.getD t undef
theorem xo {C:Ctx}{a:Act}{t:Nat}(h:t<D0):tmv C a t=a.tmps.getD t undef:=Ac (by omega)
structure RelC (C:Ctx)(U:Nat->Prop)(F:FSt)(a:Act)(w:World)(S:Nat->Prop)(β:Nat->Place)(used:Nat->Nat->Prop):Prop where
 hi:HI C U F.hp w S β used
 size:a.tmps.size=C.n/\C.n<=D0
 defers:a.defers=C.dfr
 tm: ∀t,V (aG C S β used F.hp w) (tmv C a t) (F.tm t)
def Rel (C:Ctx)(U:Nat->Prop)(F:FSt)(a:Act)(w:World):Prop:= ∃S β used,RelC C U F a w S β used
def Or1 (U:Nat->Prop)(g:Nat):Nat->Prop:=λx=>U x∨x=g
section
variable {C:Ctx}{U U':Nat->Prop}
theorem HI.wide {hp:HF}{w:World}{S:Nat->Prop}{β:Nat->Place}{used:Nat->Nat->Prop}(h:HI C U hp w S β used)(hU: ∀x,U x->U' x):HI C U' hp w S β used:=
 ⟨h.kept,h.s,h.s0,h.keep,λk g u=>hU _ (h.us k g u),h.at_,h.inj,h.pl⟩
theorem Act.getD_put (a:Act)(dst:C8)(v:Value)(t:Nat)(h: ∀d,dst=some d->d<a.tmps.size):
  (a.put dst v).tmps.getD t undef=if dst=some t then v else a.tmps.getD t undef:=by
 cases dst with
 |none=>simp[Act.put]
 |some d=>
  have hd:=h d rfl;simp only[Act.put,Option.some.injEq]
  by_cases e:d=t
  ·subst e;simp[Array.getD,hd]
  ·rw[Ac e]
   simp[Ak,Array.getElem?_setIfInBounds_ne e]
theorem RelC.step {F:FSt}{a:Act}{w w':World}{S S':Nat->Prop}{β β':Nat->Place}{used used':Nat->Nat->Prop}{hp':HF}(h:RelC C U F a w S β used)(hi:HI C U' hp' w' S' β' used')(l:(aG C S β used F.hp w).le (aG C S' β' used' hp' w'))(dst:C8)(hd: ∀d,dst=some d->d<C.n){v:Value}{r:AV}(hv:V (aG C S' β' used' hp' w') v r):
  RelC C U' {tm:=λt=>if dst=some t then r else F.tm t,hp:=hp'} (a.put dst v) w' S' β' used':=by
 refine ⟨hi,⟨?_,h.size.2⟩,?_,λt=>?_⟩
 ·rw[<-h.size.1];cases dst<;>simp[Act.put]
 ·rw[<-h.defers];cases dst<;>rfl
 ·have e:tmv C (a.put dst v) t=if dst=some t then v else tmv C a t:=by
   unfold tmv
   by_cases e:t=D0
   ·subst e
    have:dst≠some D0:=λq=>by have:=hd _ q;have:=h.size.2;omega
    simp[this]
   ·rw[Ac e,Ac e,Act.getD_put _ _ _ _ (λd e=>by rw[h.size.1];exact hd d e)]
  rw[e];dsimp only;split
  ·exact hv
  ·exact (h.tm t).mono l
end
def Out1 (P:Program)(C:Ctx)(U:Nat->Prop)(hp:HF)(w:World)(S:Nat->Prop)(β:Nat->Place)(used:Nat->Nat->Prop)(g:Nat)(e:Eff)(r:Result Next):Prop:=
 ∃v w',(r= .ok (.value v) w'∨(r= .ok .skip w'/\v=undef))/\
  ∃S' β' used',HI C (Or1 U g) (hov e.wr hp) w' S' β' used'/\(aG C S β used hp w).le (aG C S' β' used' (hov e.wr hp) w')/\V (aG C S' β' used' (hov e.wr hp) w') v e.res
section
variable {P:Program} {C:Ctx} {U:Nat->Prop} {hp:HF} {w:World} {S:Nat->Prop} {β:Nat->Place} {used:Nat->Nat->Prop} {g:Nat}
theorem Out1.val (h:HI C U hp w S β used){e:Eff}(hw:e.wr= []){r:Result Next}{v:Value}(hr:r= .ok (.value v) w)(hv:V (aG C S β used hp w) v e.res):Out1 P C U hp w S β used g e r:=by
 refine ⟨v,w,.inl hr,S,β,used,?_,?_,?_⟩<;>rw[hw]
 ·exact h.wide λ_=>.inl
 ·exact .refl _
 ·exact hv
end
section
variable {E:Env}
section
variable {v:Value}
theorem V.int_inv {k:IntKind}{n:Int}(h:V E v (.int k n)):v= .int k n:=by cases h;rfl
theorem V.bool_inv {b:Bool}(h:V E v (.bool b)):v= .bool b:=by cases h;rfl
theorem V.str_inv {s:CF}(h:V E v (.str s)):v= .string ⟨s.toArray⟩:=by cases h;rfl
theorem V.con_inv {v v':Value}(h:V E v (.con v')):v=v':=by cases h;rfl
theorem V.agg_inv {as:CL}(h:V E v (.agg as)): ∃cs:Array Value,v= .agg cs/\cs.size=as.length/\(∀i,i<as.length->(cs.getD i undef).oneCell'=true)/\ ∀i,i<as.length->V E (cs.getD i undef) (as.getD i .any):=by
 cases h with
 |agg cs _ a b c=>exact ⟨cs,rfl,a,b,c⟩
theorem V.tup_inv {as:CL}(h:V E v (.tup as)): ∃cs:Array Value,v= .tuple cs/\cs.size=as.length/\ ∀i,i<as.length->V E (cs.getD i undef) (as.getD i .any):=by
 cases h with
 |tup cs _ a b=>exact ⟨cs,rfl,a,b⟩
theorem V.flat {a:AV}(h:V E v a)(hf:a.flat=true):v.oneCell'=true:=by
 cases h with
 |ref _ _ _ _ h|er _ _ _ _ _ h=>obtain ⟨b,o,rfl⟩:=h;rfl
 |vs _ _ _ _ h|vw _ _ _ _ _ h=>obtain ⟨b,o,rfl⟩:=h;rfl
 |mp _ _ _ h=>obtain ⟨r,rfl⟩:=h;rfl
 |_=>first|rfl|(simp[AV.flat] at hf;done)|(simpa[AV.flat] using hf)
theorem V.ref_inv {k g o:Nat}(h:V E v (.ref k g o)):(∃b q,v= .pointer (some ⟨b,q,none⟩))/\E.used k g/\ ∀p,E.lv k g=some p->v= .pointer (some ⟨p.blk,p.off+o,none⟩):=by
 cases h with
 |ref _ _ _ _ a b c=>exact ⟨a,b,c⟩
theorem V.er_inv {k g i o:Nat}(h:V E v (.er k g i o)):(∃b q,v= .pointer (some ⟨b,q,none⟩))/\E.used k g/\ ∀p,E.lv k g=some p->v= .pointer (some ⟨p.blk,p.off+i*p.sz+o,none⟩):=by
 cases h with
 |er _ _ _ _ _ a b c=>exact ⟨a,b,c⟩
theorem V.vs_inv {k g n:Nat}(h:V E v (.vs k g n)):(∃a c,v= .slice a n c)/\E.used k g/\ ∀p,E.lv k g=some p->v= .slice (p.base 0) n p.cap/\n<=p.cap:=by
 cases h with
 |vs _ _ _ _ a b c=>exact ⟨a,b,c⟩
theorem V.vw_inv {k g o n:Nat}(h:V E v (.vw k g o n)):(∃a c,v= .slice a n c)/\E.used k g/\ ∀p,E.lv k g=some p-> ∃c q,v= .slice (p.base q) n c/\n<=c/\(n≠0->q=o*p.sz/\p.isNil=false):=by
 cases h with
 |vw _ _ _ _ _ a b c=>exact ⟨a,b,c⟩
theorem V.rp_inv {cs:CL}(h:V E v (.rp cs)): ∃b off,∃u:Nat->Value,v= .pointer (some ⟨b,off,none⟩)/\(∀j,j<cs.length->E.ro b (off+j) (u j))/\ ∀j,j<cs.length->V E (u j) (cs.getD j .any):=by
 cases h with
 |rp b off _ u hb hh=>exact ⟨b,off,u,rfl,hb,hh⟩
theorem V.fn_inv {f:Nat}{as:CL}(h:V E v (.fn f as)): ∃cs:Array Value,v= .func (.func (E.num (bV f))) (fnF f cs) (fnC f cs)/\cs.size=as.length/\ ∀i,i<as.length->V E (cs.getD i undef) (as.getD i .any):=by
 cases h with
 |fn _ cs _ a b=>exact ⟨cs,rfl,a,b⟩
theorem V.sl_inv {s:Nat}{es:CS}(h:V E v (.sl s es)): ∃a c,∃u:Nat->Nat->Value,v= .slice a es.length c/\es.length<=c/\(∀i,i<es.length->(es.getD i []).length=s)/\
  (es≠ []-> ∃b off,a=some ⟨b,off,none⟩/\ ∀i,i<es.length-> ∀j,j<s->E.ro b (off+i*s+j) (u i j))/\ ∀i,i<es.length-> ∀j,j<s->V E (u i j) ((es.getD i []).getD j .any):=by
 cases h with
 |sl _ _ a n c hn hs hc u hb hh=>subst hn;exact ⟨a,c,u,rfl,hc,hs,hb,hh⟩
theorem V.cells {a:AV}(h:V E v a){cs:CL}(hc:dJ a=some cs):
  v.cells.size=cs.length/\(∀i,i<cs.length->(v.cells.getD i undef).oneCell'=true)/\ ∀i,i<cs.length->V E (v.cells.getD i undef) (cs.getD i .any):=by
 by_cases ha: ∃as,a= .agg as
 ·obtain ⟨as,rfl⟩:=ha
  obtain rfl:as=cs:=by simpa[dJ] using hc
  obtain ⟨c,rfl,h1,h2,h3⟩:=h.agg_inv;exact ⟨h1,h2,h3⟩
 ·have hc':a.flat=true/\[a]=cs:=by
   cases a<;>simp[dJ,AV.flat,cond] at hc⊢ <;>first|exact hc|(exact absurd ⟨_,rfl⟩ ha)|skip
   all_goals (rename_i v';cases hv:v'.oneCell'<;>simp_all)
  obtain ⟨hf,rfl⟩:=hc';have h1:=h.flat hf;have hcell:v.cells= #[v]:=by cases v<;>first|rfl|(simp[Value.oneCell'] at h1)
  rw[hcell];refine ⟨rfl,λi hi=>?_,λi hi=>?_⟩<;>(obtain rfl:i=0:=by simpa using hi)
  ·simpa using h1
  ·simpa using h
end
end
section
variable {P:Program} {w:World}
section
variable {t:TypeId}
section
variable {i:TypeInfo}{z:Value}(h:P.info? t=some i)
include h
theorem pY:(sizeOf t).run P w= .ok i.size w:=by simp[sizeOf,typeInfo,h]
theorem qm (hz:i.zero=some z):(zeroValue t).run P w= .ok z w:=by simp[zeroValue,typeInfo,h,hz]
end
def qG (P:Program)(t:TypeId):Option C8:=
 match P.underlying t,P.info? t with
 |some (.struct _),some i|some (.array _ _),some i=>some (some i.size)
 |some _,some i=>if i.size=1 then some none else none
 |_,_=>none
theorem xt {sz:C8}(h:qG P t=some sz):
  ∃d i,P.underlying t=some d/\P.info? t=some i/\
   ((sz=some i.size/\(isAgg t).run P w= .ok true w)∨(sz=none/\i.size=1/\(isAgg t).run P w= .ok false w)):=by
 unfold qG at h;cases hu:P.underlying t with
 |none=>rw[hu] at h;simp at h
 |some d=>
  cases hi:P.info? t with
  |none=>rw[hu,hi] at h;cases d<;>simp at h
  |some i=>
   rw[hu,hi] at h;refine ⟨d,i,rfl,rfl,?_⟩;have hr:=run_underlying (w:=w) hu;cases d<;>simp at h<;>simp[isAgg,hr]<;>first|exact h.symm|(exact ⟨h.2.symm,h.1⟩)
theorem Nx {i:TypeInfo}(hi:P.info? t=some i)(ha:(isAgg t).run P w= .ok true w){b o:Nat}{cs:List Value}(hl:cs.length=i.size)(hc: ∀j,j<cs.length->w.cell? ⟨b,o+j,none⟩=some (cs.getD j undef)):(loadVar t ⟨b,o,none⟩).run P w= .ok (.agg cs.toArray) w:=by
 have:=run_loadCells_list (P:=P) w ⟨b,o,none⟩ cs (λj v hv=>by
  have hj:j<cs.length:=by
   rcases A4 j cs.length with h|h
   ·exact h
   ·rw[AD h] at hv;cases hv
  rw[Addr.add_lit,hc j hj,Aj,hv];rfl)
 rw[hl] at this;simp[loadVar,ha,pY hi,this]
theorem Nw (ha:(isAgg t).run P w= .ok false w){b o:Nat}{v:Value}(hc:w.cell? ⟨b,o,none⟩=some v):(loadVar t ⟨b,o,none⟩).run P w= .ok v w:=by
 simp[loadVar,ha,hc]
end
end
structure AtAddr (E:Env)(w:World)(v:Value)(cs:CL):Prop where
 ex: ∃b o,v= .pointer (some ⟨b,o,none⟩)/\ ∀j,j<cs.length-> ∃u,w.cell? ⟨b,o+j,none⟩=some u/\u.oneCell'=true/\V E u (cs.getD j .any)
section
variable {C:Ctx} {U:Nat->Prop} {hp:HF} {w:World} {S:Nat->Prop} {β:Nat->Place} {used:Nat->Nat->Prop}
theorem nk {α:Type}(l:List α)(i:Nat)(v:α)(j:Nat)(d:α)(h:i<l.length):(l.set i v).getD j d=if j=i then v else l.getD j d:=by
 simp only[Aj,List.getElem?_set]
 by_cases e:i=j
 ·subst e;simp[h]
 ·rw[Ac e,Ac (λx=>e x.symm)]
theorem yU (h:HI C U hp w S β used){v:Value}{a:AV}(hv:V (aG C S β used hp w) v a){cs:CL}{r:CT}(hc:cM hp a=some (cs,r))(hne:cs≠ []):AtAddr (aG C S β used hp w) w v cs:=by
 cases a with
 |rp cs'=>
  obtain ⟨rfl,rfl⟩:cs'=cs/\[]=r:=by simpa[cM] using hc
  cases hv with
  |rp b off _ u hb hh=>exact ⟨b,off,rfl,λj hj=>⟨u j,(hb j hj).2.1,(hb j hj).2.2,hh j hj⟩⟩
 |ref k g o=>
  simp only[cM] at hc;cases hk:hp k with
  |none=>rw[hk] at hc;cases hc
  |some x=>
   obtain ⟨g',b⟩:=x;rw[hk] at hc;cases b with
   |vec=>cases hc
   |mp=>cases hc
   |cells old=>
    dsimp only at hc;split at hc
    ·rename_i e;subst e
     obtain ⟨rfl,_⟩:old.drop o=cs/\[k]=r:=by simpa using hc
     have hb:=(h.at_ k g' _ hk).2.2;cases hv with
     |ref _ _ _ _ hf hu hx=>
      have:=hx _ (bu hk);subst this;refine ⟨_,_,rfl,λj hj=>?_⟩
      obtain ⟨u,h1,h2,h3,h4⟩:=hb.2 (o+j) (by simp at hj;omega)
      exact ⟨u,by rw[Cl];exact h1,h3,by rw[cG];exact h4⟩
    ·cases hc
 |er k g i o=>
  simp only[cM] at hc;cases hk:hp k with
  |none=>rw[hk] at hc;cases hc
  |some x=>
   obtain ⟨g',b⟩:=x;rw[hk] at hc;cases b with
   |cells=>cases hc
   |mp=>cases hc
   |vec s es=>
    dsimp only at hc;split at hc
    ·rename_i e;subst e
     split at hc
     ·rename_i hi
      obtain ⟨rfl,_⟩:(es.getD i []).drop o=cs/\[k]=r:=by simpa using hc
      obtain ⟨h1,h2,h3,h4,h5,h6⟩:=(h.at_ k g' _ hk).2.2;cases hv with
      |er _ _ _ _ _ hf hu hx=>
       have:=hx _ (bu hk);subst this;refine ⟨_,_,rfl,λj hj=>?_⟩
       obtain ⟨u,q1,q2,q3,q4⟩:=h6 i hi (o+j) (by simp at hj⊢;omega)
       exact ⟨u,by rw[h1];rw[show (β k).off+i*s+o+j=(β k).off+i*s+(o+j) from by omega];exact q1,q3,by rw[cG];exact q4⟩
     ·cases hc
    ·cases hc
 |_=>simp[cM] at hc
theorem Cr {P:Program}{E:Env}{t:TypeId}{sz:C8}(hs:qG P t=some sz){v:Value}{cs:CL}(hat:AtAddr E w v cs){r:AV}(hp:fD sz cs=some r):
  ∃u,(Instr.loadAt t v).run P w= .ok u w/\V E u r:=by
 obtain ⟨b,o,rfl,hc⟩:=hat.ex;obtain ⟨d,i,_,hi,⟨rfl,ha⟩|⟨rfl,h1,ha⟩⟩:=xt (w:=w) hs
 ·simp only[fD] at hp
  split at hp
  ·rename_i hle
   obtain rfl:=Ai hp
   have hex: ∀j,∃u:Value,j<i.size->w.cell? ⟨b,o+j,none⟩=some u/\u.oneCell'=true/\V E u (cs.getD j .any):=λj=>by
    by_cases hj:j<i.size
    ·obtain ⟨u,q⟩:=hc j (by omega);exact ⟨u,λ_=>q⟩
    ·exact ⟨undef,λq=>absurd q hj⟩
   let f:Nat->Value:=λj=>Classical.choose (hex j)
   have hf: ∀j,j<i.size->w.cell? ⟨b,o+j,none⟩=some (f j)/\(f j).oneCell'=true/\V E (f j) (cs.getD j .any):=λj hj=>Classical.choose_spec (hex j) hj
   have aW: ∀j,j<i.size->((List.range i.size).map f).getD j undef=f j:=λj hj=>by simp[Aj,hj]
   refine ⟨.agg ((List.range i.size).map f).toArray,?_,?_⟩
   ·simp[Instr.loadAt,Instr.sureAddr]
    exact Nx hi ha (by simp) λj hj=>by rw[aW j (by simpa using hj)];exact (hf j (by simpa using hj)).1
   ·refine .agg _ _ (by simp;omega) (λj hj=>?_) λj hj=>?_
    ·have hj':j<i.size:=by simp at hj;omega
     have:((List.range i.size).map f).toArray.getD j undef=f j:=by simp[Ak,hj']
     rw[this];exact (hf j hj').2.1
    ·have hj':j<i.size:=by simp at hj;omega
     have:((List.range i.size).map f).toArray.getD j undef=f j:=by simp[Ak,hj']
     rw[this,cu _ _ _ _ hj'];exact (hf j hj').2.2
  ·cases hp
 ·cases cs with
  |nil=>cases hp
  |cons c r'=>
   obtain rfl:c=r:=by simpa[fD] using hp
   obtain ⟨u,q1,q2,q3⟩:=hc 0 (by simp)
   exact ⟨u,by simp[Instr.loadAt,Instr.sureAddr];exact Nw ha (by simpa using q1),by simpa using q3⟩
theorem yJ (h:HI C U hp w S β used){v:Value}{a:AV}(hv:V (aG C S β used hp w) v a){es:CS}{r:CT}(hc:cK hp a=some (es,r)):
  ∃ao c s,v= .slice ao es.length c/\es.length<=c/\(∀i,i<es.length->(es.getD i []).length=s)/\
   (es≠ []-> ∃b o,ao=some ⟨b,o,none⟩/\ ∀i,i<es.length-> ∀j,j<s-> ∃u,w.cell? ⟨b,o+i*s+j,none⟩=some u/\u.oneCell'=true/\V (aG C S β used hp w) u ((es.getD i []).getD j .any)):=by
 cases a with
 |sl s es'=>
  obtain ⟨rfl,rfl⟩:es'=es/\[]=r:=by simpa[cK] using hc
  cases hv with
  |sl _ _ ao n c hn hs hcap u hb hh=>
   subst hn;refine ⟨ao,c,s,rfl,hcap,hs,λhe=>?_⟩
   obtain ⟨b,o,e,q⟩:=hb he;exact ⟨b,o,e,λi hi j hj=>⟨u i j,(q i hi j hj).2.1,(q i hi j hj).2.2,hh i hi j hj⟩⟩
 |con x=>
  have hx:=hv.con_inv;subst hx;unfold cK at hc;split at hc
  case h_2 e=>
   obtain ⟨rfl,rfl⟩: []=es/\[]=r:=by simpa using hc
   cases e;exact ⟨none,0,0,rfl,Be _,by simp,by simp⟩
  all_goals first|(rename_i e;cases e;done)|cases hc
 |vs k g n=>
  simp only[cK] at hc;cases hk:hp k with
  |none=>rw[hk] at hc;cases hc
  |some x=>
   obtain ⟨g',b⟩:=x;rw[hk] at hc;cases b with
   |cells=>cases hc
   |mp=>cases hc
   |vec s es'=>
    dsimp only at hc;split at hc
    ·rename_i e;subst e
     split at hc
     ·rename_i hn
      obtain ⟨rfl,_⟩:es'.take n=es/\[k]=r:=by simpa using hc
      obtain ⟨h1,h2,h3,h4,h5,h6⟩:=(h.at_ k g' _ hk).2.2;cases hv with
      |vs _ _ _ _ hf hu hx=>
       obtain ⟨rfl,hcap⟩:=hx _ (bu hk);have hl:(es'.take n).length=n:=by simp;omega
       refine ⟨_,_,s,by rw[hl],by rw[hl];exact hcap,λi hi=>?_,λhe=>?_⟩
       ·rw[cu _ _ _ _ (by omega)];exact h2 i (by omega)
       ·have hnn:(β k).isNil=false:=by
         cases q:(β k).isNil with
         |false=>rfl
         |true=>rw[(h4 q).1] at he;simp at he
        refine ⟨(β k).blk,(β k).off,by simp[Place.base,hnn],λi hi j hj=>?_⟩
        obtain ⟨u,q1,q2,q3,q4⟩:=h6 i (by omega) j (by rw[h2 i (by omega)];exact hj)
        exact ⟨u,q1,q3,by rw[cu _ _ _ _ (by omega)];exact q4⟩
     ·cases hc
    ·cases hc
 |vw k g o n=>
  simp only[cK] at hc;cases hk:hp k with
  |none=>rw[hk] at hc;cases hc
  |some x=>
   obtain ⟨g',b⟩:=x;rw[hk] at hc;cases b with
   |cells=>cases hc
   |mp=>cases hc
   |vec s es'=>
    dsimp only at hc;split at hc
    ·rename_i e;subst e
     split at hc
     ·rename_i hn
      obtain ⟨rfl,_⟩:(es'.drop o).take n=es/\[k]=r:=by simpa using hc
      obtain ⟨h1,h2,h3,h4,h5,h6⟩:=(h.at_ k g' _ hk).2.2;cases hv with
      |vw _ _ _ _ _ hf hu hx=>
       obtain ⟨c,o',rfl,hcap,ho'⟩:=hx _ (bu hk);have hl:((es'.drop o).take n).length=n:=by simp;omega
       refine ⟨_,c,s,by rw[hl],by rw[hl];exact hcap,λi hi=>?_,λhe=>?_⟩
       ·rw[cu _ _ _ _ (by omega),cG];exact h2 _ (by omega)
       ·have hn0:n≠0:=by rintro rfl;simp at he
        have hnn:(β k).isNil=false:=by
         cases q:(β k).isNil with
         |false=>rfl
         |true=>rw[(h4 q).1] at he;simp at he
        have:=(ho' hn0).1;subst this
        refine ⟨(β k).blk,(β k).off+o*s,by simp[Place.base,hnn,h1],λi hi j hj=>?_⟩
        obtain ⟨u,q1,q2,q3,q4⟩:=h6 (o+i) (by omega) j (by rw[h2 _ (by omega)];exact hj)
        refine ⟨u,?_,q3,by rw[cu _ _ _ _ (by omega),cG];exact q4⟩
        rw[show (β k).off+o*s+i*s+j=(β k).off+(o+i)*s+j from by rw[Nat.add_mul];omega];exact q1
     ·cases hc
    ·cases hc
 |_=>simp[cK] at hc
end
open Go.RowKit
structure Nums where
 num:Nat->Nat
 fid:Nat->Nat
 tnum:Nat->Nat
 tid:Nat->Nat
 gl:Nat->Option CL
 go:Nat->Option Obj
def dP {α β:Type}(f:α->Option β):List α->Option (List β)
 | []=>some []
 |a::r=>match f a,dP f r with
  |some b,some bs=>some (b::bs)
  |_,_=>none
def lG {α β:Type}(f:α->Option β):Option α->Option (Option β)
 |none=>some none
 |some a=>(f a).map some
def Ab:Value->AV
 | .int k n=>.int k n
 | .bool b=>.bool b
 | .string s=>.str s.data.toList
 |v=>.con v
def ofV:Value->D6
 | .agg cs=>if cs.all (·.oneCell')=true then some (.agg (cs.toList.map Ab)) else none
 | .tuple _=>none
 |v=>some (Ab v)
theorem Xa (E:Env)(v:Value):V E v (Ab v):=by
 cases v<;>simp only[Ab]<;>first|exact .int _ _|exact .bool _|exact .con _|skip
 rename_i s;have:s=⟨s.data.toList.toArray⟩:=by simp
 rw[this];exact .str _
theorem ab5 {E:Env}{v:Value}{a:AV}(h:ofV v=some a):V E v a:=by
 cases v with
 |agg cs=>
  simp only[ofV] at h;split at h
  ·rename_i hc
   obtain rfl:=Ai h;refine .agg cs _ (by simp) (λi hi=>?_) λi hi=>?_
   ·have hi':i<cs.size:=by simpa using hi
    rw[Array.all_eq_true] at hc;simpa[Array.getD,hi'] using hc i hi'
   ·have hi':i<cs.size:=by simpa using hi
    have:(List.map Ab cs.toList).getD i .any=Ab (cs.getD i undef):=by simp[Aj,Array.getD,hi']
    rw[this];exact Xa E _
  ·cases h
 |tuple _=>cases h
 |_=>simp only[ofV] at h;obtain rfl:=Ai h;exact Xa E _
def aH (N:Nums):Operand->Eb
 | .tmp t=>if t<D0 then some (.t t) else none
 | .const v=>(ofV v).map .c
 | .func f=>if N.num (N.fid f)=f/\isB (N.fid f)=false then some (.c (.fn (N.fid f) [])) else none
 | .global g=>match N.gl g with
  |some cs=>if aP cs=true then some (.c (.rp cs)) else none
  |none=>none
section
variable (P:Program)
def fj (t:TypeId):C8:=(P.info? t).map (·.size)
def km (t:TypeId):D6:=((P.info? t).bind (·.zero)).bind ofV
def na (t:TypeId):Option (Nat->Option (Nat×Nat)):=
 match P.underlying t with
 |some (.struct fs)=>(fs.toList.mapM (λf=>(P.info? f.type).map λi=>(f.offset,i.size))).map λl=>λi=>l[i]?
 |some (.array _ e)=>(fj P e).map λs=>λi=>some (i*s,s)
 |_=>none
def lj (rec:TypeId->Option D4):Nat->List Field->Option D4
 |_,[]=>some []
 | n,f::r=>if f.offset=n/\f.name≠ "_" then
   match rec f.type with
   |some ks=>match lj rec (n+ks.length) r with
    |some ks'=>some (ks++ks')
    |none=>none
   |none=>none
  else none
def jl (P:Program):Nat->TypeId->Option D4
 |0,_=>none
 |d+1,t=>
  match P.underlying t with
  |some .bool=>if fj P t=some 1 then some [.bool] else none
  |some (.int _)=>if fj P t=some 1 then some [.int] else none
  |some .string=>if fj P t=some 1 then some [.str] else none
  |some (.struct fs)=>if P.stoodInHeld t=false then (lj (jl P d) 0 fs.toList).bind λks=>if fj P t=some ks.length then some ks else none else none
  |_=>none
def kM:Operand->Bool
 | .const _=>true
 |_=>false
def qx (t:TypeId)(neg:Bool)(x y:Operand)(a b:Opd):Option AOp:=
 match P.underlying t with
 |some (.int _)|some .string=>some (.bin (if neg then .neq else .eql) a b)
 |some .bool=>some (.eqb neg a b)
 |some (.pointer _)=>some (.eqn .ptr neg a b)
 |some (.slice _)=>some (.eqn .slice neg a b)
 |some (.map _ _)=>some (.eqn .map neg a b)
 |some (.func _ _ _)=>some (.eqn .func neg a b)
 |some (.interface _)=>if (kM x||kM y)=true then some (.eqn .iface neg a b) else none
 |some (.struct _)=>if P.eqGuardType P.depth t=false then (jl P 40 t).map λks=>.eqs ks neg a b else none
 |_=>none
def bx (N:Nums)(o:Oper):Option AOp:=
 match o.op with
 | .move x| .assign x=>(aH N x).map .mv
 | .pick c a b=>match aH N c,aH N a,aH N b with
  |some c,some a,some b=>some (.pick c a b)
  |_,_,_=>none
 | .box _ x=>(aH N x).map .box
 | .alloc t=>(km P t).map .alloc
 | .build t parts=>
  match na P t,(km P t).bind dJ,dP (aH N) (parts.toList.map (·.2)) with
  |some pl,some z,some xs=>(dP pl (parts.toList.map (·.1))).map λps=>.build z ps xs
  |_,_,_=>none
 | .buildSlice t n parts=>
  match P.underlying t with
  |some (.slice e)=>match fj P e,(km P e).bind dJ,dP (aH N) (parts.toList.map (·.2)) with
   |some s,some z,some xs=>if z.length=s/\s≠0 then some (.bsl s z n (parts.toList.map (·.1)) xs) else none
   |_,_,_=>none
  |_=>none
 | .load t a=>match qG P t,aH N a with
  |some sz,some a=>if sz≠some 0 then some (.load sz a) else none
  |_,_=>none
 | .store t a x=>match fj P t,aH N a,aH N x with
  |some s,some a,some x=>some (.store s a x)
  |_,_,_=>none
 | .fieldAddr t x f=>match P.underlying t with
  |some (.struct fs)=>match fs[f]? with
   |some f=>match fj P f.type,aH N x with
    |some s,some x=>if s≠0 then some (.fadr f.offset x) else none
    |_,_=>none
   |none=>none
  |_=>none
 | .indexAddr t x i=>match P.underlying t with
  |some (.slice e)=>match fj P e,aH N x,aH N i with
   |some s,some x,some i=>some (.iadr s x i)
   |_,_,_=>none
  |some (.array n e)=>match fj P e,aH N x,aH N i with
   |some s,some x,some i=>some (.iarr n s x i)
   |_,_,_=>none
  |_=>none
 | .index t x i=>match P.underlying t with
  |some .string=>match aH N x,aH N i with
   |some x,some i=>some (.istr x i)
   |_,_=>none
  |some (.array n e)=>match fj P e,qG P e,aH N x,aH N i with
   |some s,some sz,some x,some i=>some (.ival n s sz x i)
   |_,_,_,_=>none
  |_=>none
 | .binOp op t x y _=>match aH N x,aH N y with
  |some a,some b=>match op with
   | .eql=>qx P t false x y a b
   | .neq=>qx P t true x y a b
   |op=>some (.bin op a b)
  |_,_=>none
 | .unOp op _ x=>(aH N x).map (.un op)
 | .convert s d x=>match P.underlying s,P.underlying d,aH N x with
  |some (.int _),some (.int k),some x=>some (.conv k x)
  |some (.slice e),some .string,some x=>if P.underlying e matches some (.int .u8) then some (.b2s x) else none
  |_,_,_=>none
 | .makeFunc (.func f) first cap=>if N.num (N.fid f)=f/\isB (N.fid f)=false then (if first.size=0 then (dP (aH N) cap.toList).map (.mkfn (N.fid f)) else if cap.size=0/\isB (N.fid f+BB)=true/\N.fid f+BB-BB=N.fid f then (dP (aH N) first.toList).map (.mkfn (N.fid f+BB)) else none) else none
 | .makeSlice t n c=>match P.underlying t with
  |some (.slice e)=>match P.info? e,(km P e).bind dJ,aH N n,aH N c with
   |some i,some z,some n,some c=>if i.size≠0 then some (.mksl i.size i.bytes z n c) else none
   |_,_,_,_=>none
  |_=>none
 | .slice t x lo hi mx=>match P.underlying t with
  |some (.slice e)=>match fj P e,aH N x,lG (aH N) lo,lG (aH N) hi,lG (aH N) mx with
   |some s,some x,some lo,some hi,some mx=>some (.slc s x lo hi mx)
   |_,_,_,_,_=>none
  |some .string=>match aH N x,lG (aH N) lo,lG (aH N) hi,mx with
   |some x,some lo,some hi,none=>some (.slstr x lo hi)
   |_,_,_,_=>none
  |some (.array n e)=>match fj P e,aH N x,lo,hi,mx with
   |some s,some x,none,none,none=>some (.slarr n s x none none none)
   |_,_,_,_,_=>none
  |_=>none
 | .makeInterface t x=>if N.tnum (N.tid t)=t then (match P.underlying t with
  |some (.struct _)=>(aH N x).map (.mkifc (N.tid t))
  |_=>none) else none
 | .panic x=>(aH N x).map .panic
 | .extract x i=>(aH N x).map λx=>.ext x i
 | .nilCheck x=>(aH N x).map .nilck
 | .call {callee:=.builtin b,args,argTypes}=>match b,args.toList,argTypes.toList with
  | .len,[x],[t]=>match P.underlying t with
   |some .string=>(aH N x).map (.len true)
   |some (.slice _)=>(aH N x).map (.len false)
   |_=>none
  | .append,[x,y],[t,u]=>match P.underlying t with
   |some (.slice e)=>match P.info? e,aH N x,aH N y with
    |some i,some x,some y=>if ((i.zero.map (·.cells.size))=some i.size/\i.size≠0)/\(P.underlying u matches some (.slice _)|some .string) then some (.app i.size i.bytes x y) else none
    |_,_,_=>none
   |_=>none
  | .min,xs,_=>(dP (aH N) xs).map (.minmax false)
  | .max,xs,_=>(dP (aH N) xs).map (.minmax true)
  |_,_,_=>none
 | .call {callee:=.value f,args,.. }=>match aH N f,dP (aH N) args.toList with
  |some f,some xs=>some (.call f xs)
  |_,_=>none
 |_=>none
end
structure Sit (P:Program)(C:Ctx)(U:Nat->Prop)(hp:HF)(w:World)(S:Nat->Prop)(β:Nat->Place)(used:Nat->Nat->Prop)(g:Nat)(N:Nums)(ρ:Operand->Value)(ev:Opd->AV):Prop where
 hi:HI C U hp w S β used
 num:C.num=N.num
 tnum:C.tnum=N.tnum
 at_: ∀x y,aH N x=some y->V (aG C S β used hp w) (ρ x) (ev y)
 fresh: ¬U g
 g0:g≠0
theorem pj {α β:Type}{f:α->Option β}{a:α}{r:List α}{bs:List β}(h:dP f (a::r)=some bs): ∃b bs',f a=some b/\dP f r=some bs'/\bs=b::bs':=by
 simp only[dP] at h;cases h1:f a with
 |none=>rw[h1] at h;cases h
 |some b=>
  cases h2:dP f r with
  |none=>rw[h1,h2] at h;cases h
  |some bs'=>rw[h1,h2] at h;exact ⟨b,bs',rfl,rfl,(Ai h).symm⟩
section
variable {P:Program} {C:Ctx} {U:Nat->Prop} {hp:HF} {w:World} {S:Nat->Prop} {β:Nat->Place} {used:Nat->Nat->Prop} {g:Nat} {N:Nums} {ρ:Operand->Value} {ev:Opd->AV}
theorem Sit.list (h:Sit P C U hp w S β used g N ρ ev): ∀(xs:List Operand)(ys:DO),dP (aH N) xs=some ys->
  xs.length=ys.length/\ ∀i,i<ys.length->V (aG C S β used hp w) ((xs.map ρ).getD i undef) ((ys.map ev).getD i .any)
 | [],ys,e=>by
  obtain rfl: []=ys:=by simpa[dP] using e
  exact ⟨rfl,λi hi=>by simp at hi⟩
 |x::r,ys,e=>by
  obtain ⟨y,ys',h1,h2,rfl⟩:=pj e;obtain ⟨q1,q2⟩:=Sit.list h r ys' h2;refine ⟨by simp[q1],λi hi=>?_⟩
  cases i with
  |zero=>simpa using h.at_ x y h1
  |succ i=>simpa using q2 i (by simpa using hi)
section
variable (h:Sit P C U hp w S β used g N ρ ev){o:Oper}
include h
theorem agy {x:Operand}{y:Opd}(ho:o.op= .move x∨o.op= .assign x)(hx:aH N x=some y){key:Nat}{e:Eff}(he:aX (.mv y) g key [ev y] hp=some e):
  Out1 P C U hp w S β used g e ((execOp ρ o).run P w):=by
 obtain rfl:({res:=ev y}:Eff)=e:=by simpa[aX] using he
 exact .val h.hi rfl (v:=ρ x) (by rcases ho with ho|ho<;>simp[execOp,ho]) (h.at_ x y hx)
theorem ac2 {c a b:Operand}{c' a' b':Opd}(ho:o.op= .pick c a b)(hc:aH N c=some c')(ha:aH N a=some a')(hb:aH N b=some b'){key:Nat}{e:Eff}(he:aX (.pick c' a' b') g key [ev c',ev a',ev b'] hp=some e):Out1 P C U hp w S β used g e ((execOp ρ o).run P w):=by
 have v1:=h.at_ c c' hc;simp only[aX] at he;split at he
 ·rename_i t ht
  rw[ht] at v1;obtain rfl:=Ai he;refine .val h.hi rfl (v:=if t then ρ a else ρ b) (by simp[execOp,ho,v1.bool_inv,asBool]) ?_
  cases t
  ·exact h.at_ b b' hb
  ·exact h.at_ a a' ha
 ·cases he
theorem ac5 {t:TypeId}{a:Operand}{a':Opd}{sz:C8}(ho:o.op= .load t a)(hs:qG P t=some sz)(h0:sz≠some 0)(ha:aH N a=some a'){key:Nat}{e:Eff}(he:aX (.load sz a') g key [ev a'] hp=some e):Out1 P C U hp w S β used g e ((execOp ρ o).run P w):=by
 simp only[aX] at he;split at he
 ·rename_i cs r hc
  cases hp':fD sz cs with
  |none=>rw[hp'] at he;cases he
  |some v=>
   rw[hp'] at he;obtain rfl:=Ai he
   have hne:cs≠ []:=by
    rintro rfl
    cases sz with
    |none=>cases hp'
    |some n=>
     simp only[fD,Bb] at hp';split at hp'
     ·rename_i q;exact h0 (by rw[Nat.le_zero.1 q])
     ·cases hp'
   obtain ⟨u,q1,q2⟩:=Cr hs (yU h.hi (h.at_ a a' ha) hc hne) hp';exact .val h.hi rfl (v:=u) (by simp[execOp,ho,q1]) q2
 ·cases he
end
theorem fe {t:TypeId}{s:Nat}(h:fj P t=some s):(sizeOf t).run P w= .ok s w:=by
 unfold fj at h;cases hi:P.info? t with
 |none=>rw[hi] at h;cases h
 | some i => rw[hi] at h;obtain rfl:i.size=s:=by simpa using h
             exact pY hi
theorem ada (h:Sit P C U hp w S β used g N ρ ev){o:Oper}{t:TypeId}{a:Operand}{a':Opd}{fi:Nat}{fs:Array Field}{f:Field}{s:Nat}(ho:o.op= .fieldAddr t a fi)(hu:P.underlying t=some (.struct fs))(hf:fs[fi]? =some f)(hs:fj P f.type=some s)(h0:s≠0)(ha:aH N a=some a'){key:Nat}{e:Eff}(he:aX (.fadr f.offset a') g key [ev a'] hp=some e):Out1 P C U hp w S β used g e ((execOp ρ o).run P w):=by
 have hrun: ∀b q,ρ a= .pointer (some ⟨b,q,none⟩)->(execOp ρ o).run P w= .ok (.value (.pointer (some ⟨b,q+f.offset,none⟩))) w:=λb q e=>by
  simp[execOp,ho,Instr.fieldAt,run_underlying hu,hf,e,Instr.sureAddr,fieldPlace,fe hs,h0,Addr.add_lit]
 have v1:=h.at_ a a' ha;simp only[aX] at he;split at he
 ·rename_i k g' q ht
  obtain rfl:=Ai he;rw[ht] at v1;obtain ⟨⟨b,q',e1⟩,hus,hx⟩:=v1.ref_inv;refine .val h.hi rfl (hrun b q' e1) (.ref _ _ _ _ ⟨_,_,rfl⟩ hus λp hp=>?_)
  have:=hx p hp;rw[e1] at this;simp only[Value.pointer.injEq,Option.some.injEq,Addr.mk.injEq] at this;obtain ⟨rfl,rfl,_⟩:=this;rw[Cl]
 ·rename_i k g' i q ht
  obtain rfl:=Ai he;rw[ht] at v1;obtain ⟨⟨b,q',e1⟩,hus,hx⟩:=v1.er_inv;refine .val h.hi rfl (hrun b q' e1) (.er _ _ _ _ _ ⟨_,_,rfl⟩ hus λp hp=>?_)
  have:=hx p hp;rw[e1] at this;simp only[Value.pointer.injEq,Option.some.injEq,Addr.mk.injEq] at this;obtain ⟨rfl,rfl,_⟩:=this;rw[Cl]
 ·rename_i cs ht
  obtain rfl:=Ai he;rw[ht] at v1;obtain ⟨b,off,u,e1,hb,hh⟩:=v1.rp_inv;refine .val h.hi rfl (hrun b off e1) (.rp _ _ _ (λj=>u (f.offset+j)) (λj hj=>?_) λj hj=>?_)
  ·rw[Cl];exact hb _ (by simp at hj;omega)
  ·rw[cG];exact hh _ (by simp at hj;omega)
 ·cases he
end
open Go.RowKit
section
variable {P:Program} {C:Ctx} {U:Nat->Prop} {hp:HF} {w:World} {S:Nat->Prop} {β:Nat->Place} {used:Nat->Nat->Prop} {g:Nat} {N:Nums} {ρ:Operand->Value} {ev:Opd->AV}
theorem acR {E:Env}{t:TypeId}{sz:C8}(hs:qG P t=some sz){cs:Array Value}{as:CL}(hl:cs.size=as.length)(hf: ∀i,i<as.length->(cs.getD i undef).oneCell'=true)(hv: ∀i,i<as.length->V E (cs.getD i undef) (as.getD i .any)){off:Nat}{r:AV}(hp:fD sz (as.drop off)=some r): ∃u,(part t cs off).run P w= .ok u w/\V E u r:=by
 obtain ⟨d,i,_,hi,⟨rfl,ha⟩|⟨rfl,h1,ha⟩⟩:=xt (w:=w) hs
 ·simp only[fD] at hp
  split at hp
  ·rename_i hle
   obtain rfl:=Ai hp;refine ⟨.agg (cs.extract off (off+i.size)),by simp[part,ha,pY hi],?_⟩
   have hle':off+i.size<=as.length∨i.size=0:=by simp at hle;omega
   have aW: ∀j,j<i.size->(cs.extract off (off+i.size)).getD j undef=cs.getD (off+j) undef:=λj hj=>by
    simp only[Ak,Array.getElem?_extract];rw[Ad (by omega)]
   have hlen:((as.drop off).take i.size).length=i.size:=by simp at hle⊢;omega
   refine .agg _ _ (by rw[hlen];simp;omega) (λj hj=>?_) λj hj=>?_
   ·rw[hlen] at hj;rw[aW j hj];exact hf _ (by omega)
   ·rw[hlen] at hj;rw[aW j hj,cu _ _ _ _ hj,cG];exact hv _ (by omega)
  ·cases hp
 ·simp only[fD] at hp
  cases hd:as.drop off with
  |nil=>rw[hd] at hp;cases hp
  |cons c rest=>
   rw[hd] at hp;obtain rfl:c=r:=by simpa using hp
   have hlt:off<as.length:=by
    rcases A4 off as.length with h|h
    ·exact h
    ·rw[List.drop_eq_nil_of_le h] at hd;cases hd
   have hc:as.getD off .any=c:=by
    have:=cG as off 0 .any;rw[hd] at this;simpa using this.symm
   have:=hv off hlt;rw[hc] at this;refine ⟨cs.getD off undef,?_,this⟩;have hlt':off<cs.size:=by omega
   simp[part,ha,hlt',Array.getD]
section
variable (h:Sit P C U hp w S β used g N ρ ev){o:Oper}{op:UnOp}{t:TypeId}{a:Operand}{a':Opd}
include h
section
variable {a i:Operand}{a' i':Opd}{n:Nat}{el:TypeId}{s:Nat}{sz:C8}(ho:o.op= .index t a i)
include ho
theorem ac6 (hu:P.underlying t=some (.array n el))(hs:fj P el=some s)(hsz:qG P el=some sz)(ha:aH N a=some a')(hi:aH N i=some i'){key:Nat}{e:Eff}(he:aX (.ival n s sz a' i') g key [ev a',ev i'] hp=some e):Out1 P C U hp w S β used g e ((execOp ρ o).run P w):=by
 have v1:=h.at_ a a' ha;have v2:=h.at_ i i' hi;simp only[aX] at he;split at he
 ·rename_i k j as hi' ht
  rw[ht] at v1;rw[hi'] at v2;split at he
  ·rename_i hj
   cases hp':fD sz (as.drop (j.toNat*s)) with
   |none=>rw[hp'] at he;cases he
   |some r=>
    rw[hp'] at he;obtain rfl:=Ai he;obtain ⟨cs,e1,h1,h2,h3⟩:=v1.agg_inv;obtain ⟨u,q1,q2⟩:=acR (w:=w) hsz h1 h2 h3 hp';have hj':0<=j/\j<(n:Int):=⟨hj.1,by omega⟩
    exact .val h.hi rfl (v:=u) (by simp[execOp,ho,Instr.index,v2.int_inv,asIntOf,run_underlying hu,e1,hj',fe hs,q1]) q2
  ·cases he
 ·cases he
theorem ac7 (hu:P.underlying t=some .string)(ha:aH N a=some a')(hi:aH N i=some i'){key:Nat}{e:Eff}(he:aX (.istr a' i') g key [ev a',ev i'] hp=some e):Out1 P C U hp w S β used g e ((execOp ρ o).run P w):=by
 have v1:=h.at_ a a' ha;have v2:=h.at_ i i' hi;simp only[aX] at he;split at he
 ·rename_i k j l hi' ht
  rw[ht] at v1;rw[hi'] at v2;split at he
  ·rename_i hj
   obtain rfl:=Ai he
   have hb:(⟨l.toArray⟩:ByteArray)[j.toNat]? =some (l.getD j.toNat 0):=by
    have hlt:j.toNat<(⟨l.toArray⟩:ByteArray).size:=by show _<l.toArray.size;simpa using hj.2
    rw[getElem?_pos (⟨l.toArray⟩:ByteArray) j.toNat hlt];show some (l.toArray[j.toNat]'_)=_
    simp[Aj,hj.2]
   exact .val h.hi rfl (v:=.int .u8 (l.getD j.toNat 0).toNat) (by simp[execOp,ho,Instr.index,v2.int_inv,v1.str_inv,asIntOf,run_underlying hu,hj.1,hb]) (.int _ _)
  ·cases he
 ·cases he
end
theorem adb {s d:TypeId}{a:Operand}{a':Opd}{k0 k:IntKind}(ho:o.op= .convert s d a)(hs:P.underlying s=some (.int k0))(hd:P.underlying d=some (.int k))(ha:aH N a=some a'){key:Nat}{e:Eff}(he:aX (.conv k a') g key [ev a'] hp=some e):Out1 P C U hp w S β used g e ((execOp ρ o).run P w):=by
 have v1:=h.at_ a a' ha;simp only[aX] at he;split at he
 ·rename_i k' n ht
  rw[ht] at v1;obtain rfl:=Ai he;exact .val h.hi rfl (v:=.int k (k.wrap n)) (by simp[execOp,ho,convert,run_underlying hs,run_underlying hd,v1.int_inv,Conv.intToInt]) (.int _ _)
 ·cases he
theorem agx (ho:o.op= .unOp op t a)(ha:aH N a=some a'){key:Nat}{e:Eff}(he:aX (.un op a') g key [ev a'] hp=some e):Out1 P C U hp w S β used g e ((execOp ρ o).run P w):=by
 have v1:=h.at_ a a' ha;simp only[aX,unA] at he;split at he
 ·rename_i k n ht
  rw[ht] at v1;obtain rfl:=Ai he;exact .val h.hi rfl (v:=.int k (k.wrap (0-n))) (by simp[execOp,ho,Op.unary,Op.intArith,v1.int_inv]) (.int _ _)
 ·rename_i k n ht
  rw[ht] at v1;obtain rfl:=Ai he;exact .val h.hi rfl (v:=.int k (intBits .xor k (if k.signed then-1 else k.max) n)) (by simp[execOp,ho,Op.unary,Op.intBits,intBits,v1.int_inv]) (.int _ _)
 ·rename_i b ht
  rw[ht] at v1;obtain rfl:=Ai he;exact .val h.hi rfl (v:=.bool !b) (by simp[execOp,ho,Op.unary,v1.bool_inv]) (.bool _)
 ·cases he
theorem aet {i:Nat}(ho:o.op= .extract a i)(ha:aH N a=some a'){key:Nat}{e:Eff}(he:aX (.ext a' i) g key [ev a'] hp=some e):Out1 P C U hp w S β used g e ((execOp ρ o).run P w):=by
 have v1:=h.at_ a a' ha;simp only[aX] at he;split at he
 ·rename_i vs ht
  rw[ht] at v1;split at he
  ·rename_i hi
   obtain rfl:=Ai he;obtain ⟨cs,e1,h1,h2⟩:=v1.tup_inv;have hi':i<cs.size:=by omega
   exact .val h.hi rfl (v:=cs.getD i undef) (by simp[execOp,ho,Instr.extract,e1,hi',Array.getD]) (h2 i hi)
  ·cases he
 ·cases he
theorem ac4 {f:FuncId}{first cap:Array Operand}{xs:DO}(ho:o.op= .makeFunc (.func f) first cap)(hn:N.num (N.fid f)=f)(hb:isB (N.fid f)=false)(hf:first.size=0)(hx:dP (aH N) cap.toList=some xs){key:Nat}{e:Eff}(he:aX (.mkfn (N.fid f) xs) g key (xs.map ev) hp=some e):Out1 P C U hp w S β used g e ((execOp ρ o).run P w):=by
 obtain rfl:({res:=.fn (N.fid f) (xs.map ev)}:Eff)=e:=by simpa[aX] using he
 obtain ⟨q1,q2⟩:=h.list _ _ hx;have hfirst:first= #[]:=Array.eq_empty_of_size_eq_zero hf
 have hnum:(aG C S β used hp w).num (N.fid f)=f:=by show C.num _=f;rw[h.num];exact hn
 refine .val h.hi rfl (v:=.func (.func f) #[] (cap.map ρ)) (by simp[execOp,ho,Instr.makeFunc,hfirst]) ?_
 have:=V.fn (E:=aG C S β used hp w) (N.fid f) (cap.map ρ) (xs.map ev) (by simpa using q1) (λi hi=>by
  have:=q2 i (by simpa using hi)
  rwa [show (cap.map ρ).getD i undef=(cap.toList.map ρ).getD i undef from by simp[Ak,Aj]])
 unfold bV fnF fnC at this;rw[hb] at this;dsimp only[cond] at this;rwa [hnum] at this
end
theorem V.fnB {E:Env}{k q:Nat}{cs:Array Value}{as:CL}(h1:isB k=true)(h2:k-BB=q)(hl:cs.size=as.length)(h: ∀i,i<as.length->V E (cs.getD i undef) (as.getD i .any)):V E (.func (.func (E.num q)) cs #[]) (.fn k as):=by
 have e1:bV k=q:=by unfold bV;rw[h1,cond_true];exact h2
 have e2:fnF k cs=cs:=by unfold fnF;rw[h1,cond_true]
 have e3:fnC k cs= #[]:=by unfold fnC;rw[h1,cond_true]
 have:=V.fn k cs as hl h;rw[e1,e2,e3] at this;exact this
theorem YI (h:Sit P C U hp w S β used g N ρ ev){o:Oper}{f:FuncId}{first cap:Array Operand}{xs:DO}(ho:o.op= .makeFunc (.func f) first cap)(hn:N.num (N.fid f)=f)(hf:cap.size=0)(hx:dP (aH N) first.toList=some xs){k:Nat}(hk:isB k=true/\k-BB=N.fid f){key:Nat}{e:Eff}(he:aX (.mkfn k xs) g key (xs.map ev) hp=some e):Out1 P C U hp w S β used g e ((execOp ρ o).run P w):=by
 obtain rfl:({res:=.fn k (xs.map ev)}:Eff)=e:=by simpa[aX] using he
 obtain ⟨q1,q2⟩:=h.list _ _ hx;have hcap:cap= #[]:=Array.eq_empty_of_size_eq_zero hf;have hnum:(aG C S β used hp w).num (N.fid f)=f:=by show C.num _=f;rw[h.num];exact hn
 refine .val h.hi rfl (v:=.func (.func f) (first.map ρ) #[]) (by simp[execOp,ho,Instr.makeFunc,hcap]) ?_
 have:=V.fnB (E:=aG C S β used hp w) (cs:=first.map ρ) (as:=xs.map ev) hk.1 hk.2 (by simpa using q1) (λi hi=>by
  have:=q2 i (by simpa using hi)
  rwa [show (first.map ρ).getD i undef=(first.toList.map ρ).getD i undef from by simp[Ak,Aj]])
 rwa [hnum] at this
theorem OX {E:Env}{v:Value}{a:AV}(h:V E v a){n:Nat}(hl:lL a=some n): ∃q c,v= .slice q n c/\(a= .con (.slice none 0 0)->q=none/\c=0):=by
 cases a with
 |sl s es=>obtain ⟨q,c',_,e1,_⟩:=h.sl_inv;refine ⟨q,c',?_,λe=>by cases e⟩;rw[e1];simp[lL] at hl;rw[hl]
 |con x=>
  have:=h.con_inv;unfold lL at hl;split at hl<;>first|(rename_i e2;cases e2;done)|cases hl|skip
  rename_i e2;cases e2
  exact ⟨_,_,this,λ_=>⟨rfl,rfl⟩⟩
 | vs k g' m => obtain ⟨⟨q,c',e1⟩,_⟩:=h.vs_inv;obtain rfl:m=n:=by simpa[lL] using hl
                exact ⟨q,c',e1,λe=>by cases e⟩
 | vw k g' o' m => obtain ⟨⟨q,c',e1⟩,_⟩:=h.vw_inv;obtain rfl:m=n:=by simpa[lL] using hl
                   exact ⟨q,c',e1,λe=>by cases e⟩
 |_=>simp[lL] at hl
section
variable (h:Sit P C U hp w S β used g N ρ ev){o:Oper}{a:Operand}{a':Opd}{t:TypeId}
include h
theorem UL {c:Call}{str:Bool}(ho:o.op= .call c)(hc:c.callee= .builtin .len)(hargs:c.args= #[a])(hts:c.argTypes[0]? =some t)(hu:(str=true/\P.underlying t=some .string)∨(str=false/\ ∃e,P.underlying t=some (.slice e)))(ha:aH N a=some a'){key:Nat}{e:Eff}(he:aX (.len str a') g key [ev a'] hp=some e):Out1 P C U hp w S β used g e ((execOp ρ o).run P w):=by
 have v1:=h.at_ a a' ha;simp only[aX] at he;cases hl:lenS str (ev a') with
 |none=>rw[hl] at he;cases he
 |some n=>
  rw[hl] at he;obtain rfl:=Ai he;refine .val h.hi rfl (v:=.int .i64 n) ?_ (.int _ _);rcases hu with ⟨rfl,hu⟩|⟨rfl,el,hu⟩
  ·cases hv:ev a' with
   |str l=>
    rw[hv] at hl v1;have hn:l.length=n:=by simpa[lenS] using hl
    have e1:=v1.str_inv;have e2:(⟨l.toArray⟩:ByteArray).size=n:=by show l.toArray.size=_;simpa using hn
    simp[execOp,ho,resolve,hc,hargs,hts,invoke,builtin,Builtin.len_,run_underlying hu,e1,goInt,e2]
   |_=>rw[hv] at hl;simp[lenS] at hl
  ·obtain ⟨q,c',e1,_⟩:=OX v1 (by simpa[lenS] using hl)
   simp[execOp,ho,resolve,hc,hargs,hts,invoke,builtin,Builtin.len_,run_underlying hu,e1,goInt]
theorem Yy (ho:o.op= .nilCheck a)(ha:aH N a=some a'){key:Nat}{e:Eff}(he:aX (.nilck a') g key [ev a'] hp=some e):Out1 P C U hp w S β used g e ((execOp ρ o).run P w):=by
 have v1:=h.at_ a a' ha;simp only[aX] at he;split at he
 ·rename_i hn
  obtain rfl:=Ai he;refine .val h.hi rfl (v:=ρ a) ?_ v1;cases hv:ev a' with
  |ref k g' o'=>rw[hv] at v1;obtain ⟨⟨b,q,e1⟩,_⟩:=v1.ref_inv;simp[execOp,ho,e1]
  |er k g' i o'=>rw[hv] at v1;obtain ⟨⟨b,q,e1⟩,_⟩:=v1.er_inv;simp[execOp,ho,e1]
  |rp cs=>rw[hv] at v1;obtain ⟨b,q,u,e1,_⟩:=v1.rp_inv;simp[execOp,ho,e1]
  |fn f cap=>rw[hv] at v1;obtain ⟨cs,e1,_⟩:=v1.fn_inv;simp[execOp,ho,e1]
  |ifc t x=>rw[hv] at v1;cases hr:ρ a<;>rw[hr] at v1<;>cases v1;simp[execOp,ho,hr]
  |con x=>
   rw[hv] at hn;unfold Jz at hn;split at hn<;>first|(rename_i e2;cases e2;done)|cases hn
  |_=>rw[hv] at hn;simp[Jz] at hn
 ·cases he
theorem Yz {fs:Array Field}(ho:o.op= .makeInterface t a)(ht:N.tnum (N.tid t)=t)(hu:P.underlying t=some (.struct fs))(ha:aH N a=some a'){key:Nat}{e:Eff}(he:aX (.mkifc (N.tid t) a') g key [ev a'] hp=some e):Out1 P C U hp w S β used g e ((execOp ρ o).run P w):=by
 obtain rfl:({res:=.ifc (N.tid t) (ev a')}:Eff)=e:=by simpa[aX] using he
 have hv:V (aG C S β used hp w) (.iface ((aG C S β used hp w).tnum (N.tid t)) (ρ a)) (.ifc (N.tid t) (ev a')):=.ifc _ _ _ (h.at_ a a' ha);have e1:(aG C S β used hp w).tnum (N.tid t)=t:=by show C.tnum _=t;rw[h.tnum];exact ht
 rw[e1] at hv;exact .val h.hi rfl (v:=.iface t (ρ a)) (by simp[execOp,ho,Instr.makeInterface,run_underlying hu]) hv
end
end
open Go.RowKit
theorem yF: ∀(ks ks':D4)(a b:CL)(r:Bool),eqL (ks++ks') a b=some r->
  ∃r1 r2,eqL ks (a.take ks.length) (b.take ks.length)=some r1/\eqL ks' (a.drop ks.length) (b.drop ks.length)=some r2/\r=(r1&&r2)
 | [],ks',a,b,r,h=>⟨true,r,by simp[eqL],by simpa using h,by simp⟩
 |k::ks,ks',[],b,r,h=>by simp[eqL] at h
 |k::ks,ks',x::a,[],r,h=>by simp[eqL] at h
 |k::ks,ks',x::a,y::b,r,h=>by
  simp only[B4,eqL] at h;cases hs:od k x y with
  |none=>rw[hs] at h;cases h
  |some p=>
   cases he:eqL (ks++ks') a b with
   |none=>rw[hs,he] at h;cases h
   |some q=>
    rw[hs,he] at h;obtain rfl:=Ai h;obtain ⟨r1,r2,h1,h2,rfl⟩:=yF ks ks' a b q he;exact ⟨p&&r1,r2,by simp[eqL,hs,h1],by simpa using h2,by rw[Bool.and_assoc]⟩
section
variable {P:Program} {w:World} {E:Env}
def LK.fits (P:Program)(t:TypeId):LK->Prop
 | .int=> ∃k,P.underlying t=some (.int k)
 | .bool=>P.underlying t=some .bool
 | .str=>P.underlying t=some .string
theorem acr {x y:Value}{a b:AV}(hx:V E x a)(hy:V E y b){k:LK}{r:Bool}(h:od k a b=some r)(d:Nat)(t:TypeId)(ht:k.fits P t):(Op.equalIn (d+1) t x y).run P w= .ok r w:=by
 cases k<;>cases a<;>simp only[od] at h<;>first|(cases h;done)|skip
 all_goals (cases b<;>simp only at h<;>first|(cases h;done)|skip)
 ·split at h
  ·rename_i e;subst e
   obtain rfl:=Ai h;obtain ⟨k2,hu⟩:=ht;rw[hx.int_inv,hy.int_inv];exact run_equalIn_int w d t _ k2 _ _ hu
  ·cases h
 ·obtain rfl:=Ai h
  rw[hx.bool_inv,hy.bool_inv];exact run_equalIn_bool' w d t _ _ ht
 ·obtain rfl:=Ai h
  rw[hx.str_inv,hy.str_inv,run_equalIn_string (P:=P) w d t _ _ ht,ByteArray.toList_mk,ByteArray.toList_mk]
structure Cs (E:Env)(xs:Array Value)(as:CL):Prop where
 len:xs.size=as.length
 one: ∀i,i<as.length->(xs.getD i undef).oneCell'=true
 at_: ∀i,i<as.length->V E (xs.getD i undef) (as.getD i .any)
theorem Cs.seg {xs:Array Value}{as:CL}(h:Cs E xs as)(off n:Nat)(hn:off+n<=as.length):Cs E (xs.extract off (off+n)) ((as.drop off).take n):=by
 have aW: ∀j,j<n->(xs.extract off (off+n)).getD j undef=xs.getD (off+j) undef:=λj hj=>by
  simp only[Ak,Array.getElem?_extract];rw[Ad (by have:=h.len;omega)]
 have hl:((as.drop off).take n).length=n:=by simp;omega
 refine ⟨by rw[hl];simp;have:=h.len;omega,λi hi=>?_,λi hi=>?_⟩
 ·rw[hl] at hi;rw[aW i hi];exact h.one _ (by omega)
 ·rw[hl] at hi;rw[aW i hi,cu _ _ _ _ hi,cG];exact h.at_ _ (by omega)
theorem Ul {t:TypeId}{n:Nat}(h:fj P t=some n): ∃i,P.info? t=some i/\i.size=n:=by
 unfold fj at h;cases hi:P.info? t with
 |none=>rw[hi] at h;cases h
 |some i=>rw[hi] at h;exact ⟨i,rfl,by simpa using h⟩
def QW:TypeDesc->Bool
 | .struct _| .array _ _=>false
 |_=>true
theorem IP {t:TypeId}{d:TypeDesc}(hu:P.underlying t=some d)(hd:QW d=true){xs:Array Value}{off:Nat}(hl:off<xs.size):
  (part t xs off).run P w= .ok (xs.getD off undef) w:=by
 have:(isAgg t).run P w= .ok false w:=by cases d<;>simp[QW] at hd<;>simp[isAgg,run_underlying hu]
 simp[part,this,hl,Array.getD]
theorem vY {t:TypeId}{fs:Array Field}(hu:P.underlying t=some (.struct fs)){n:Nat}(hs:fj P t=some n){xs:Array Value}{off:Nat}:
  (part t xs off).run P w= .ok (.agg (xs.extract off (off+n))) w:=by
 have:(isAgg t).run P w= .ok true w:=by simp[isAgg,run_underlying hu]
 simp[part,this,fe hs]
theorem WE: ∀(d:Nat)(t:TypeId)(ks:D4),jl P d t=some ks-> ∀(d':Nat),d<=d'-> ∀(xs ys:Array Value)(as bs:CL)(off:Nat)(r:Bool),Cs E xs as->Cs E ys bs->as.length=bs.length->off+ks.length<=as.length->
  eqL ks ((as.drop off).take ks.length) ((bs.drop off).take ks.length)=some r->
  ∃u v,(part t xs off).run P w= .ok u w/\(part t ys off).run P w= .ok v w/\(Op.equalIn d' t u v).run P w= .ok r w
 |0,_,_,h=>by simp[jl] at h
 |d+1,t,ks,h=>by
  intro d' hd xs ys as bs off r hx hy hlab hoff he;obtain ⟨d',rfl⟩: ∃x,d'=x+1:=⟨d'-1,by omega⟩
  simp only[jl] at h
  have leaf: ∀(k:LK)(hk:ks= [k])(dd:TypeDesc),P.underlying t=some dd->QW dd=true->
    k.fits P t->
    ∃u v,(part t xs off).run P w= .ok u w/\(part t ys off).run P w= .ok v w/\(Op.equalIn (d'+1) t u v).run P w= .ok r w:=by
   intro k hk dd hu hdd hkk;subst hk;simp only[List.length_singleton] at hoff he;refine ⟨_,_,IP hu hdd (by have:=hx.len;omega),IP hu hdd (by have:=hy.len;omega),?_⟩
   have e1:(as.drop off).take 1= [as.getD off .any]:=by
    rw[List.take_one,List.head?_drop,Aj,AK (by omega)];simp
   have e2:(bs.drop off).take 1= [bs.getD off .any]:=by
    rw[List.take_one,List.head?_drop,Aj,AK (by omega)];simp
   rw[e1,e2] at he;simp only[eqL] at he;cases hs:od k (as.getD off .any) (bs.getD off .any) with
   |none=>rw[hs] at he;cases he
   |some p=>
    rw[hs] at he;obtain rfl:p=r:=by simpa using he
    exact acr (hx.at_ off (by omega)) (hy.at_ off (by omega)) hs d' t hkk
  split at h
  ·rename_i hu;split at h
   ·exact leaf .bool (by simpa using h.symm) _ hu rfl hu
   ·cases h
  ·rename_i k hu;split at h
   ·exact leaf .int (by simpa using h.symm) _ hu rfl ⟨k,hu⟩
   ·cases h
  ·rename_i hu;split at h
   ·exact leaf .str (by simpa using h.symm) _ hu rfl hu
   ·cases h
  ·rename_i fs hu
   split at h
   ·rename_i hst
    cases hf:lj (jl P d) 0 fs.toList with
    |none=>rw[hf] at h;cases h
    |some ks'=>
     rw[hf] at h;simp only[Option.bind_some] at h;split at h
     ·rename_i hsz
      obtain rfl:=Ai h;refine ⟨_,_,vY hu hsz,vY hu hsz,?_⟩;have hfo:P.fieldsOf t=fs:=by simp[Program.fieldsOf,hu]
      rw[run_equalIn_struct w d' t _ _ (by rw[hfo];exact hu) hst,hfo]
      have X:=hx.seg off _ hoff;have Y:=hy.seg off ks'.length (by omega)
      generalize xs.extract off (off+ks'.length)=xs' at X;generalize ys.extract off (off+ks'.length)=ys' at Y;have la:((as.drop off).take ks'.length).length=ks'.length:=by simp;omega
      have lb:((bs.drop off).take ks'.length).length=ks'.length:=by simp;omega
      generalize (as.drop off).take ks'.length=as' at X he la;generalize (bs.drop off).take ks'.length=bs' at Y he lb
      have key: ∀(l:List Field)(n:Nat)(kk:D4)(r:Bool),lj (jl P d) n l=some kk->n+kk.length=ks'.length->eqL kk (as'.drop n) (bs'.drop n)=some r->(Op.eqFields d' xs' ys' l).run P w= .ok r w:=by
       intro l
       induction l with
       |nil=>
        intro n kk r h1 h2 h3;obtain rfl: []=kk:=by simpa[lj] using h1
        have:as'.drop n= []:=List.drop_eq_nil_of_le (by simp at h2;omega)
        have h4:bs'.drop n= []:=List.drop_eq_nil_of_le (by simp at h2;omega)
        rw[this,h4] at h3;obtain rfl:true=r:=by simpa[eqL] using h3
        rfl
       |cons f l ih=>
        intro n kk r h1 h2 h3;simp only[lj] at h1;split at h1
        ·rename_i hfo
         cases hc:jl P d f.type with
         |none=>rw[hc] at h1;cases h1
         |some k1=>
                    cases hr:lj (jl P d) (n+k1.length) l with
                    |none=>rw[hc] at h1;dsimp only at h1;rw[hr] at h1;cases h1
                    |some k2=>
                     rw[hc] at h1;dsimp only at h1;rw[hr] at h1
                     obtain rfl:=Ai h1;obtain ⟨r1,r2,q1,q2,rfl⟩:=yF k1 k2 _ _ r h3;rw[List.drop_drop,List.drop_drop] at q2;rw[Ar] at h2;obtain ⟨u,v,p1,p2,p3⟩:=WE d f.type k1 hc d' (by omega) xs' ys' as' bs' n r1 X Y (by omega) (by omega) q1
                     simp only[Op.eqFields,Ad hfo.2,Sem.run_bind,hfo.1,p1,p2,p3,Result.andThen_ok];cases r1 with
                     |false=>simp
                     |true=>
                      simp only[Bool.not_true,A6,if_false,BY];exact ih (n+k1.length) k2 r2 hr (by omega) q2
        ·cases h1
      exact key fs.toList 0 ks' r hf (by omega) (by simpa using he)
     ·cases h
   ·cases h
  ·cases h
end
section
variable {P:Program} {C:Ctx} {U:Nat->Prop} {hp:HF} {w:World} {S:Nat->Prop} {β:Nat->Place} {used:Nat->Nat->Prop} {g:Nat} {N:Nums} {ρ:Operand->Value} {ev:Opd->AV}
theorem ku {op:BinOp}{t:TypeId}{x y:Operand}{a b:Value}(h: ¬(a= .nilIface/\b= .nilIface)∨(op≠ .eql/\op≠ .neq))(h2:(∀c,a≠ .agg c)∨(op≠ .eql/\op≠ .neq)):(eqGuard op t x y a b).run P w= .ok () w:=by
 cases op<;>simp[eqGuard]<;>(simp at h h2;cases a<;>cases b<;>simp at h h2<;>simp)
theorem I8 (h:Sit P C U hp w S β used g N ρ ev){o:Oper}{op:BinOp}{t t':TypeId}{x y:Operand}{a b:Opd}(ho:o.op= .binOp op t x y t')(hx:aH N x=some a)(hy:aH N y=some b){key:Nat}{e:Eff}(he:aX (.bin op a b) g key [ev a,ev b] hp=some e):Out1 P C U hp w S β used g e ((execOp ρ o).run P w):=by
 have v1:=h.at_ x a hx;have v2:=h.at_ y b hy;simp only[aX] at he;cases hb:bp op (ev a) (ev b) with
 |none=>rw[hb] at he;cases he
 |some r=>
  rw[hb] at he;obtain rfl:=Ai he
  have fin: ∀v,(binOp op t (ρ x) (ρ y)).run P w= .ok v w->(eqGuard op t x y (ρ x) (ρ y)).run P w= .ok () w->V (aG C S β used hp w) v r->Out1 P C U hp w S β used g {res:=r} ((execOp ρ o).run P w):=λv q1 q2 q3=>
   .val h.hi rfl (v:=v) (by simp[execOp,ho,q1,q2]) q3
  cases ea:ev a with
  |int k p=>
   cases eb:ev b with
   |int k' q=>
    rw[ea] at v1 hb;rw[eb] at v2 hb
    have e1:=v1.int_inv;have e2:=v2.int_inv
    have gd:=ku (P:=P) (w:=w) (op:=op) (t:=t) (x:=x) (y:=y) (a:=ρ x) (b:=ρ y) (by rw[e1];simp) (by rw[e1];simp)
    cases op<;>simp only[bp] at hb
    case shl|shr=>
     split at hb
     ·cases hb
     ·rename_i hq
      obtain rfl:=Ai hb;exact fin _ (by first|(rw[e1,e2];simp[binOp,Op.shift,hq];done)|(rw[e1,e2];simp[binOp,Op.shift,hq];rfl)) gd (.int _ _)
    all_goals
     split at hb
     ·cases hb
     ·rename_i hk
      have hk':k=k':=by simpa using hk
      subst hk'
      first
      | (split at hb
         ·cases hb
         ·rename_i h0
          obtain rfl:=Ai hb;exact fin _ (by first|(rw[e1,e2];simp[binOp,Op.intDiv,h0];done)|(rw[e1,e2];simp[binOp,Op.intDiv,h0];rfl)) gd (.int _ _))
      | (obtain rfl:=Ai hb
         first
         |exact fin _ (by first|(rw[e1,e2];simp[binOp,Op.intArith];done)|(rw[e1,e2];simp[binOp,Op.intArith];rfl)) gd (.int _ _)
         |exact fin _ (by first|(rw[e1,e2];simp[binOp,Op.intBits];done)|(rw[e1,e2];simp[binOp,Op.intBits];rfl)) gd (.int _ _)
         |exact fin _ (by first|(rw[e1,e2];simp[binOp,Op.intCmp];done)|(rw[e1,e2];simp[binOp,Op.intCmp];rfl)) gd (.bool _))
   |_=>rw[ea,eb] at hb;cases op<;>simp[bp] at hb
  |str p=>
   cases eb:ev b with
   |str q=>
    rw[ea] at v1 hb;rw[eb] at v2 hb
    have e1:=v1.str_inv;have e2:=v2.str_inv
    have gd:=ku (P:=P) (w:=w) (op:=op) (t:=t) (x:=x) (y:=y) (a:=ρ x) (b:=ρ y) (by rw[e1];simp) (by rw[e1];simp)
    cases op<;>simp only[bp] at hb<;>first|(cases hb;done)|skip
    case add=>
     split at hb
     ·rename_i hl
      obtain rfl:=Ai hb
      have hs: ¬(((⟨p.toArray⟩:ByteArray).size+(⟨q.toArray⟩:ByteArray).size:Nat):Int)>IntKind.i64.max:=by
       show¬(((p.toArray.size+q.toArray.size:Nat):Int)>_)
       simp[IntKind.max,IntKind.signed,IntKind.bits];omega
      have hcat:(⟨p.toArray⟩:ByteArray)++⟨q.toArray⟩=⟨(p++q).toArray⟩:=by
       apply ByteArray.ext;simp
      refine fin (.string ⟨(p++q).toArray⟩) ?_ gd (.str _);rw[e1,e2];simp only[binOp,Op.stringOp];rw[Ac hs,hcat];rfl
     ·cases hb
    all_goals
     obtain rfl:=Ai hb;exact fin _ (by first|(rw[e1,e2];simp[binOp,Op.stringOp,ByteArray.toList_mk];done)|(rw[e1,e2];simp[binOp,Op.stringOp,ByteArray.toList_mk];rfl)) gd (.bool _)
   |_=>rw[ea,eb] at hb;cases op<;>simp[bp] at hb
  |_=>rw[ea] at hb;cases op<;>simp[bp] at hb
theorem Ah (neg:Bool)(t:TypeId)(x y:Value)(r:Bool)(hx:(∀k n,x≠ .int k n)/\(∀k n,x≠ .float k n)/\(∀k n m,x≠ .complex k n m)/\(∀s,x≠ .string s))(hr:(Op.equal t x y).run P w= .ok r w):
  (binOp (if neg=true then .neq else .eql) t x y).run P w= .ok (.bool (xor neg r)) w:=by
 obtain ⟨h1,h2,h3,h4⟩:=hx;cases neg<;>cases x<;>simp at h1 h2 h3 h4<;>(simp only[binOp,A6,if_false,if_true];simp[hr])
section
variable (h:Sit P C U hp w S β used g N ρ ev){o:Oper}{neg:Bool}{t t':TypeId}{x y:Operand}{a b:Opd}{fs:Array Field}{ks:D4}(ho:o.op= .binOp (if neg=true then .neq else .eql) t x y t')
include h ho
theorem aev (hu:P.underlying t=some .bool)(hx:aH N x=some a)(hy:aH N y=some b){key:Nat}{e:Eff}(he:aX (.eqb neg a b) g key [ev a,ev b] hp=some e):Out1 P C U hp w S β used g e ((execOp ρ o).run P w):=by
 have v1:=h.at_ x a hx;have v2:=h.at_ y b hy;simp only[aX] at he;split at he
 ·rename_i p q ea eb
  rw[ea] at v1;rw[eb] at v2
  obtain rfl:=Ai he;have e1:=v1.bool_inv;have e2:=v2.bool_inv
  have:=Ah (P:=P) (w:=w) neg t (ρ x) (ρ y) (p==q) (by rw[e1];simp) (by rw[e1,e2];exact run_equalIn_bool w 9999 t _ _ hu)
  exact .val h.hi rfl (v:=.bool (xor neg (p==q))) (by simp[execOp,ho,ku (P:=P) (w:=w) (t:=t) (x:=x) (y:=y) (a:=ρ x) (b:=ρ y) (.inl (by rw[e1];simp)) (.inl (by rw[e1];simp)),this]) (.bool _)
 ·cases he
theorem aeu (hu:P.underlying t=some (.struct fs))(hg:P.eqGuardType P.depth t=false)(hks:jl P 40 t=some ks)(hx:aH N x=some a)(hy:aH N y=some b){key:Nat}{e:Eff}(he:aX (.eqs ks neg a b) g key [ev a,ev b] hp=some e):Out1 P C U hp w S β used g e ((execOp ρ o).run P w):=by
 have v1:=h.at_ x a hx;have v2:=h.at_ y b hy;simp only[aX] at he;split at he
 ·rename_i p q ea eb
  rw[ea] at v1;rw[eb] at v2
  cases hr:eqL ks p q with
  |none=>rw[hr] at he;cases he
  |some r=>
   rw[hr] at he;obtain rfl:=Ai he;obtain ⟨xs,e1,h1,h2,h3⟩:=v1.agg_inv;obtain ⟨ys,e2,k1,k2,k3⟩:=v2.agg_inv
   have hlen: ∀(ks:D4)(p q:CL)(r:Bool),eqL ks p q=some r->p.length=ks.length/\q.length=ks.length:=by
    intro ks
    induction ks with
    |nil=>intro p q r h;cases p<;>cases q<;>simp[eqL] at h<;>simp
    |cons k ks ih=>
     intro p q r h;cases p<;>cases q<;>simp only[eqL] at h<;>first|(cases h;done)|skip
     rename_i c p d q;cases hc:od k c d with
     |none=>rw[hc] at h;cases h
     |some _=>
      cases hd:eqL ks p q with
      |none=>rw[hc,hd] at h;cases h
      |some _=>have:=ih p q _ hd;simp[this]
   obtain ⟨l1,l2⟩:=hlen ks p q r hr;obtain ⟨u,v,q1,q2,q3⟩:=WE (P:=P) (w:=w) 40 t ks hks 10000 (by omega) xs ys p q 0 r ⟨h1,h2,h3⟩ ⟨k1,k2,k3⟩ (by omega) (by omega) (by rw[List.drop_zero,List.drop_zero,List.take_of_length_le (by omega),List.take_of_length_le (by omega)];exact hr)
   have hsz:fj P t=some ks.length:=by
    have hks':=hks;rw[show jl P 40 t=jl P (39+1) t from rfl,jl,hu] at hks'
    simp only at hks';split at hks'
    ·cases hf:lj (jl P 39) 0 fs.toList with
     |none=>rw[hf] at hks';cases hks'
     |some k'=>
      rw[hf] at hks';simp only[Option.bind_some] at hks';split at hks'
      ·rename_i q;obtain rfl:=Ai hks';exact q
      ·cases hks'
    ·cases hks'
   have ex: ∀(zs:Array Value)(l:CL),zs.size=l.length->l.length=ks.length->(part t zs 0).run P w= .ok (.agg zs) w:=λzs l a b=>by
    rw[vY hu hsz];simp only[A7];rw[Array.extract_eq_self_of_le (by omega)]
   rw[ex xs p h1 l1] at q1;rw[ex ys q k1 l2] at q2;cases q1;cases q2
   have:=Ah (P:=P) (w:=w) neg t (ρ x) (ρ y) r (by rw[e1];simp) (by rw[e1,e2];exact q3)
   refine .val h.hi rfl (v:=.bool (xor neg r)) ?_ (.bool _);have gd:(eqGuard (if neg=true then .neq else .eql) t x y (ρ x) (ρ y)).run P w= .ok () w:=by rw[e1,e2];exact run_eqGuard_agg w _ t x y xs ys hg
   simp[execOp,ho,gd,this]
 ·cases he
end
end
open Go.RowKit
section
variable {P:Program} {C:Ctx} {U:Nat->Prop} {hp:HF} {w:World} {S:Nat->Prop} {β:Nat->Place} {used:Nat->Nat->Prop} {g:Nat} {N:Nums} {ρ:Operand->Value} {ev:Opd->AV}
def NK.fits (P:Program)(t:TypeId):NK->Prop
 | .ptr=> ∃e,P.underlying t=some (.pointer e)
 | .slice=> ∃e,P.underlying t=some (.slice e)
 | .map=> ∃k e,P.underlying t=some (.map k e)
 | .func=> ∃a b c,P.underlying t=some (.func a b c)
 | .iface=> ∃ms,P.underlying t=some (.interface ms)
def NilIs:NK->Value->Bool->Prop
 | .ptr,v,true=>v= .pointer none
 | .ptr,v,false=> ∃a,v= .pointer (some a)
 | .slice,v,true=>v= .slice none 0 0
 | .slice,v,false=> ∃a n c,v= .slice (some a) n c
 | .map,v,true=>v= .map none
 | .map,v,false=> ∃a,v= .map (some a)
 | .func,v,true=>v= .nilFunc
 | .func,v,false=> ∃a b c,v= .func a b c
 | .iface,v,true=>v= .nilIface
 | .iface,v,false=> ∃a b,v= .iface a b
theorem rb {E:Env}{v:Value}{a:AV}(h:V E v a){k:NK}{b:Bool}(hn:FP k a=some b):NilIs k v b:=by
 unfold FP at hn;split at hn<;>first|(cases hn;done)|(obtain rfl:=Ai hn)
 ·exact h.con_inv
 ·obtain ⟨⟨b,o,e⟩,_⟩:=h.ref_inv;exact ⟨_,e⟩
 ·obtain ⟨⟨b,o,e⟩,_⟩:=h.er_inv;exact ⟨_,e⟩
 ·obtain ⟨b,o,u,e,_⟩:=h.rp_inv;exact ⟨_,e⟩
 ·exact h.con_inv
 ·obtain ⟨q,c,u,e,_,_,hb,_⟩:=h.sl_inv;obtain ⟨b,o,e2,_⟩:=hb (by simp);exact ⟨_,_,_,by rw[e,e2]⟩
 ·exact h.con_inv
 ·exact h.con_inv
 ·obtain ⟨cs,e,_⟩:=h.fn_inv;exact ⟨_,_,_,e⟩
 ·exact h.con_inv
 ·rename_i t x
  generalize ha:AV.ifc t x=a at h;cases h<;>first|(cases ha;done)|exact ⟨_,_,rfl⟩
section
variable (d:Nat){k:NK}{t:TypeId}(hk:k.fits P t){x y:Value}{r:Bool}(h:(NilIs k x true/\NilIs k y r)∨(NilIs k x r/\NilIs k y true))
include hk h
theorem NL:(Op.equalIn (d+1) t x y).run P w= .ok r w:=by
 cases k
 case ptr=>
  obtain ⟨el,hu⟩:=hk;rcases h with ⟨h1,h2⟩|⟨h1,h2⟩<;>cases r<;>simp only[NilIs] at h1 h2
  ·obtain ⟨a,rfl⟩:=h2;subst h1;simp[Op.equalIn,run_underlying hu]
  ·subst h1;subst h2;simp[Op.equalIn,run_underlying hu]
  ·obtain ⟨a,rfl⟩:=h1;subst h2;simp[Op.equalIn,run_underlying hu]
  ·subst h1;subst h2;simp[Op.equalIn,run_underlying hu]
 case slice=>
  obtain ⟨el,hu⟩:=hk;rcases h with ⟨h1,h2⟩|⟨h1,h2⟩<;>cases r<;>simp only[NilIs] at h1 h2
  ·obtain ⟨a,n,c,rfl⟩:=h2;subst h1;simp[Op.equalIn,run_underlying hu]
  ·subst h1;subst h2;simp[Op.equalIn,run_underlying hu]
  ·obtain ⟨a,n,c,rfl⟩:=h1;subst h2;simp[Op.equalIn,run_underlying hu]
  ·subst h1;subst h2;simp[Op.equalIn,run_underlying hu]
 case map=>
  obtain ⟨kt,el,hu⟩:=hk;rcases h with ⟨h1,h2⟩|⟨h1,h2⟩<;>cases r<;>simp only[NilIs] at h1 h2
  ·obtain ⟨a,rfl⟩:=h2;subst h1;simp[Op.equalIn,run_underlying hu]
  ·subst h1;subst h2;simp[Op.equalIn,run_underlying hu]
  ·obtain ⟨a,rfl⟩:=h1;subst h2;simp[Op.equalIn,run_underlying hu]
  ·subst h1;subst h2;simp[Op.equalIn,run_underlying hu]
 case func=>
  obtain ⟨a0,b0,c0,hu⟩:=hk;rcases h with ⟨h1,h2⟩|⟨h1,h2⟩<;>cases r<;>simp only[NilIs] at h1 h2
  ·obtain ⟨a,n,c,rfl⟩:=h2;subst h1;simp[Op.equalIn,run_underlying hu]
  ·subst h1;subst h2;simp[Op.equalIn,run_underlying hu]
  ·obtain ⟨a,n,c,rfl⟩:=h1;subst h2;simp[Op.equalIn,run_underlying hu]
  ·subst h1;subst h2;simp[Op.equalIn,run_underlying hu]
 case iface=>
  obtain ⟨ms,hu⟩:=hk;rcases h with ⟨h1,h2⟩|⟨h1,h2⟩<;>cases r<;>simp only[NilIs] at h1 h2
  ·obtain ⟨a,n,rfl⟩:=h2;subst h1;simp[Op.equalIn,run_underlying hu]
  ·subst h1;subst h2;simp[Op.equalIn,run_underlying hu]
  ·obtain ⟨a,n,rfl⟩:=h1;subst h2;simp[Op.equalIn,run_underlying hu]
  ·subst h1;subst h2;simp[Op.equalIn,run_underlying hu]
theorem Wy:(Op.equal t x y).run P w= .ok r w:=
 NL 9999 hk h
end
theorem NilIs.plain {k:NK}{v:Value}{b:Bool}(h:NilIs k v b):((∀k n,v≠ .int k n)/\(∀k n,v≠ .float k n)/\(∀k n m,v≠ .complex k n m)/\(∀s,v≠ .string s))/\(∀c,v≠ .agg c):=by
 cases k<;>cases b<;>simp only[NilIs] at h<;>first|(subst h;simp)|(obtain ⟨_,rfl⟩:=h;simp)|(obtain ⟨_,_,rfl⟩:=h;simp)|(obtain ⟨_,_,_,rfl⟩:=h;simp)
section
variable (h:Sit P C U hp w S β used g N ρ ev){o:Oper}
include h
theorem sD {neg:Bool}{k:NK}{t t':TypeId}{x y:Operand}{a b:Opd}(ho:o.op= .binOp (if neg=true then .neq else .eql) t x y t')(hk:k.fits P t)(hi:(k.fits P t/\ ∀ms,P.underlying t≠some (.interface ms))∨(kM x||kM y)=true)(hx:aH N x=some a)(hy:aH N y=some b){key:Nat}{e:Eff}(he:aX (.eqn k neg a b) g key [ev a,ev b] hp=some e):Out1 P C U hp w S β used g e ((execOp ρ o).run P w):=by
 have v1:=h.at_ x a hx;have v2:=h.at_ y b hy;simp only[aX] at he;cases hn:eqN k (ev a) (ev b) with
 |none=>rw[hn] at he;cases he
 |some r=>
  rw[hn] at he;obtain rfl:=Ai he
  have hq:(NilIs k (ρ x) true/\NilIs k (ρ y) r)∨(NilIs k (ρ x) r/\NilIs k (ρ y) true):=by
   unfold eqN at hn;split at hn
   ·rename_i t h1 h2;obtain rfl:=Ai hn;exact .inl ⟨rb v1 h1,rb v2 h2⟩
   ·rename_i t _ h1 h2;obtain rfl:=Ai hn;exact .inr ⟨rb v1 h1,rb v2 h2⟩
   ·cases hn
  have px:((∀k n,ρ x≠ .int k n)/\(∀k n,ρ x≠ .float k n)/\(∀k n m,ρ x≠ .complex k n m)/\(∀s,ρ x≠ .string s))/\(∀c,ρ x≠ .agg c):=by
   rcases hq with ⟨q,_⟩|⟨q,_⟩<;>exact q.plain
  have hr:=Ah (P:=P) (w:=w) neg t (ρ x) (ρ y) r px.1 (Wy hk hq)
  have gd:(eqGuard (if neg=true then .neq else .eql) t x y (ρ x) (ρ y)).run P w= .ok () w:=by
   by_cases hnn:ρ x= .nilIface/\ρ y= .nilIface
   ·have hc:(kM x||kM y)=true:=by
     rcases hi with ⟨hk',hni⟩|hi
     ·exfalso
      rcases hq with ⟨q1,q2⟩|⟨q1,q2⟩<;>rw[hnn.1] at q1<;>cases k<;>simp[NilIs] at q1
      all_goals first|(obtain ⟨ms,hu⟩:=hk';exact hni ms hu)|(cases r<;>simp[NilIs] at q1)
      all_goals (obtain ⟨ms,hu⟩:=hk';exact hni ms hu)
     ·exact hi
    rw[hnn.1,hnn.2];cases neg<;>cases x<;>cases y<;>simp[kM] at hc<;>simp[eqGuard]
   ·exact ku (.inl hnn) (.inl px.2)
  exact .val h.hi rfl (v:=.bool (xor neg r)) (by simp[execOp,ho,gd,hr]) (.bool _)
theorem ac9 {t el:TypeId}{x i:Operand}{x' i':Opd}{s:Nat}(ho:o.op= .indexAddr t x i)(hu:P.underlying t=some (.slice el))(hs:fj P el=some s)(hx:aH N x=some x')(hi:aH N i=some i'){key:Nat}{e:Eff}(he:aX (.iadr s x' i') g key [ev x',ev i'] hp=some e):Out1 P C U hp w S β used g e ((execOp ρ o).run P w):=by
 have v1:=h.at_ x x' hx;have v2:=h.at_ i i' hi;simp only[aX] at he;split at he
 case h_2=>cases he
 rename_i k j hj;rw[hj] at v2;have e2:=v2.int_inv
 have hrun: ∀b q n c,ρ x= .slice (some ⟨b,q,none⟩) n c->0<=j->j.toNat<n->(execOp ρ o).run P w= .ok (.value (.pointer (some ⟨b,q+j.toNat*s,none⟩))) w:=λb q n c e1 h0 hn=>by
  have hj':0<=j/\j<(n:Int):=⟨h0,by omega⟩
  simp[execOp,ho,Instr.indexAt,e2,e1,asIntOf,run_underlying hu,hj',fe hs,Addr.add_lit]
 split at he
 ·rename_i s' es hv
  rw[hv] at v1;split at he
  ·rename_i hc
   obtain ⟨rfl,h0,hlt⟩:=hc;obtain rfl:=Ai he;obtain ⟨q,c,u,e1,_,hs',hb,hh⟩:=v1.sl_inv;obtain ⟨b,off,rfl,hr⟩:=hb (by rintro rfl;simp at hlt)
   refine .val h.hi rfl (hrun b off _ c e1 h0 hlt) (.rp _ _ _ (λm=>u j.toNat m) (λm hm=>?_) λm hm=>?_)
   ·exact hr _ hlt m (by rw[hs' _ hlt] at hm;exact hm)
   ·exact hh _ hlt m (by rw[hs' _ hlt] at hm;exact hm)
  ·cases he
 ·rename_i kk g' n hv
  rw[hv] at v1;cases hk:hp kk with
  |none=>rw[hk] at he;cases he
  |some z=>
   obtain ⟨g'',b⟩:=z;rw[hk] at he;cases b with
   |cells=>cases he
   |mp=>cases he
   |vec s' es=>
    dsimp only at he;split at he
    ·rename_i hc
     obtain ⟨rfl,rfl⟩:=hc;split at he
     ·rename_i hj0
      obtain rfl:=Ai he;obtain ⟨h1,h2,h3,h4,h5,h6⟩:=(h.hi.at_ kk g'' _ hk).2.2;obtain ⟨_,hus,hx'⟩:=v1.vs_inv;obtain ⟨e1,hcap⟩:=hx' _ (bu hk)
      have hnn:(β kk).isNil=false:=by
       cases q:(β kk).isNil with
       |false=>rfl
       |true=>have:=(h4 q).2;omega
      refine .val h.hi rfl (hrun (β kk).blk ((β kk).off) n (β kk).cap (by rw[e1];simp[Place.base,hnn]) hj0.1 hj0.2) (.er _ _ _ _ _ ⟨_,_,rfl⟩ hus λp hp'=>?_)
      rw[bu hk] at hp';obtain rfl:=Ai hp';rw[h1];simp
     ·cases he
    ·cases he
 ·rename_i kk g' o' n hv
  rw[hv] at v1;cases hk:hp kk with
  |none=>rw[hk] at he;cases he
  |some z=>
   obtain ⟨g'',b⟩:=z;rw[hk] at he;cases b with
   |cells=>cases he
   |mp=>cases he
   |vec s' es=>
    dsimp only at he;split at he
    ·rename_i hc
     obtain ⟨rfl,rfl⟩:=hc;split at he
     ·rename_i hj0
      obtain rfl:=Ai he;obtain ⟨h1,h2,h3,h4,h5,h6⟩:=(h.hi.at_ kk g'' _ hk).2.2;obtain ⟨_,hus,hx'⟩:=v1.vw_inv;obtain ⟨c,qo,e1,hcap,hqo⟩:=hx' _ (bu hk);obtain ⟨hq,hnn⟩:=hqo (by omega)
      subst hq;refine .val h.hi rfl (hrun (β kk).blk ((β kk).off+o'* (β kk).sz) n c (by rw[e1];simp[Place.base,hnn]) hj0.1 hj0.2) (.er _ _ _ _ _ ⟨_,_,rfl⟩ hus λp hp'=>?_)
      rw[bu hk] at hp';obtain rfl:=Ai hp';rw[h1];simp[Nat.add_mul,Cl]
     ·cases he
    ·cases he
 ·cases he
end
end
open Go.RowKit
section
variable {P:Program} {C:Ctx} {U:Nat->Prop} {hp:HF} {w:World} {S:Nat->Prop} {β:Nat->Place} {used:Nat->Nat->Prop} {g:Nat} {N:Nums} {ρ:Operand->Value} {ev:Opd->AV}
theorem ac8 (h:Sit P C U hp w S β used g N ρ ev){o:Oper}{t el:TypeId}{x i:Operand}{x' i':Opd}{n s:Nat}(ho:o.op= .indexAddr t x i)(hu:P.underlying t=some (.array n el))(hs:fj P el=some s)(hx:aH N x=some x')(hi:aH N i=some i'){key:Nat}{e:Eff}(he:aX (.iarr n s x' i') g key [ev x',ev i'] hp=some e):Out1 P C U hp w S β used g e ((execOp ρ o).run P w):=by
 have v1:=h.at_ x x' hx;have v2:=h.at_ i i' hi;simp only[aX] at he;split at he
 case h_2=>cases he
 rename_i k j hj;rw[hj] at v2;have e2:=v2.int_inv;split at he
 case isFalse=>cases he
 rename_i hj0
 have hrun: ∀b q,ρ x= .pointer (some ⟨b,q,none⟩)->(execOp ρ o).run P w= .ok (.value (.pointer (some ⟨b,q+j.toNat*s,none⟩))) w:=λb q e1=>by
  have hj':0<=j/\j<(n:Int):=⟨hj0.1,by omega⟩
  simp[execOp,ho,Instr.indexAt,e2,e1,asIntOf,Instr.sureAddr,run_underlying hu,hj',fe hs,Addr.add_lit]
 split at he
 ·rename_i kk g' q ht
  obtain rfl:=Ai he;rw[ht] at v1;obtain ⟨⟨b,q',e1⟩,hus,hx⟩:=v1.ref_inv;refine .val h.hi rfl (hrun b q' e1) (.ref _ _ _ _ ⟨_,_,rfl⟩ hus λp hp=>?_)
  have:=hx p hp;rw[e1] at this;simp only[Value.pointer.injEq,Option.some.injEq,Addr.mk.injEq] at this;obtain ⟨rfl,rfl,_⟩:=this;rw[Cl]
 ·rename_i kk g' i q ht
  obtain rfl:=Ai he;rw[ht] at v1;obtain ⟨⟨b,q',e1⟩,hus,hx⟩:=v1.er_inv;refine .val h.hi rfl (hrun b q' e1) (.er _ _ _ _ _ ⟨_,_,rfl⟩ hus λp hp=>?_)
  have:=hx p hp;rw[e1] at this;simp only[Value.pointer.injEq,Option.some.injEq,Addr.mk.injEq] at this;obtain ⟨rfl,rfl,_⟩:=this;rw[Cl]
 ·rename_i cs ht
  obtain rfl:=Ai he;rw[ht] at v1;obtain ⟨b,off,u,e1,hb,hh⟩:=v1.rp_inv;refine .val h.hi rfl (hrun b off e1) (.rp _ _ _ (λm=>u (j.toNat*s+m)) (λm hm=>?_) λm hm=>?_)
  ·rw[Cl];exact hb _ (by simp at hm;omega)
  ·rw[cG];exact hh _ (by simp at hm;omega)
 ·cases he
theorem lZ {E:Env}{v:Value}{a:AV}(h:V E v a){y n:Nat}(hb:bnd a y=some n)(code:BoundsCode){y':Nat}(hy:y<=y'):(Instr.sliceBound v y' code).run P w= .ok n w/\n<=y:=by
 unfold bnd at hb;split at hb
 ·rename_i k i
  split at hb
  ·rename_i hi
   obtain rfl:=Ai hb;rw[h.int_inv];have h1:0<=i/\i<=(y':Int):=⟨hi.1,by omega⟩
   have h2:i.toNat<=y:=by omega
   exact ⟨by simp[Instr.sliceBound,asIntOf,h1],h2⟩
  ·cases hb
 ·cases hb
theorem kc {E:Env}(isS:Bool){lo hi mx:Option Value}{lo' hi' mx':D6}(h1:lo.isSome=lo'.isSome)(h2:hi.isSome=hi'.isSome)(h3:mx.isSome=mx'.isSome)(v1: ∀x y,lo=some x->lo'=some y->V E x y)(v2: ∀x y,hi=some x->hi'=some y->V E x y)(v3: ∀x y,mx=some x->mx'=some y->V E x y){n c l hh:Nat}(hn:n<=c)(hb:aX.slBounds lo'.isSome hi'.isSome mx'.isSome n (lo'.toList++(hi'.toList++mx'.toList))=some (l,hh)):
  ∃m,(Instr.sliceBounds isS n c lo hi mx).run P w= .ok (l,hh,m) w/\l<=hh/\hh<=n/\hh<=m/\m<=c/\(mx=none->m=c):=by
 cases lo<;>cases lo'<;>simp at h1<;>cases hi<;>cases hi'<;>simp at h2<;>cases mx<;>cases mx'<;>simp at h3<;>simp only[aX.slBounds,Option.isSome,Option.toList,By,B4,BD] at hb
 all_goals try (cases hb;done)
 ·obtain ⟨rfl,rfl⟩:0=l/\n=hh:=by simpa using hb
  exact ⟨c,by simp[Instr.sliceBounds],Nat.zero_le _,Be _,hn,Be _,λ_=>rfl⟩
 ·rename_i x y
  cases hbd:bnd y n with
  |none=>rw[hbd] at hb;cases hb
  |some q=>
   rw[hbd] at hb;obtain ⟨rfl,rfl⟩:0=l/\q=hh:=by simpa using hb
   have:=λcode=>lZ (P:=P) (w:=w) (v2 x y rfl rfl) hbd code hn
   exact ⟨c,by simp[Instr.sliceBounds,(this _).1],Nat.zero_le _,(this .index).2,AN (this .index).2 hn,Be _,λ_=>rfl⟩
 ·rename_i x y x2 y2
  cases hm:bnd y2 n with
  |none=>rw[hm] at hb;cases hb
  |some m=>
   rw[hm] at hb;cases hbd:bnd y m with
   |none=>rw[Option.bind_some,hbd] at hb;cases hb
   |some q=>
    rw[Option.bind_some,hbd] at hb;obtain ⟨rfl,rfl⟩:0=l/\q=hh:=by simpa using hb
    have t1:=λcode=>lZ (P:=P) (w:=w) (v3 x2 y2 rfl rfl) hm code hn
    have t2:=λcode=>lZ (P:=P) (w:=w) (v2 x y rfl rfl) hbd code (Be m)
    have a1:=(t1 .index).2;have a2:=(t2 .index).2;exact ⟨m,by simp[Instr.sliceBounds,(t1 _).1,(t2 _).1],Nat.zero_le _,by omega,by omega,by omega,λe=>by cases e⟩
 ·rename_i x y
  cases hbd:bnd y n with
  |none=>rw[hbd] at hb;cases hb
  |some q=>
   rw[hbd] at hb;obtain ⟨rfl,rfl⟩:q=l/\n=hh:=by simpa using hb
   have:=λcode=>lZ (P:=P) (w:=w) (v1 x y rfl rfl) hbd code (Be n)
   exact ⟨c,by simp[Instr.sliceBounds,(this _).1],(this .index).2,Be _,hn,Be _,λ_=>rfl⟩
 ·rename_i x y x2 y2
  cases hm:bnd y2 n with
  |none=>rw[hm] at hb;cases hb
  |some m=>
   rw[hm] at hb;cases hbd:bnd y m with
   |none=>rw[Option.bind_some,hbd] at hb;cases hb
   |some q=>
    rw[Option.bind_some,hbd] at hb;obtain ⟨rfl,rfl⟩:q=l/\m=hh:=by simpa using hb
    have t1:=λcode=>lZ (P:=P) (w:=w) (v2 x2 y2 rfl rfl) hm code hn
    have t2:=λcode=>lZ (P:=P) (w:=w) (v1 x y rfl rfl) hbd code (Be m)
    have a1:=(t1 .index).2;have a2:=(t2 .index).2;exact ⟨c,by simp[Instr.sliceBounds,(t1 _).1,(t2 _).1],by omega,by omega,by omega,by omega,λ_=>rfl⟩
 ·rename_i x y x2 y2 x3 y3
  cases hm:bnd y3 n with
  |none=>rw[hm] at hb;cases hb
  |some m=>
   rw[hm,Option.bind_some] at hb;cases hbd:bnd y2 m with
   |none=>rw[hbd] at hb;cases hb
   |some q=>
    rw[hbd,Option.bind_some] at hb;cases hbe:bnd y q with
    |none=>rw[hbe] at hb;cases hb
    |some r=>
     rw[hbe] at hb;obtain ⟨rfl,rfl⟩:r=l/\q=hh:=by simpa using hb
     have t1:=λcode=>lZ (P:=P) (w:=w) (v3 x3 y3 rfl rfl) hm code hn
     have t2:=λcode=>lZ (P:=P) (w:=w) (v2 x2 y2 rfl rfl) hbd code (Be m)
     have t3:=λcode=>lZ (P:=P) (w:=w) (v1 x y rfl rfl) hbe code (Be q)
     have a1:=(t1 .index).2;have a2:=(t2 .index).2;have a3:=(t3 .index).2;exact ⟨m,by simp[Instr.sliceBounds,(t1 _).1,(t2 _).1,(t3 _).1],by omega,by omega,by omega,by omega,λe=>by cases e⟩
theorem xZ {f:Operand->Eb}{x:Option Operand}{y:Eb}(h:lG f x=some y):x.isSome=y.isSome/\ ∀a b,x=some a->y=some b->f a=some b:=by
 cases x with
 | none => obtain rfl:none=y:=by simpa[lG] using h
           exact ⟨rfl,λa b e=>by cases e⟩
 |some a=>
  simp only[lG] at h;cases hf:f a with
  |none=>rw[hf] at h;cases h
  |some b=>
   rw[hf] at h;obtain rfl:some b=y:=by simpa using h
   exact ⟨rfl,λa' b' e1 e2=>by cases e1;cases e2;exact hf⟩
section
variable (h:Sit P C U hp w S β used g N ρ ev){o:Oper}
include h
theorem Sit.opt {x:Option Operand}{y:Eb}(hx:lG (aH N) x=some y):
  (x.map ρ).isSome=(y.map ev).isSome/\ ∀a b,x.map ρ=some a->y.map ev=some b->V (aG C S β used hp w) a b:=by
 obtain ⟨h1,h2⟩:=xZ hx;cases x<;>cases y<;>simp at h1⊢
 exact h.at_ _ _ (h2 _ _ rfl rfl)
theorem aes {t el:TypeId}{x:Operand}{lo hi mx:Option Operand}{x':Opd}{lo' hi' mx':Eb}{s:Nat}(ho:o.op= .slice t x lo hi mx)(hu:P.underlying t=some (.slice el))(hs:fj P el=some s)(hx:aH N x=some x')(hlo:lG (aH N) lo=some lo')(hhi:lG (aH N) hi=some hi')(hmx:lG (aH N) mx=some mx'){key:Nat}{e:Eff}(he:aX (.slc s x' lo' hi' mx') g key (ev x'::((lo'.toList++(hi'.toList++mx'.toList)).map ev)) hp=some e):Out1 P C U hp w S β used g e ((execOp ρ o).run P w):=by
 have v1:=h.at_ x x' hx;obtain ⟨a1,b1⟩:=h.opt hlo;obtain ⟨a2,b2⟩:=h.opt hhi;obtain ⟨a3,b3⟩:=h.opt hmx;simp only[aX] at he;cases hl:lL (ev x') with
 |none=>rw[hl] at he;cases he
 |some n=>
  rw[hl] at he;dsimp only at he
  have hmap:(lo'.toList++(hi'.toList++mx'.toList)).map ev=(lo'.map ev).toList++((hi'.map ev).toList++(mx'.map ev).toList):=by
   cases lo'<;>cases hi'<;>cases mx'<;>rfl
  have hso:lo'.isSome=(lo'.map ev).isSome/\hi'.isSome=(hi'.map ev).isSome/\mx'.isSome=(mx'.map ev).isSome:=by cases lo'<;>cases hi'<;>cases mx'<;>exact ⟨rfl,rfl,rfl⟩
  rw[hmap,hso.1,hso.2.1,hso.2.2] at he;cases hb:aX.slBounds (lo'.map ev).isSome (hi'.map ev).isSome (mx'.map ev).isSome n ((lo'.map ev).toList++((hi'.map ev).toList++(mx'.map ev).toList)) with
  |none=>rw[hb] at he;cases he
  |some lh=>
   obtain ⟨l,hh⟩:=lh;rw[hb] at he;dsimp only at he;obtain ⟨qa,c,e1,hqc⟩:=OX v1 hl
   have hrun: ∀m,n<=c->(Instr.sliceBounds true n c (lo.map ρ) (hi.map ρ) (mx.map ρ)).run P w= .ok (l,hh,m) w->(execOp ρ o).run P w= .ok (.value (.slice (if m=l then qa else qa.map (·.add (l*s))) (hh-l) (m-l))) w:=λm _ hr=>by
    simp[execOp,ho,Instr.sliceAt,Instr.slice,run_underlying hu,e1,hr,fe hs]
   split at he
   ·rename_i s' es hv
    rw[hv] at v1;split at he
    ·rename_i hss;subst hss
     obtain rfl:=Ai he;obtain ⟨q,c',u,e1',hcap,hs',hbb,hhh⟩:=v1.sl_inv;obtain ⟨rfl,hnl,rfl⟩:qa=q/\n=es.length/\c=c':=by rw[e1] at e1';simpa using e1'
     subst hnl;obtain ⟨m,hr,k1,k2,k3,k4,_⟩:=kc (P:=P) (w:=w) true a1 a2 a3 b1 b2 b3 hcap hb;have hlen:((es.drop l).take (hh-l)).length=hh-l:=by simp;omega
     refine .val h.hi rfl (hrun m hcap hr) (.sl _ _ _ _ _ hlen.symm (λi hi=>?_) (by omega) (λi j=>u (l+i) j) (λhne=>?_) λi hi j hj=>?_)
     ·rw[cu _ _ _ _ (by omega),cG];exact hs' _ (by omega)
     ·have hne':es≠ []:=by rintro rfl;simp at hne
      have hlt:l<hh:=by
       rcases A4 l hh with q|q
       ·exact q
       ·exfalso;apply hne;rw[Nat.sub_eq_zero_of_le q];simp
      obtain ⟨b,off,rfl,hr'⟩:=hbb hne';refine ⟨b,off+l*s',?_,λi hi j hj=>?_⟩
      ·rw[Ac (by omega)];simp[Addr.add_lit]
      ·have:=hr' (l+i) (by omega) j hj
       rwa [show off+l*s'+i*s'+j=off+(l+i)*s'+j from by rw[Nat.add_mul];omega]
     ·rw[cu _ _ _ _ (by omega),cG];exact hhh _ (by omega) j hj
    ·cases he
   ·rename_i hv
    obtain rfl:=Ai he;obtain ⟨rfl,rfl⟩:=hqc hv;rw[hv] at hl;obtain rfl:0=n:=by simpa[lL] using hl
    obtain ⟨m,hr,k1,k2,k3,k4,_⟩:=kc (P:=P) (w:=w) true a1 a2 a3 b1 b2 b3 (Be 0) hb;refine .val h.hi rfl (hrun m (Be _) hr) (.sl _ _ _ _ _ (by simp;omega) (by simp) (by omega) (λ_ _=>undef) (λq=>absurd rfl q) (by simp))
   ·rename_i kk g' n' hv
    rw[hv] at v1 hl;obtain rfl:n'=n:=by simpa[lL] using hl
    cases hk:hp kk with
    |none=>rw[hk] at he;cases he
    |some z=>
     obtain ⟨g'',b⟩:=z;rw[hk] at he;cases b with
     |cells=>cases he
     |mp=>cases he
     |vec s' es=>
      dsimp only at he;split at he
      ·rename_i hc
       obtain ⟨rfl,rfl⟩:=hc;obtain ⟨q1,q2,q3,q4,q5,q6⟩:=(h.hi.at_ kk g'' _ hk).2.2;obtain ⟨_,hus,hx'⟩:=v1.vs_inv;obtain ⟨e1',hcap⟩:=hx' _ (bu hk);obtain ⟨rfl,rfl⟩:qa=(β kk).base 0/\c=(β kk).cap:=by rw[e1] at e1';simpa using e1'
       obtain ⟨m,hr,k1,k2,k3,k4,k5⟩:=kc (P:=P) (w:=w) true a1 a2 a3 b1 b2 b3 hcap hb
       have hadd: ∀y,((β kk).base 0).map (·.add y)=(β kk).base y:=λy=>by
                unfold Place.base;cases (β kk).isNil<;>simp[Addr.add_lit]
       split at he
       ·rename_i hl0
        obtain rfl:=Ai he;obtain ⟨rfl,hmx0⟩:=hl0
        have hmn :mx=none:=by
                 have h3:=(xZ hmx).1;rw[<-hso.2.2] at hmx0;rw[hmx0] at h3;cases mx with
                 |none=>rfl
                 |some _=>cases h3
        have hmc:=k5 (by rw[hmn];rfl)
        refine .val h.hi rfl (hrun m hcap hr) (.vs _ _ _ _ ⟨_,_,rfl⟩ hus λp hp'=>?_)
        rw[bu hk] at hp';obtain rfl:=Ai hp';refine ⟨?_,by omega⟩
        subst hmc;rw[Nat.sub_zero,Nat.sub_zero];split
        ·rfl
        ·rw[Nat.zero_mul,hadd]
       ·obtain rfl:=Ai he
        refine .val h.hi rfl (hrun m hcap hr) (.vw _ _ _ _ _ ⟨_,_,rfl⟩ hus λp hp'=>?_)
        rw[bu hk] at hp';obtain rfl:=Ai hp'
        by_cases hml:m=l
        ·exact ⟨m-l,0,by rw[Ad hml],by omega,λhne=>absurd (by omega) hne⟩
        ·refine ⟨m-l,l*s',by rw[Ac hml,hadd],by omega,λhne=>⟨by rw[q1],?_⟩⟩
         cases hnn:(β kk).isNil with
         |false=>rfl
         |true=>have:=(q4 hnn).2;omega
      ·cases he
   ·rename_i kk g' o' n' hv
    rw[hv] at v1 hl;obtain rfl:n'=n:=by simpa[lL] using hl
    cases hk:hp kk with
    |none=>rw[hk] at he;cases he
    |some z=>
     obtain ⟨g'',b⟩:=z;rw[hk] at he;cases b with
     |cells=>cases he
     |mp=>cases he
     |vec s' es=>
      dsimp only at he;split at he
      ·rename_i hc
       obtain ⟨rfl,rfl⟩:=hc;obtain ⟨q1,q2,q3,q4,q5,q6⟩:=(h.hi.at_ kk g'' _ hk).2.2;obtain ⟨_,hus,hx'⟩:=v1.vw_inv;obtain ⟨c',qo,e1',hcap,hqo⟩:=hx' _ (bu hk);obtain ⟨rfl,rfl⟩:qa=(β kk).base qo/\c=c':=by rw[e1] at e1';simpa using e1'
       obtain ⟨m,hr,k1,k2,k3,k4,k5⟩:=kc (P:=P) (w:=w) true a1 a2 a3 b1 b2 b3 hcap hb
       have hadd: ∀y,((β kk).base qo).map (·.add y)=(β kk).base (qo+y):=λy=>by
                unfold Place.base;cases (β kk).isNil<;>simp[Addr.add_lit,Cl]
       obtain rfl:=Ai he;refine .val h.hi rfl (hrun m hcap hr) (.vw _ _ _ _ _ ⟨_,_,rfl⟩ hus λp hp'=>?_)
       rw[bu hk] at hp';obtain rfl:=Ai hp'
       by_cases hml:m=l
       ·exact ⟨m-l,qo,by rw[Ad hml],by omega,λhne=>absurd (by omega) hne⟩
       ·refine ⟨m-l,qo+l*s',by rw[Ac hml,hadd],by omega,λhne=>?_⟩
        obtain ⟨z1,z2⟩:=hqo (by omega)
        exact ⟨by rw[z1,q1,Nat.add_mul],z2⟩
      ·cases he
   ·cases he
theorem Yw {t:TypeId}{x:Operand}{lo hi:Option Operand}{x':Opd}{lo' hi':Eb}(ho:o.op= .slice t x lo hi none)(hu:P.underlying t=some .string)(hx:aH N x=some x')(hlo:lG (aH N) lo=some lo')(hhi:lG (aH N) hi=some hi'){key:Nat}{e:Eff}(he:aX (.slstr x' lo' hi') g key (ev x'::((lo'.toList++hi'.toList).map ev)) hp=some e):Out1 P C U hp w S β used g e ((execOp ρ o).run P w):=by
 have v1:=h.at_ x x' hx;obtain ⟨a1,b1⟩:=h.opt hlo;obtain ⟨a2,b2⟩:=h.opt hhi;simp only[aX] at he;split at he
 ·rename_i l hv
  rw[hv] at v1
  have hmap:(lo'.toList++hi'.toList).map ev=(lo'.map ev).toList++((hi'.map ev).toList++(none:D6).toList):=by
   cases lo'<;>cases hi'<;>rfl
  have hso:lo'.isSome=(lo'.map ev).isSome/\hi'.isSome=(hi'.map ev).isSome:=by cases lo'<;>cases hi'<;>exact ⟨rfl,rfl⟩
  rw[hmap,hso.1,hso.2] at he;split at he
  ·rename_i p q hb
   obtain rfl:=Ai he;have e1:=v1.str_inv;have hsz:(⟨l.toArray⟩:ByteArray).size=l.length:=by show l.toArray.size=_;simp
   obtain ⟨m,hr,k1,k2,k3,k4,_⟩:=kc (P:=P) (w:=w) (E:=aG C S β used hp w) false (mx:=none) (mx':=none) a1 a2 rfl b1 b2 (λ_ _ e=>by cases e) (Be l.length) hb
   have hex:(⟨l.toArray⟩:ByteArray).extract p q=⟨((l.drop p).take (q-p)).toArray⟩:=by
    apply ByteArray.ext;rw[ByteArray.data_extract];simp
   refine .val h.hi rfl (v:=.string ⟨((l.drop p).take (q-p)).toArray⟩) ?_ (.str _);rw[<-hsz] at hr;rw[<-hex];simp[execOp,ho,Instr.sliceAt,Instr.slice,run_underlying hu,e1,hr]
  ·cases he
 ·cases he
end
theorem OV {E:Env}(k:IntKind): ∀(vs:List Value)(as:CL)(x r:Int)(m:Bool),vs.length=as.length->(∀i,i<as.length->V E (vs.getD i undef) (as.getD i .any))->p8 m k x as=some r->
  (vs.foldlM (if m=true then Builtin.max2 else Builtin.min2) (.int k x)).run P w= .ok (.int k r) w
 | [], [], x, r, m, _, _, h => by obtain rfl:x=r:=by simpa[p8] using h
                                  simp
 |v::vs,a::as,x,r,m,hl,hv,h=>by
  have v0:=hv 0 (by simp)
  simp only[List.getD_cons_zero] at v0;unfold p8 at h;split at h
  ·cases‹_::_= []›
  ·rename_i k' y r' hy
   obtain ⟨rfl,rfl⟩:=List.cons.inj hy;split at h
   ·rename_i hk;subst hk
    have ih:=OV k' vs as _ r m (by simpa using hl) (λi hi=>by simpa using hv (i+1) (by simpa using hi)) h
    rw[v0.int_inv];cases m
    ·simp only[A6,if_false] at ih⊢
     simpa[List.foldlM_cons,Builtin.min2] using ih
    ·simp only[if_true] at ih⊢
     simpa[List.foldlM_cons,Builtin.max2] using ih
   ·cases h
  ·cases h
 | [],_::_,_,_,_,hl,_,_=>by simp at hl
 |_::_,[],_,_,_,hl,_,_=>by simp at hl
theorem CJ (h:Sit P C U hp w S β used g N ρ ev){o:Oper}{c:Call}{m:Bool}{xs:DO}(ho:o.op= .call c)(hc:c.callee= .builtin (if m=true then .max else .min))(hx:dP (aH N) c.args.toList=some xs){key:Nat}{e:Eff}(he:aX (.minmax m xs) g key (xs.map ev) hp=some e):Out1 P C U hp w S β used g e ((execOp ρ o).run P w):=by
 obtain ⟨q1,q2⟩:=h.list _ _ hx;generalize hvs:xs.map ev=vs at he;cases vs with
 |nil=>simp[aX] at he
 |cons v r=>
  simp only[aX] at he;split at he
  ·rename_i k x
   cases hm:p8 m k x r with
   |none=>rw[hm] at he;cases he
   |some n=>
    rw[hm] at he;obtain rfl:=Ai he;have hlen:xs.length=r.length+1:=by have:=congrArg List.length hvs;simpa using this
    have hargs: ∃a0 ar,c.args.toList.map ρ=a0::ar:=by
     cases hl:c.args.toList.map ρ with
     |nil=>
      have h1:=congrArg List.length hl;rw[At,q1,hlen] at h1;cases h1
     |cons a0 ar=>exact ⟨a0,ar,rfl⟩
    obtain ⟨a0,ar,hal⟩:=hargs;rw[hvs,hal] at q2;have v0:=q2 0 (by omega)
    simp only[List.getD_cons_zero] at v0;have e0:=v0.int_inv;subst e0
    have hal':ar.length=r.length:=by
     have h1:=congrArg List.length hal;rw[At,q1,hlen] at h1;simpa using h1.symm
    have hrun:=OV (P:=P) (w:=w) k ar r x n m hal' (λi hi=>by simpa using q2 (i+1) (by omega)) hm
    refine .val h.hi rfl (v:=.int k n) ?_ (.int _ _);cases m
    ·simp only[A6,if_false] at hrun hc
     simp[execOp,ho,resolve,hc,invoke,builtin,Builtin.min_,hal,hrun]
    ·simp only[if_true] at hrun hc
     simp[execOp,ho,resolve,hc,invoke,builtin,Builtin.max_,hal,hrun]
  ·cases he
theorem yW {E:Env}: ∀(es:CS)(l:CF),aX.bytesOf es=some l-> ∃xs:Ee,xs.length=es.length/\(∀i,i<es.length->(es.getD i []).getD 0 .any= .int .u8 (xs.getD i 0))/\(xs.map λn=>UInt8.ofNat n.toNat)=l
 | [], l, h => by obtain rfl: []=l:=by simpa[aX.bytesOf] using h
                  exact ⟨[],rfl,by simp,rfl⟩
 |e::es,l,h=>by
  unfold aX.bytesOf at h;split at h
  ·rename_i e';cases e'
  ·rename_i n r heq
   obtain ⟨rfl,rfl⟩:=List.cons.inj heq;cases hb:aX.bytesOf es with
   |none=>rw[hb] at h;cases h
   |some l'=>
    rw[hb] at h;obtain rfl:=Ai h;obtain ⟨xs,h1,h2,h3⟩:=yW (E:=E) es l' hb;refine ⟨n::xs,by simp[h1],λi hi=>?_,by simp[h3]⟩
    cases i with
    |zero=>rfl
    |succ i=>simpa using h2 i (by simpa using hi)
  ·cases h
theorem aey (h:Sit P C U hp w S β used g N ρ ev){o:Oper}{s d el:TypeId}{a:Operand}{a':Opd}(ho:o.op= .convert s d a)(hs:P.underlying s=some (.slice el))(hel:P.underlying el=some (.int .u8))(hd:P.underlying d=some .string)(ha:aH N a=some a'){key:Nat}{e:Eff}(he:aX (.b2s a') g key [ev a'] hp=some e):Out1 P C U hp w S β used g e ((execOp ρ o).run P w):=by
 have v1:=h.at_ a a' ha;simp only[aX] at he;cases hes:cK hp (ev a') with
 |none=>rw[hes] at he;cases he
 |some er=>
  obtain ⟨es,r⟩:=er;rw[hes] at he;dsimp only at he;cases hb:aX.bytesOf es with
  |none=>rw[hb] at he;cases he
  |some l=>
   rw[hb] at he;obtain rfl:=Ai he;obtain ⟨ao,c,sz,e1,hcap,hsz,hne⟩:=yJ h.hi v1 hes;obtain ⟨xs,h1,h2,h3⟩:=yW (E:=aG C S β used hp w) es l hb;refine .val h.hi rfl (v:=.string ⟨l.toArray⟩) ?_ (.str _);cases es with
   |nil=>
    obtain rfl:xs= []:=AJ h1;obtain rfl: []=l:=by simpa using h3
    cases ao with
    |none=>
     have:=run_convert_bytes_nil (P:=P) w s el hs hel 0 c d hd;simp[execOp,ho,e1,this];rfl
    |some ad=>
     have hl:=run_loadCells_list (P:=P) w ad [] (by simp)
     have:=run_convert_bytes_string w s d el (some ad) 0 c hs hel hd;simp[execOp,ho,e1,this,Conv.bytesToString];simp at hl;simp[hl];rfl
   |cons x es'=>
    obtain ⟨b,off,rfl,hc⟩:=hne (by simp)
    have hs1:sz=1:=by
     have:=hsz 0 (by simp)
     have h0:x= [.int .u8 (xs.getD 0 0)]:=by
      unfold aX.bytesOf at hb;split at hb
      ·rename_i e';cases e'
      ·rename_i n r heq
       obtain ⟨rfl,rfl⟩:=List.cons.inj heq;have:=h2 0 (by simp)
       simp at this;simp[this]
      ·cases hb
     simp[h0] at this;exact this.symm
    subst hs1
    have:=run_convert_bytes_arg (P:=P) w s el hs hel b off (x::es').length c xs h1 (λi hi=>by
     obtain ⟨u,q1,q2,q3⟩:=hc i hi 0 (by omega)
     rw[h2 i hi] at q3;rw[q3.int_inv] at q1;simpa using q1) d hd
    have hb2:strOfNums xs=⟨l.toArray⟩:=by simp[strOfNums,h3]
    rw[hb2] at this;rw[As] at this;simp[execOp,ho,e1,this]
end
open Go.RowKit
section
variable {α:Type}(l:List α)(off:Nat)(cs:List α)(h:off+cs.length<=l.length)
include h
theorem jn:(cJ l off cs).length=l.length:=by simp[cJ];omega
theorem uT (i:Nat)(d:α):
  (cJ l off cs).getD i d=if off<=i/\i<off+cs.length then cs.getD (i-off) d else l.getD i d:=by
 have hl:(l.take off).length=off:=by simp;omega
 simp only[cJ,Aj]
 by_cases h1:i<off
 ·rw[BF (by omega),List.getElem?_take,Ad h1,Ac (by omega)]
 ·rw[BO (by omega),hl]
  by_cases h2:i<off+cs.length
  ·rw[BF (by omega),Ad ⟨by omega,h2⟩]
  ·rw[BO (by omega),List.getElem?_drop,Ac (by omega)]
   congr 2;omega
end
theorem AE (off:Nat): ∀(l:List Value)(k:Nat)(C:Array Value),off+k+l.length<=C.size->
  ((l.zipIdx k).foldl (λcs (x:Value×Nat)=>cs.setIfInBounds (off+x.2) x.1) C).size=C.size/\
  ∀i,((l.zipIdx k).foldl (λcs (x:Value×Nat)=>cs.setIfInBounds (off+x.2) x.1) C).getD i undef=if off+k<=i/\i<off+k+l.length then l.getD (i- (off+k)) undef else C.getD i undef
 | [],k,C,_=>⟨rfl,λi=>by rw[Ac (by simp)];rfl⟩
 |v::l,k,C,h=>by
  simp only[As] at h;obtain ⟨h1,h2⟩:=AE off l (k+1) (C.setIfInBounds (off+k) v) (by simp;omega)
  simp only[List.zipIdx_cons,List.foldl_cons];refine ⟨by rw[h1];simp,λi=>?_⟩
  rw[h2 i]
  by_cases hi:i=off+k
  ·subst hi
   rw[Ac (by omega),Ad ⟨by omega,by simp⟩]
   simp[Ak,Array.getElem?_setIfInBounds];rw[Ad (by omega)];simp
  ·by_cases h3:off+(k+1)<=i/\i<off+(k+1)+l.length
   ·rw[Ad h3,Ad ⟨by omega,by simp;omega⟩]
    rw[show i- (off+k)=(i- (off+(k+1)))+1 from by omega,List.getD_cons_succ]
   ·rw[Ac h3,Ac (by simp;omega)]
    simp only[Ak,Array.getElem?_setIfInBounds_ne (λe=>hi e.symm)]
section
variable {P:Program} {w:World} {E:Env}
theorem Cs.put {C X:Array Value}{z cs:CL}(h:Cs E C z)(x:Cs E X cs)(off:Nat)(hl:off+cs.length<=z.length):
  Cs E (X.zipIdx.foldl (λcs (x:Value×Nat)=>cs.setIfInBounds (off+x.2) x.1) C) (cJ z off cs):=by
 have e:X.zipIdx.foldl (λcs (x:Value×Nat)=>cs.setIfInBounds (off+x.2) x.1) C=(X.toList.zipIdx 0).foldl (λcs (x:Value×Nat)=>cs.setIfInBounds (off+x.2) x.1) C:=by
  rw[<-Array.foldl_toList,Array.toList_zipIdx]
 rw[e];have hxl:X.toList.length=cs.length:=by simpa using x.len
 obtain ⟨h1,h2⟩:=AE off X.toList 0 C (by rw[hxl,h.len];omega)
 have hg: ∀j,X.toList.getD j undef=X.getD j undef:=λj=>by simp[Ak,Aj]
 refine ⟨by rw[h1,jn _ _ _ hl];exact h.len,λi hi=>?_,λi hi=>?_⟩
 ·rw[jn _ _ _ hl] at hi
  rw[h2 i,hxl];split
  ·rw[hg];exact x.one _ (by omega)
  ·exact h.one _ hi
 ·rw[jn _ _ _ hl] at hi
  rw[h2 i,uT _ _ _ hl,hxl];simp only[Nat.add_zero];split
  ·rw[hg];exact x.at_ _ (by omega)
  ·exact h.at_ _ hi
theorem O9 {pl:Nat->Option (Nat×Nat)}: ∀(is:CT)(ps:List (Nat×Nat))(vs:List Value)(as:CL)(C:Array Value)(z r:CL),dP pl is=some ps->vs.length=as.length->(∀i,i<as.length->V E (vs.getD i undef) (as.getD i .any))->
  Cs E C z->rq z ps as=some r->is.length=vs.length-> ∃C',Instr.fill pl C (is.zip vs)=some C'/\Cs E C' r
 | [],ps,vs,as,C,z,r,h1,h2,h3,h4,h5,h6=>by
  obtain rfl: []=ps:=by simpa[dP] using h1
  obtain rfl:vs= []:=AJ h6.symm;obtain rfl:as= []:=AJ h2.symm;obtain rfl:z=r:=by simpa[rq] using h5
  exact ⟨C,rfl,h4⟩
 |i::is,ps,v::vs,a::as,C,z,r,h1,h2,h3,h4,h5,h6=>by
  obtain ⟨⟨off,sz⟩,ps',q1,q2,rfl⟩:=pj h1;simp only[rq] at h5;cases hc:dJ a with
  |none=>rw[hc] at h5;cases h5
  |some cs=>
   rw[hc] at h5;dsimp only at h5;split at h5
   ·rename_i hl
    have v0:=h3 0 (by simp)
    simp only[List.getD_cons_zero] at v0;obtain ⟨c1,c2,c3⟩:=v0.cells hc;have hx:Cs E v.cells cs:=⟨c1,c2,c3⟩;have hp:=h4.put hx off (by rw[hl.1];exact hl.2)
    obtain ⟨C',g1,g2⟩:=O9 is ps' vs as _ _ r q2 (by simpa using h2) (λi hi=>by simpa using h3 (i+1) (by simpa using hi)) hp h5 (by simpa using h6)
    refine ⟨C',?_,g2⟩
    have e1:(decide (v.cells.size≠sz)||decide (off+v.cells.size>C.size))=false:=by
     have:=h4.len;simp[c1,hl.1];omega
    simp only[List.zip_cons_cons,Instr.fill,q1,e1,A6,if_false];exact g1
   ·cases h5
 |_::_,_,[],_,_,_,_,_,_,_,_,_,h6=>by simp at h6
 |_::_,_,_::_,[],_,_,_,_,h2,_,_,_,_=>by simp at h2
theorem FY {t:TypeId}{a:AV}(h:km P t=some a): ∃i z,P.info? t=some i/\i.zero=some z/\V E z a:=by
 unfold km at h;cases hi:P.info? t with
 |none=>rw[hi] at h;cases h
 |some i=>
  rw[hi] at h;cases hz:i.zero with
  |none=>simp[hz] at h
  |some z=>simp[hz] at h;exact ⟨i,z,rfl,hz,ab5 h⟩
theorem qE {t:TypeId}{cs:CL}(h:(km P t).bind dJ=some cs): ∃i z,P.info? t=some i/\i.zero=some z/\Cs E z.cells cs:=by
 cases hz:km P t with
 |none=>rw[hz] at h;cases h
 |some a=>
  rw[hz] at h;obtain ⟨i,z,h1,h2,h3⟩:=FY (E:=E) hz;obtain ⟨c1,c2,c3⟩:=h3.cells h;exact ⟨i,z,h1,h2,⟨c1,c2,c3⟩⟩
end
section
variable {P:Program} {C:Ctx} {U:Nat->Prop} {hp:HF} {w:World} {S:Nat->Prop} {β:Nat->Place} {used:Nat->Nat->Prop} {g:Nat} {N:Nums} {ρ:Operand->Value} {ev:Opd->AV}
theorem Cu (ρ:Operand->Value)(parts:Array (Nat×Operand)):(parts.map λ(i,x)=>(i,ρ x)).toList=(parts.toList.map (·.1)).zip ((parts.toList.map (·.2)).map ρ):=by
 rw[Array.toList_map]
 induction parts.toList with
 |nil=>rfl
 |cons x r ih=>obtain ⟨i,x⟩:=x;simp[ih]
theorem YJ (h:Sit P C U hp w S β used g N ρ ev){o:Oper}{t:TypeId}{parts:Array (Nat×Operand)}{pl:Nat->Option (Nat×Nat)}{z:CL}{xs:DO}{ps:List (Nat×Nat)}(ho:o.op= .build t parts)(hpl:na P t=some pl)(hz:(km P t).bind dJ=some z)(hx:dP (aH N) (parts.toList.map (·.2))=some xs)(hps:dP pl (parts.toList.map (·.1))=some ps){key:Nat}{e:Eff}(he:aX (.build z ps xs) g key (xs.map ev) hp=some e):Out1 P C U hp w S β used g e ((execOp ρ o).run P w):=by
 obtain ⟨q1,q2⟩:=h.list _ _ hx;simp only[aX] at he;cases hf:rq z ps (xs.map ev) with
 |none=>rw[hf] at he;cases he
 |some cs=>
  rw[hf] at he;obtain rfl:=Ai he;obtain ⟨i,zv,h1,h2,h3⟩:=qE (E:=aG C S β used hp w) hz;obtain ⟨C',g1,g2⟩:=O9 (pl:=pl) (parts.toList.map (·.1)) ps ((parts.toList.map (·.2)).map ρ) (xs.map ev) _ z cs hps (by simpa using q1) (λi hi=>q2 i (by simpa using hi)) h3 hf (by simp)
  have hb:P.built t (parts.map λ(i,x)=>(i,ρ x)).toList=some C':=by
   rw[Cu];unfold na at hpl;unfold Program.built;rw[h1];cases hu:P.underlying t with
   |none=>rw[hu] at hpl;cases hpl
   |some d=>
    rw[hu] at hpl;cases d<;>dsimp only at hpl⊢ <;>first|(cases hpl;done)|skip
    ·rename_i n el
     cases hs:fj P el with
     |none=>rw[hs] at hpl;cases hpl
     |some s=>
      rw[hs] at hpl;obtain rfl:=Ai hpl;obtain ⟨ie,hie,rfl⟩:=Ul hs;simp only[h2,hie];exact g1
    ·rename_i fs
     cases hm:fs.toList.mapM (λf=>(P.info? f.type).map λi=>(f.offset,i.size)) with
     |none=>rw[hm] at hpl;cases hpl
     |some l=>
      rw[hm] at hpl;obtain rfl:=Ai hpl;simp only[h2,hm];simpa using g1
  have:=run_build (P:=P) w t _ C' hb;exact .val h.hi rfl (v:=.agg C') (by simp[execOp,ho,this]) (.agg _ _ g2.len g2.one g2.at_)
theorem Fx {E:Env}{w:World}{C:Array Value}{T:TypeId}{fr:Nat×Nat}{cs:CL}(h:Cs E C cs)(hf: ∀o,o<C.size-> ¬(fr.1<=o/\o<fr.2)):CellsOk E (w.alloc (.cells C T fr)) w.heap.size 0 cs:=λj hj=>by
 have hj':j<C.size:=by rw[h.len];exact hj
 refine ⟨C.getD j undef,?_,?_,h.one j hj,h.at_ j hj⟩
 ·have:(w.alloc (.cells C T fr)).heap[w.heap.size]? =some (.cells C T fr):=by show (w.heap.push _)[w.heap.size]? =_;simp
  unfold World.cell?;dsimp only;rw[this];simp[Array.getD,hj']
 ·have:(w.alloc (.cells C T fr)).heap[w.heap.size]? =some (.cells C T fr):=by show (w.heap.push _)[w.heap.size]? =_;simp
  have:=hf j hj';simp only[World.frozen?,‹(w.alloc (.cells C T fr)).heap[w.heap.size]? =_›,A7];simp only[Bool.and_eq_false_iff,AR];omega
theorem Cs.mono {E E':Env}(l:E.le E'){X:Array Value}{as:CL}(h:Cs E X as):Cs E' X as:=⟨h.len,h.one,λi hi=>(h.at_ i hi).mono l⟩
theorem I7 (h:HI C U hp w S β used)(hg: ¬U g)(hg0:g≠0){X:Array Value}{cs:CL}(hx:Cs (aG C S β used hp w) X cs)(T:TypeId)(key:Nat){r:Result Next}(hr:r= .ok (.value (.pointer (some ⟨w.heap.size,0,none⟩))) (w.alloc (.cells X T))):
  Out1 P C U hp w S β used g {res:=.ref key g 0,wr:=[(key,some (g,.cells cs))]} r:=by
 obtain ⟨S',β',used',q1,q2,q3,q4⟩:=h.new hg hg0 key (.cells X T) ⟨w.heap.size,0,0,0,false⟩ (λ_=>rfl) (.cells cs) (λE l=>⟨rfl,Fx (hx.mono l) (by simp)⟩)
 refine ⟨_,_,.inl hr,S',β',used',q1,q2,.ref _ _ _ _ ⟨_,_,rfl⟩ q4 λp hp'=>?_⟩
 have:=fF hp';obtain ⟨b,_,rfl⟩:=this;rw[q3]
section
variable (h:Sit P C U hp w S β used g N ρ ev){o:Oper}{t:TypeId}
include h
theorem aex {x:Operand}{x':Opd}(ho:o.op= .box t x)(hx:aH N x=some x'){key:Nat}{e:Eff}(he:aX (.box x') g key [ev x'] hp=some e):Out1 P C U hp w S β used g e ((execOp ρ o).run P w):=by
 have v1:=h.at_ x x' hx;simp only[aX] at he;cases hc:dJ (ev x') with
 |none=>rw[hc] at he;cases he
 |some cs=>
  rw[hc] at he;obtain rfl:=Ai he;obtain ⟨c1,c2,c3⟩:=v1.cells hc;exact I7 h.hi h.fresh h.g0 (X:=(ρ x).cells) ⟨c1,c2,c3⟩ t key (by simp[execOp,ho,Instr.box,newVar,newRow])
theorem YK {z:AV}(ho:o.op= .alloc t)(hz:km P t=some z){key:Nat}{e:Eff}(he:aX (.alloc z) g key [] hp=some e):Out1 P C U hp w S β used g e ((execOp ρ o).run P w):=by
 obtain ⟨i,zv,h1,h2,h3⟩:=FY (E:=aG C S β used hp w) hz;simp only[aX] at he;cases hc:dJ z with
 |none=>rw[hc] at he;cases he
 |some cs=>
  rw[hc] at he;obtain rfl:=Ai he;obtain ⟨c1,c2,c3⟩:=h3.cells hc;exact I7 h.hi h.fresh h.g0 (X:=zv.cells) ⟨c1,c2,c3⟩ t key (by simp[execOp,ho,Instr.alloc,newVar,newRow,qm h1 h2])
end
structure Rs (E:Env)(s:Nat)(X:List Value)(es:CS):Prop where
 len:X.length=es.length*s
 each: ∀i,i<es.length->(es.getD i []).length=s
 one: ∀i,i<es.length-> ∀j,j<s->(X.getD (i*s+j) undef).oneCell'=true
 at_: ∀i,i<es.length-> ∀j,j<s->V E (X.getD (i*s+j) undef) ((es.getD i []).getD j .any)
theorem Rs.mono {E E':Env}(l:E.le E'){s:Nat}{X:List Value}{es:CS}(h:Rs E s X es):Rs E' s X es:=⟨h.len,h.each,h.one,λi hi j hj=>(h.at_ i hi j hj).mono l⟩
theorem Rs.nil (E:Env)(s:Nat):Rs E s [] []:=⟨by simp,by simp,by simp,by simp⟩
theorem Rs.append {E:Env}{s:Nat}{X Y:List Value}{es fs:CS}(h:Rs E s X es)(k:Rs E s Y fs):Rs E s (X++Y) (es++fs):=by
 have key: ∀i,i<es.length+fs.length-> ∀j,j<s->(i<es.length/\(X++Y).getD (i*s+j) undef=X.getD (i*s+j) undef/\(es++fs).getD i []=es.getD i [])∨
   (es.length<=i/\(X++Y).getD (i*s+j) undef=Y.getD ((i-es.length)*s+j) undef/\(es++fs).getD i []=fs.getD (i-es.length) []):=by
  intro i hi j hj
  by_cases hlt:i<es.length
  ·left
   have:i*s+j<X.length:=by
    rw[h.len]
    calc i*s+j<i*s+s:=by omega
     _=(i+1)*s:=by rw[Nat.add_mul];omega
     _<=es.length*s:=A8 _ hlt
   exact ⟨hlt,by simp[Aj,BF this],by simp[Aj,BF hlt]⟩
  ·right
   have hge:X.length<=i*s+j:=by
    rw[h.len];have:es.length*s<=i*s:=A8 _ (by omega)
    omega
   refine ⟨by omega,?_,by simp[Aj,BO (Nat.le_of_not_lt hlt)]⟩
   simp only[Aj,BO hge,h.len]
   congr 2
   rw[Nat.sub_mul];have:es.length*s<=i*s:=A8 _ (by omega)
   omega
 refine ⟨by simp[h.len,k.len,Nat.add_mul],λi hi=>?_,λi hi j hj=>?_,λi hi j hj=>?_⟩
 ·simp only[Ar] at hi
  by_cases hs:s=0
  ·by_cases hlt:i<es.length
   ·simp[Aj,BF hlt];simpa[Aj] using h.each i hlt
   ·simp[Aj,BO (Nat.le_of_not_lt hlt)];simpa[Aj] using k.each (i-es.length) (by omega)
  ·rcases key i hi 0 (by omega) with ⟨q,_,e⟩|⟨q,_,e⟩
   ·rw[e];exact h.each i q
   ·rw[e];exact k.each _ (by omega)
 ·simp only[Ar] at hi
  rcases key i hi j hj with ⟨q,e,_⟩|⟨q,e,_⟩
  ·rw[e];exact h.one i q j hj
  ·rw[e];exact k.one _ (by omega) j hj
 ·simp only[Ar] at hi
  rcases key i hi j hj with ⟨q,e,e2⟩|⟨q,e,e2⟩
  ·rw[e,e2];exact h.at_ i q j hj
  ·rw[e,e2];exact k.at_ _ (by omega) j hj
theorem Ug {E:Env}{w:World}{Y:Array Value}{T:TypeId}{fr:Nat×Nat}{s cap:Nat}{X:List Value}{es:CS}(h:Rs E s X es)(hcap:es.length<=cap)(hsz:cap*s<=Y.size)(hY: ∀i,i<X.length->Y.getD i undef=X.getD i undef)(hf: ∀o,o<Y.size-> ¬(fr.1<=o/\o<fr.2)):BlkOk E (w.alloc (.cells Y T fr)) ⟨w.heap.size,0,cap,s,false⟩ (.vec s es):=by
 have hb:(w.alloc (.cells Y T fr)).heap[w.heap.size]? =some (.cells Y T fr):=by show (w.heap.push _)[w.heap.size]? =_;simp
 have hcell: ∀j,j<Y.size->(w.alloc (.cells Y T fr)).cell? ⟨w.heap.size,j,none⟩=some (Y.getD j undef)/\(w.alloc (.cells Y T fr)).frozen? ⟨w.heap.size,j,none⟩=false:=λj hj=>by
  refine ⟨by unfold World.cell?;dsimp only;rw[hb];simp[Array.getD,hj],?_⟩
  have:=hf j hj;simp only[World.frozen?,hb];simp only[Bool.and_eq_false_iff,AR];omega
 have hlt: ∀i,i<es.length-> ∀j,j<s->i*s+j<X.length/\i*s+j<Y.size:=λi hi j hj=>by
  have h1:i*s+j<(i+1)*s:=by rw[Nat.add_mul];omega
  have h2:(i+1)*s<=es.length*s:=A8 _ hi;have h3:es.length*s<=cap*s:=A8 _ hcap;exact ⟨by rw[h.len];omega,by omega⟩
 refine ⟨rfl,h.each,hcap,(λhn=>by cases hn),λj hj=>?_,λi hi j hj=>?_⟩
 ·simp only[A7]
  obtain ⟨q1,q2⟩:=hcell j (B7 hj hsz);exact ⟨by rw[q1];rfl,q2⟩
 ·rw[h.each i hi] at hj
  obtain ⟨k1,k2⟩:=hlt i hi j hj;obtain ⟨q1,q2⟩:=hcell _ k2;simp only[A7];refine ⟨_,q1,q2,?_,?_⟩
  ·rw[hY _ k1];exact h.one i hi j hj
  ·rw[hY _ k1];exact h.at_ i hi j hj
theorem sC (h:HI C U hp w S β used)(hg: ¬U g)(hg0:g≠0){s cap:Nat}{X:List Value}{es:CS}(hx:Rs (aG C S β used hp w) s X es)(Y:Array Value)(T:TypeId)(fr:Nat×Nat)(key:Nat)(hcap:es.length<=cap)(hsz:cap*s<=Y.size)(hY: ∀i,i<X.length->Y.getD i undef=X.getD i undef)(hf: ∀o,o<Y.size-> ¬(fr.1<=o/\o<fr.2)):
  ∃S' β' used',HI C (Or1 U g) (up hp key (some (g,.vec s es))) (w.alloc (.cells Y T fr)) S' β' used'/\(aG C S β used hp w).le (aG C S' β' used' (up hp key (some (g,.vec s es))) (w.alloc (.cells Y T fr)))/\
   V (aG C S' β' used' (up hp key (some (g,.vec s es))) (w.alloc (.cells Y T fr))) (.slice (some ⟨w.heap.size,0,none⟩) es.length cap) (.vs key g es.length):=by
 obtain ⟨S',β',used',q1,q2,q3,q4⟩:=h.new hg hg0 key (.cells Y T fr) ⟨w.heap.size,0,cap,s,false⟩ (λ_=>rfl) (.vec s es) (λE l=>Ug (hx.mono l) hcap hsz hY hf)
 refine ⟨S',β',used',q1,q2,.vs _ _ _ _ ⟨_,_,rfl⟩ q4 λp hp'=>?_⟩
 obtain ⟨b,_,rfl⟩:=fF hp';rw[q3];exact ⟨by simp[Place.base],hcap⟩
theorem XY (E:Env)(l:CF):Rs E 1 (l.map λb=>Value.int .u8 b.toNat) (byteCells l):=by
 refine ⟨by simp[byteCells],λi hi=>?_,λi hi j hj=>?_,λi hi j hj=>?_⟩<;>simp only[byteCells,At] at hi
 ·simp[byteCells,Aj,hi]
 ·obtain rfl:j=0:=by omega
  simp[Aj,hi,Value.oneCell']
 ·obtain rfl:j=0:=by omega
  simp[byteCells,Aj,hi];exact .int _ _
theorem Cg {α:Type}(n:Nat)(a d:α)(i:Nat)(h:i<n):(iY n a).getD i d=a:=by simp[iY,Aj,h]
theorem zx {E:Env}{z:Array Value}{cs:CL}(h:Cs E z cs)(hs:cs.length≠0)(n:Nat):Rs E cs.length (madeCells z (n*cs.length)).toList (iY n cs):=by
 have hg: ∀i,i<n-> ∀j,j<cs.length->(madeCells z (n*cs.length)).toList.getD (i*cs.length+j) undef=z.getD j undef:=λi hi j hj=>by
  have hlt:i*cs.length+j<n*cs.length:=by
   have:(i+1)*cs.length<=n*cs.length:=A8 _ hi;rw[Nat.add_mul] at this;omega
  have hm:(i*cs.length+j) % cs.length=j:=by rw[Nat.mul_comm,Nat.mul_add_mod,Nat.mod_eq_of_lt hj]
  have hz:j<z.size:=by rw[h.len];exact hj
  simp only[madeCells,Array.toList_map,Array.toList_range,Aj,Cf,List.getElem?_range hlt,Option.map_some,Option.getD_some,h.len,hm];simp[Array.getD,hz]
 have hl:(iY n cs).length=n:=by simp[iY]
 refine ⟨by simp[madeCells,iY],λi hi=>?_,λi hi j hj=>?_,λi hi j hj=>?_⟩<;>rw[hl] at hi
 ·rw[Cg _ _ _ _ hi]
 ·rw[hg i hi j hj];exact h.one j hj
 ·rw[hg i hi j hj,Cg _ _ _ _ hi];exact h.at_ j hj
theorem ac3 (h:Sit P C U hp w S β used g N ρ ev){o:Oper}{t el:TypeId}{n c:Operand}{n' c':Opd}{i:TypeInfo}{z:CL}(ho:o.op= .makeSlice t n c)(hu:P.underlying t=some (.slice el))(hi:P.info? el=some i)(hi0:i.size≠0)(hz:(km P el).bind dJ=some z)(hn:aH N n=some n')(hc:aH N c=some c'){key:Nat}{e:Eff}(he:aX (.mksl i.size i.bytes z n' c') g key [ev n',ev c'] hp=some e):Out1 P C U hp w S β used g e ((execOp ρ o).run P w):=by
 have v1:=h.at_ n n' hn;have v2:=h.at_ c c' hc;simp only[aX] at he;split at he
 ·rename_i a b ea eb
  rw[ea] at v1;rw[eb] at v2
  split at he
  ·rename_i hq
   obtain ⟨h0,hab,hzl,hroom⟩:=hq;obtain rfl:=Ai he;obtain ⟨i',zv,q1,q2,q3⟩:=qE (E:=aG C S β used hp w) hz;obtain rfl:i'=i:=by rw[q1] at hi;simpa using hi
   have hr:b.toNat* (i'.bytes+1)<=140737488355328:=by simpa[ni] using hroom
   rw[Nat.mul_add,Nat.mul_one] at hr;have ha:b=(b.toNat:Int):=by omega
   have hb:(i'.bytes:Int)*b<=281474976710656:=by
    have h2:i'.bytes*b.toNat<=281474976710656:=by rw[Nat.mul_comm];omega
    have h3:((i'.bytes*b.toNat:Nat):Int)<=281474976710656:=by
     generalize i'.bytes*b.toNat=m at h2;omega
    rw[Int.natCast_mul,<-ha] at h3;exact h3
   have hrun:=run_make (P:=P) w t el i' zv hu q1 q2 .i64 .i64 a b h0 hab hb (by omega)
   rw[<-hzl] at hrun⊢;have hz0:z.length≠0:=by omega
   have hx:=zx q3 hz0 a.toNat;have hle:a.toNat*z.length<=b.toNat*z.length:=A8 _ (by omega)
   obtain ⟨S',β',used',k1,k2,k3⟩:=sC h.hi h.fresh h.g0 (cap:=b.toNat) hx (madeCells zv.cells (b.toNat*z.length)) el (0,0) key (by simp[iY];omega) (by simp[madeCells]) (λi hi=>by
    have hi':i<a.toNat*z.length:=by simpa[madeCells] using hi
    have hi2:i<b.toNat*z.length:=by omega
    simp[madeCells,Ak,Aj,hi',hi2]) (by simp)
   rw[show (iY a.toNat z).length=a.toNat from by simp[iY]] at k3
   exact ⟨_,_,.inl (by simp[execOp,ho,v1.int_inv,v2.int_inv,hrun]),S',β',used',k1,k2,k3⟩
  ·cases he
 ·cases he
end
open Go.RowKit
theorem je (D:CT)(hp:HF):hov (bU D) hp=dC hp D:=by
 induction D with
 |nil=>funext k;simp[bU,hov,dC]
 |cons d r ih=>
  funext k
  simp only[bU,hov,ih,up,dC,List.contains_cons]
  by_cases e:k=d
  ·simp[e]
  ·simp[e]
section
variable {P:Program} {w:World} {E:Env}
theorem aee {n s i j i' j':Nat}(hj:j<s)(hj':j'<s)(h:i*s+j=i'*s+j'):i=i'/\j=j':=by
 have hs:0<s:=by omega
 have h1:(i*s+j)/ s=i:=by rw[Nat.mul_comm,Nat.mul_add_div hs,Nat.div_eq_of_lt hj];omega
 have h2:(i'*s+j')/ s=i':=by rw[Nat.mul_comm,Nat.mul_add_div hs,Nat.div_eq_of_lt hj'];omega
 have:i=i':=by rw[<-h1,<-h2,h]
 subst this;exact ⟨rfl,by omega⟩
theorem Rs.put {C X:Array Value}{s:Nat}{z:CS}{cs:CL}(h:Rs E s C.toList z)(x:Cs E X cs)(hs:cs.length=s)(i:Nat)(hi:i<z.length):
  Rs E s (X.zipIdx.foldl (λcs (x:Value×Nat)=>cs.setIfInBounds (i*s+x.2) x.1) C).toList (z.set i cs):=by
 have e:X.zipIdx.foldl (λcs (x:Value×Nat)=>cs.setIfInBounds (i*s+x.2) x.1) C=(X.toList.zipIdx 0).foldl (λcs (x:Value×Nat)=>cs.setIfInBounds (i*s+x.2) x.1) C:=by
  rw[<-Array.foldl_toList,Array.toList_zipIdx]
 rw[e];have hxl:X.toList.length=s:=by have:=x.len;simp;omega
 have hC:C.size=z.length*s:=by simpa using h.len
 have hin:i*s+s<=C.size:=by
  rw[hC];have:(i+1)*s<=z.length*s:=A8 _ hi;rw[Nat.add_mul] at this;omega
 obtain ⟨h1,h2⟩:=AE (i*s) X.toList 0 C (by rw[hxl];omega)
 have hg: ∀(Y:Array Value) j,Y.toList.getD j undef=Y.getD j undef:=λY j=>by simp[Ak,Aj]
 have key: ∀i',i'<z.length-> ∀j,j<s->((X.toList.zipIdx 0).foldl (λcs (x:Value×Nat)=>cs.setIfInBounds (i*s+x.2) x.1) C).toList.getD (i'*s+j) undef=if i'=i then X.getD j undef else C.toList.getD (i'*s+j) undef:=by
  intro i' hi' j hj;rw[hg,h2,hxl];simp only[Nat.add_zero]
  by_cases e:i'=i
  ·subst e
   rw[Ad ⟨by omega,by omega⟩,Ad rfl,hg]
   congr 1;omega
  ·have hni: ¬(i*s<=i'*s+j/\i'*s+j<i*s+s):=by
    rintro ⟨q1,q2⟩
    obtain ⟨j',hj',e2⟩: ∃j',j'<s/\i'*s+j=i*s+j':=⟨i'*s+j-i*s,by omega,by omega⟩
    exact e (aee (n:=0) hj hj' e2).1
   rw[Ac hni,Ac e,hg]
 have hset: ∀i',i'<z.length->(z.set i cs).getD i' []=if i'=i then cs else z.getD i' []:=λi' _=>nk z i cs i' [] hi
 refine ⟨by simp[h1,hC],λi' hi'=>?_,λi' hi' j hj=>?_,λi' hi' j hj=>?_⟩<;>simp only[List.length_set] at hi'
 ·rw[hset i' hi'];split
  ·exact hs
  ·exact h.each i' hi'
 ·rw[key i' hi' j hj];split
  ·exact x.one j (by omega)
  ·exact h.one i' hi' j hj
 ·rw[key i' hi' j hj,hset i' hi'];split
  ·exact x.at_ j (by omega)
  ·exact h.at_ i' hi' j hj
theorem wn {s:Nat}: ∀(is:CT)(vs:List Value)(as:CL)(C:Array Value)(z r:CS),vs.length=as.length->(∀i,i<as.length->V E (vs.getD i undef) (as.getD i .any))->
  Rs E s C.toList z->lU s z is as=some r->is.length=vs.length-> ∃C',Instr.fill (λi=>some (i*s,s)) C (is.zip vs)=some C'/\Rs E s C'.toList r/\r.length=z.length
 | [],vs,as,C,z,r,h2,h3,h4,h5,h6=>by
  obtain rfl:vs= []:=AJ h6.symm;obtain rfl:as= []:=AJ h2.symm;obtain rfl:z=r:=by simpa[lU] using h5
  exact ⟨C,rfl,h4,rfl⟩
 |i::is,v::vs,a::as,C,z,r,h2,h3,h4,h5,h6=>by
  simp only[lU] at h5;cases hc:dJ a with
  |none=>rw[hc] at h5;cases h5
  |some cs=>
   rw[hc] at h5;dsimp only at h5;split at h5
   ·rename_i hl
    have v0:=h3 0 (by simp)
    simp only[List.getD_cons_zero] at v0;obtain ⟨c1,c2,c3⟩:=v0.cells hc;have hx:Cs E v.cells cs:=⟨c1,c2,c3⟩;have hp:=h4.put hx hl.1 i hl.2;obtain ⟨C',g1,g2,g3⟩:=wn is vs as _ _ r (by simpa using h2) (λi hi=>by simpa using h3 (i+1) (by simpa using hi)) hp h5 (by simpa using h6)
    refine ⟨C',?_,g2,by rw[g3];simp⟩
    have hC:C.size=z.length*s:=by simpa using h4.len
    have hin:i*s+s<=C.size:=by
     rw[hC];have:(i+1)*s<=z.length*s:=A8 _ hl.2;rw[Nat.add_mul] at this;omega
    have e1:(decide (v.cells.size≠s)||decide (i*s+v.cells.size>C.size))=false:=by
     simp[c1,hl.1];omega
    simp only[List.zip_cons_cons,Instr.fill,e1,A6,if_false];exact g1
   ·cases h5
 |_::_,[],_,_,_,_,_,_,_,_,h6=>by simp at h6
 |_::_,_::_,[],_,_,_,h2,_,_,_,_=>by simp at h2
end
section
variable {P:Program} {C:Ctx} {U:Nat->Prop} {hp:HF} {w:World} {S:Nat->Prop} {β:Nat->Place} {used:Nat->Nat->Prop} {g:Nat} {N:Nums} {ρ:Operand->Value} {ev:Opd->AV}
theorem HI.frz' (h:HI C U hp w S β used)(D:CT): ∃S1,HI C U (dC hp D) w S1 β used/\(aG C S β used hp w).le (aG C S1 β used (dC hp D) w)/\RenOk (aG C S β used hp w) (aG C S1 β used (dC hp D) w) (j5 hp D):=
 ⟨_,(h.drop D).1,(h.drop D).2,h.frz D⟩
theorem aew (h:Sit P C U hp w S β used g N ρ ev){o:Oper}{t el:TypeId}{n s:Nat}{parts:Array (Nat×Operand)}{z:CL}{xs:DO}(ho:o.op= .buildSlice t n parts)(hu:P.underlying t=some (.slice el))(hs:fj P el=some s)(hz:(km P el).bind dJ=some z)(hs0:s≠0)(hx:dP (aH N) (parts.toList.map (·.2))=some xs){key:Nat}{e:Eff}(he:aX (.bsl s z n (parts.toList.map (·.1)) xs) g key (xs.map ev) hp=some e):Out1 P C U hp w S β used g e ((execOp ρ o).run P w):=by
 obtain ⟨q1,q2⟩:=h.list _ _ hx;obtain ⟨i,zv,z1,z2,_⟩:=qE (E:=aG C S β used hp w) hz
 have hzc: ∀E,Cs E zv.cells z:=λE=>by
  obtain ⟨i',zv',y1,y2,y3⟩:=qE (E:=E) hz;rw[z1] at y1;obtain rfl:=Ai y1
  rw[z2] at y2;obtain rfl:=Ai y2
  exact y3
 have hrun: ∀C':Array Value,n*s<=2^24->Instr.fill (λi=>some (i*s,s)) (madeCells zv.cells (n*s)) ((parts.toList.map (·.1)).zip ((parts.toList.map (·.2)).map ρ))=some C'->
   (execOp ρ o).run P w= .ok (.value (.slice (some ⟨w.heap.size,0,none⟩) n n)) (w.alloc (.cells C' el)):=λC' hn hf=>by
  have hf':Instr.fill (λi=>some (i*s,s)) ((Array.range (n*s)).map (zv.cells[· % zv.cells.size]!)) (parts.map λ(i,x)=>(i,ρ x)).toList=some C':=by rw[Cu];exact hf
  have hn': ¬(n*s>2^24):=by omega
  have hb:(Instr.buildSlice t n (parts.map λ(i,x)=>(i,ρ x))).run P w= .ok (.slice (some ⟨w.heap.size,0,none⟩) n n) (w.alloc (.cells C' el)):=by
   simp only[Instr.buildSlice,Sem.run_bind,run_underlying hu,Result.andThen_ok,fe hs,Ac hn',Sem.run_pure]
   by_cases h0:n*s=0
   ·have hm:(Array.range (n*s)).map ((#[]:Array Value)[· % (#[]:Array Value).size]!)=madeCells zv.cells (n*s):=by rw[h0];simp[madeCells]
    rw[Ad h0];simp only[Sem.run_bind,Sem.run_pure,Result.andThen_ok];rw[hm,show madeCells zv.cells (n*s)=(Array.range (n*s)).map (zv.cells[· % zv.cells.size]!) from rfl,hf']
    simp[newRow]
   ·rw[Ac h0]
    simp only[Sem.run_bind,qm z1 z2,Result.andThen_ok,Sem.run_pure];rw[hf'];simp[newRow]
  simp[execOp,ho,hb]
 simp only[aX] at he;split at he
 case isFalse=>cases he
 rename_i hc;obtain ⟨hn,rfl⟩:=hc;have hrl:(iY n z).length=n:=by simp[iY]
 split at he
 ·cases hf:lU z.length (iY n z) (parts.toList.map (·.1)) (xs.map ev) with
  |none=>rw[hf] at he;cases he
  |some es=>
   rw[hf] at he;obtain rfl:=Ai he;obtain ⟨C',g1,g2,g3⟩:=wn (E:=aG C S β used hp w) (parts.toList.map (·.1)) ((parts.toList.map (·.2)).map ρ) (xs.map ev) _ _ es (by simpa using q1) (λi hi=>q2 i (by simpa using hi)) (zx (hzc _) hs0 n) hf (by simp)
   rw[hrl] at g3;have hC':C'.size=n*z.length:=by have:=g2.len;rw[g3] at this;simpa using this
   obtain ⟨S',β',used',k1,k2,k3⟩:=sC h.hi h.fresh h.g0 (cap:=n) g2 C' el (0,0) key (by omega) (by omega) (λi hi=>by simp[Ak,Aj]) (by simp)
   rw[g3] at k3;exact ⟨_,_,.inl (hrun C' hn g1),S',β',used',k1,k2,k3⟩
 ·rename_i D hD
  cases hf:lU z.length (iY n z) (parts.toList.map (·.1)) (di (j5 hp (b8 true (xs.map ev))) (xs.map ev)) with
  |none=>rw[hf] at he;cases he
  |some es=>
   rw[hf] at he;obtain rfl:=Ai he;obtain ⟨S1,d1,d2,dr⟩:=h.hi.frz' (b8 true (xs.map ev))
   obtain ⟨C',g1,g2,g3⟩:=wn (parts.toList.map (·.1)) ((parts.toList.map (·.2)).map ρ) (di (j5 hp (b8 true (xs.map ev))) (xs.map ev)) _ _ es (by rw[bL];simpa using q1)
    (λi hi=>by rw[gU];exact (q2 i (by rw[bL] at hi;simpa using hi)).ren dr) (zx (hzc _) hs0 n) hf (by simp)
   rw[hrl] at g3;have hC':C'.size=n*z.length:=by have:=g2.len;rw[g3] at this;simpa using this
   obtain ⟨S',β',used',k1,k2,k3⟩:=sC d1 h.fresh h.g0 (cap:=n) g2 C' el (0,0) key (by omega) (by omega) (λi hi=>by simp[Ak,Aj]) (by simp)
   rw[g3] at k3;refine ⟨_,_,.inl (hrun C' hn g1),S',β',used',?_,?_,?_⟩
   ·simp only[hov,je];exact k1
   ·simp only[hov,je];exact d2.trans k2
   ·simp only[hov,je];exact k3
theorem My {t:TypeId}{s:Nat}(hs:fj P t=some s){x:Value}(hx:x.cells.size=s)(h1: ∀i,i<s->(x.cells.getD i undef).oneCell'=true){b o:Nat}(hc: ∀j,j<s->(w.cell? ⟨b,o+j,none⟩).isSome=true/\w.frozen? ⟨b,o+j,none⟩=false):
  (storeVar t ⟨b,o,none⟩ x).run P w= .ok () (w.setCells b o x.cells.toList):=by
 have hst:=run_storeCells_cells (P:=P) b o x.cells.toList 0 w (λj hj=>by simpa using (hc j (by simp at hj;omega)).1) (λj hj=>by simpa using (hc j (by simp at hj;omega)).2) (λv hv=>by
  obtain ⟨i,hi,rfl⟩:=List.getElem_of_mem hv;have:=h1 i (by simp at hi;omega)
  simpa[Array.getD,show i<x.cells.size by simpa using hi] using this)
 simp only[Nat.add_zero] at hst;simp[storeVar,fe hs,hx,hst]
theorem uV (b o:Nat)(vs:List Value)(hc: ∀j,j<vs.length->(w.cell? ⟨b,o+j,none⟩).isSome=true)(i:Nat):
  (w.setCells b o vs).cell? ⟨b,i,none⟩=if o<=i/\i<o+vs.length then some (vs.getD (i-o) undef) else w.cell? ⟨b,i,none⟩:=by
 split
 ·rename_i h
  have:=World.cell?_setCells_in b vs o w hc (i-o) (by omega)
  rw[show o+(i-o)=i from by omega] at this
  rw[this,Aj,AK (by omega)];rfl
 ·rename_i h
  exact World.cell?_setCells_out b vs o w _ (λ_ _=>by dsimp only;omega)
theorem mB {E:Env}{b o:Nat}{old:CL}(h:CellsOk E w b o old){x:Array Value}{cs:CL}(hx:Cs E x cs)(off:Nat)(hl:off+cs.length<=old.length):
  CellsOk E (w.setCells b (o+off) x.toList) b o (cJ old off cs):=λj hj=>by
 rw[jn _ _ _ hl] at hj;have hxl:x.toList.length=cs.length:=by simpa using hx.len
 have hc: ∀j,j<x.toList.length->(w.cell? ⟨b,o+off+j,none⟩).isSome=true:=λj hj=>by
  obtain ⟨u,h1,_⟩:=h (off+j) (by omega)
  rw[show o+off+j=o+(off+j) from by omega,h1];rfl
 obtain ⟨u,h1,h2,h3,h4⟩:=h j hj;rw[uV b (o+off) x.toList hc,World.frozen?_setCells,uT _ _ _ hl,hxl]
 by_cases hin:off<=j/\j<off+cs.length
 ·rw[Ad (by omega),Ad hin]
  refine ⟨_,rfl,h2,?_,?_⟩<;>rw[show o+j- (o+off)=j-off from by omega]
  ·have:=hx.one (j-off) (by omega);simpa[Ak,Aj] using this
  ·have:=hx.at_ (j-off) (by omega);simpa[Ak,Aj] using this
 ·rw[Ac (by omega),Ac hin]
  exact ⟨u,h1,h2,h3,h4⟩
theorem CellsOk.apart {E:Env}{b o o':Nat}{cs:CL}(h:CellsOk E w b o cs)(vs:List Value)(hap:o+cs.length<=o'∨o'+vs.length<=o):CellsOk E (w.setCells b o' vs) b o cs:=λj hj=>by
 obtain ⟨u,h1,h2,h3,h4⟩:=h j hj;refine ⟨u,?_,by rw[World.frozen?_setCells];exact h2,h3,h4⟩
 rw[World.cell?_setCells_out b vs o' w _ (λ_ _=>by dsimp only;omega)];exact h1
theorem CellsOk.le' {E E':Env}(l:E.le E'){b o:Nat}{cs:CL}(h:CellsOk E w b o cs):CellsOk E' w b o cs:=h.mono l (.refl _ _)
theorem zk {E:Env}{p:Place}{s:Nat}{es:CS}(h:BlkOk E w p (.vec s es)){i off:Nat}{x:Array Value}{cs:CL}(hx:Cs E x cs)(hi:i<es.length)(hl:off+cs.length<=s):
  BlkOk E (w.setCells p.blk (p.off+i*s+off) x.toList) p (.vec s (es.set i (cJ (es.getD i []) off cs))):=by
 obtain ⟨h1,h2,h3,h4,h5,h6⟩:=h;have hxl:x.toList.length=cs.length:=by simpa using hx.len
 have hei:(es.getD i []).length=s:=h2 i hi;refine ⟨h1,λj hj=>?_,by simpa using h3,λhn=>?_,λj hj=>?_,λj hj=>?_⟩
 ·rw[List.length_set] at hj
  rw[nk _ _ _ _ _ hi];split
  ·rw[jn _ _ _ (by omega)];exact hei
  ·exact h2 j hj
 ·rw[(h4 hn).1] at hi;simp at hi
 ·obtain ⟨q1,q2⟩:=h5 j hj
  exact ⟨World.isSome_setCells _ _ _ _ _ q1,by rw[World.frozen?_setCells];exact q2⟩
 ·rw[List.length_set] at hj
  rw[nk _ _ _ _ _ hi];split
  ·rename_i e;subst e
   exact mB (h6 j hi) hx off (by omega)
  ·rename_i hne
   refine (h6 j hj).apart _ ?_;rw[h2 j hj,hxl];rcases Nat.lt_or_gt_of_ne hne with q|q
   ·left
    have:(j+1)*s<=i*s:=A8 _ q;rw[Nat.add_mul] at this;omega
   ·right
    have:(i+1)*s<=j*s:=A8 _ q;rw[Nat.add_mul] at this;omega
theorem BlkOk.le' {E E':Env}(l:E.le E'){p:Place}{b:Blk}(h:BlkOk E w p b):BlkOk E' w p b:=h.mono l λ_=>.refl _ _
theorem Yv (h:Sit P C U hp w S β used g N ρ ev){o:Oper}{t:TypeId}{a x:Operand}{a' x':Opd}{s:Nat}(ho:o.op= .store t a x)(hs:fj P t=some s)(ha:aH N a=some a')(hx:aH N x=some x'){key:Nat}{e:Eff}(he:aX (.store s a' x') g key [ev a',ev x'] hp=some e):Out1 P C U hp w S β used g e ((execOp ρ o).run P w):=by
 have v1:=h.at_ a a' ha;have v2:=h.at_ x x' hx
 have hrun: ∀b q,ρ a= .pointer (some ⟨b,q,none⟩)->(ρ x).cells.size=s->(∀i,i<s->((ρ x).cells.getD i undef).oneCell'=true)->(∀j,j<s->(w.cell? ⟨b,q+j,none⟩).isSome=true/\w.frozen? ⟨b,q+j,none⟩=false)->
   (execOp ρ o).run P w= .ok .skip (w.setCells b q (ρ x).cells.toList):=λb q e1 e2 e3 e4=>by
  simp[execOp,ho,Instr.storeAt,e1,Instr.sureAddr,My hs e2 e3 e4]
 simp only[aX] at he;cases hc:dJ (ev x') with
 |none=>rw[hc] at he;cases he
 |some cs=>
  rw[hc] at he;dsimp only at he;obtain ⟨c1,c2,c3⟩:=v2.cells hc;have hcs:Cs (aG C S β used hp w) (ρ x).cells cs:=⟨c1,c2,c3⟩;split at he
  case isFalse=>cases he
  rename_i hlen;split at he
  ·rename_i k g' q hv
   rw[hv] at v1;cases hk:hp k with
   |none=>rw[hk] at he;cases he
   |some zz=>
    obtain ⟨g'',b⟩:=zz;rw[hk] at he;cases b with
    |vec=>cases he
    |mp=>cases he
    |cells old=>
     dsimp only at he;split at he
     case isFalse=>cases he
     rename_i hgg;subst hgg
     split at he
     case isFalse=>cases he
     rename_i hle;obtain rfl:=Ai he;obtain ⟨u1,u2,u3⟩:=h.hi.at_ k g'' _ hk;obtain ⟨_,_,hx'⟩:=v1.ref_inv;have e1:=hx' _ (bu hk);obtain ⟨hnn,hco⟩:=u3
     have hr:=hrun (β k).blk ((β k).off+q) e1 (by omega) (λi hi=>c2 i (by omega)) (λj hj=>by
      obtain ⟨u,y1,y2,_⟩:=hco (q+j) (by omega)
      rw[show (β k).off+q+j=(β k).off+(q+j) from by omega,y1];exact ⟨rfl,y2⟩)
     obtain ⟨used',k1,k2,k3⟩:=h.hi.write hk hnn ((β k).off+q) (ρ x).cells.toList g'' (.cells (cJ old q cs)) (.inl rfl) (λE l=>⟨hnn,mB (hco.le' l) (hcs.mono l) q (by omega)⟩)
     exact ⟨undef,_,.inr ⟨hr,rfl⟩,S,β,used',k1.wide (λy hy=>hy.elim .inl λe=>.inl (e▸h.hi.us _ _ u1)),k2,.any _⟩
  ·rename_i k g' i q hv
   rw[hv] at v1;cases hk:hp k with
   |none=>rw[hk] at he;cases he
   |some zz=>
    obtain ⟨g'',b⟩:=zz;rw[hk] at he;cases b with
    |cells=>cases he
    |mp=>cases he
    |vec sz es=>
     dsimp only at he;split at he
     case isFalse=>cases he
     rename_i hgg;subst hgg
     split at he
     case isFalse=>cases he
     rename_i hle;obtain ⟨u1,u2,u3⟩:=h.hi.at_ k g'' _ hk;obtain ⟨_,_,hx'⟩:=v1.er_inv;have e1:=hx' _ (bu hk);obtain ⟨h1,h2,h3,h4,h5,h6⟩:=u3
     have hnn:(β k).isNil=false:=by
      cases y:(β k).isNil with
      |false=>rfl
      |true=>have:=(h4 y).1;subst this;simp at hle
     have hr:=hrun (β k).blk ((β k).off+i*sz+q) (by rw[e1,h1]) (by omega) (λi hi=>c2 i (by omega)) (λj hj=>by
      obtain ⟨u,y1,y2,_⟩:=h6 i hle.1 (q+j) (by rw[h2 i hle.1];omega)
      rw[show (β k).off+i*sz+q+j=(β k).off+i*sz+(q+j) from by omega,y1];exact ⟨rfl,y2⟩)
     split at he
     ·obtain rfl:=Ai he
      obtain ⟨used',k1,k2,k3⟩:=h.hi.write hk hnn ((β k).off+i*sz+q) (ρ x).cells.toList g'' (.vec sz (es.set i (cJ (es.getD i []) q cs))) (.inl rfl)
       (λE l=>zk (BlkOk.le' l (b:=.vec sz es) ⟨h1,h2,h3,h4,h5,h6⟩) (hcs.mono l) hle.1 (by omega))
      exact ⟨undef,_,.inr ⟨hr,rfl⟩,S,β,used',k1.wide (λy hy=>hy.elim .inl λe=>.inl (e▸h.hi.us _ _ u1)),k2,.any _⟩
     ·cases hD:(b8 true cs).contains k with
      |true=>rw[hD] at he;cases he
      |false=>
       rw[hD,cond_false] at he;cases hK:(qt hp (b8 true cs)||wd (((es.getD i []).drop q).take cs.length) (b8 true cs)) with
       |true=>
        rw[hK,cond_true] at he;obtain rfl:=Ai he
        obtain ⟨used',k1,k2,k3⟩:=h.hi.write hk hnn ((β k).off+i*sz+q) (ρ x).cells.toList g'' (.vec sz (es.set i (cJ (es.getD i []) q cs))) (.inl rfl)
                  (λE l=>zk (BlkOk.le' l (b:=.vec sz es) ⟨h1,h2,h3,h4,h5,h6⟩) (hcs.mono l) hle.1 (by omega))
        exact ⟨undef,_,.inr ⟨hr,rfl⟩,S,β,used',k1.wide (λy hy=>hy.elim .inl λe=>.inl (e▸h.hi.us _ _ u1)),k2,.any _⟩
       |false=>
       rw[hK,cond_false] at he;obtain rfl:=Ai he;obtain ⟨S1,d1,d2,dr⟩:=h.hi.frz' (b8 true cs);have hk':dC hp (b8 true cs) k=some (g'',.vec sz es):=by simp[dC,hD,hk];intro q;simp[q] at hD
       have hcs':=λ(j:Nat) (hj:j<(di (j5 hp (b8 true cs)) cs).length)=>(by rw[gU];exact (hcs.at_ j (by rwa [bL] at hj)).ren dr:V _ ((ρ x).cells.getD j undef) ((di (j5 hp (b8 true cs)) cs).getD j .any))
       obtain ⟨used',k1,k2,k3⟩:=d1.write hk' hnn ((β k).off+i*sz+q) (ρ x).cells.toList g'' (.vec sz (es.set i (cJ (es.getD i []) q (di (j5 hp (b8 true cs)) cs)))) (.inl rfl)
        (λE l=>zk (BlkOk.le' (d2.trans l) (b:=.vec sz es) ⟨h1,h2,h3,h4,h5,h6⟩) (x:=(ρ x).cells) ⟨by rw[bL];exact c1,λi hi=>c2 i (by rwa [bL] at hi),λj hj=>(hcs' j hj).mono l⟩ hle.1 (by rw[bL];omega))
       refine ⟨undef,_,.inr ⟨hr,rfl⟩,S1,β,used',?_,?_,.any _⟩
       ·simp only[hov,je]
        exact k1.wide (λy hy=>hy.elim .inl λe=>.inl (e▸h.hi.us _ _ u1))
       ·simp only[hov,je];exact d2.trans k2
  ·cases he
end
open Go.RowKit
section
variable {P:Program} {C:Ctx} {U:Nat->Prop} {hp:HF} {w:World} {S:Nat->Prop} {β:Nat->Place} {used:Nat->Nat->Prop} {g:Nat} {N:Nums} {ρ:Operand->Value} {ev:Opd->AV}
def RowAt (E:Env)(w:World)(b o s:Nat)(es:CS):Prop:=
 ∀i,i<es.length->(es.getD i []).length=s/\ ∀j,j<s-> ∃u,w.cell? ⟨b,o+i*s+j,none⟩=some u/\u.oneCell'=true/\V E u ((es.getD i []).getD j .any)
theorem RowAt.rs {E:Env}{b o s:Nat}{es:CS}(h:RowAt E w b o s es):
  ∃news:List Value,Rs E s news es/\ ∀m,m<es.length*s->w.cell? ⟨b,o+m,none⟩=some (news.getD m undef):=by
 let f:Nat->Value:=λm=>(w.cell? ⟨b,o+m,none⟩).getD undef
 have hf: ∀i,i<es.length-> ∀j,j<s->w.cell? ⟨b,o+(i*s+j),none⟩=some (f (i*s+j))/\(f (i*s+j)).oneCell'=true/\V E (f (i*s+j)) ((es.getD i []).getD j .any):=λi hi j hj=>by
  obtain ⟨u,q1,q2,q3⟩:=(h i hi).2 j hj;have:w.cell? ⟨b,o+(i*s+j),none⟩=some u:=by rw[show o+(i*s+j)=o+i*s+j from by omega];exact q1
  have hfu:f (i*s+j)=u:=by simp only[f,this,Option.getD_some]
  rw[hfu];exact ⟨this,q2,q3⟩
 have hlt: ∀i,i<es.length-> ∀j,j<s->i*s+j<es.length*s:=λi hi j hj=>by
  have:(i+1)*s<=es.length*s:=A8 _ hi;rw[Nat.add_mul] at this;omega
 have hg: ∀m,m<es.length*s->((List.range (es.length*s)).map f).getD m undef=f m:=λm hm=>by simp[Aj,hm]
 refine ⟨(List.range (es.length*s)).map f,⟨by simp,λi hi=>(h i hi).1,λi hi j hj=>?_,λi hi j hj=>?_⟩,λm hm=>?_⟩
 ·rw[hg _ (hlt i hi j hj)];exact (hf i hi j hj).2.1
 ·rw[hg _ (hlt i hi j hj)];exact (hf i hi j hj).2.2
 ·have hs:0<s:=by rcases Nat.eq_zero_or_pos s with q|q;(rw[q] at hm;omega);exact q
  have h1:m/ s<es.length:=Nat.div_lt_of_lt_mul (by rw[Nat.mul_comm];exact hm)
  have h2:m/ s*s+m % s=m:=by rw[Nat.mul_comm];exact Nat.div_add_mod m s
  rw[hg m hm];have:=(hf (m/ s) h1 (m % s) (Nat.mod_lt _ hs)).1;rwa [h2] at this
theorem Rs.flat {E:Env}{s:Nat}{X:List Value}{es:CS}(h:Rs E s X es): ∀u∈X,u.oneCell'=true:=by
 intro u hu;obtain ⟨m,hm,rfl⟩:=List.getElem_of_mem hu;have hm':m<es.length*s:=by rw[<-h.len];exact hm
 have hs:0<s:=by rcases Nat.eq_zero_or_pos s with q|q;(rw[q] at hm';omega);exact q
 have h1:m/ s<es.length:=Nat.div_lt_of_lt_mul (by rw[Nat.mul_comm];exact hm')
 have h2:m/ s*s+m % s=m:=by rw[Nat.mul_comm];exact Nat.div_add_mod m s
 have:=h.one (m/ s) h1 (m % s) (Nat.mod_lt _ hs);rw[h2] at this;simpa[Aj,hm] using this
section
variable {E:Env}{tx e':TypeId}(hk:P.underlying tx=some (.slice e'))
include hk
theorem Xz {b o s n c:Nat}{es:CS}(hn:n=es.length)(h:RowAt E w b o s es): ∃news,Rs E s news es/\Src P s tx (.slice (some ⟨b,o,none⟩) n c) n news w:=by
 obtain ⟨news,h1,h2⟩:=h.rs;refine ⟨news,h1,Src.ofSlice w hk ⟨b,o,none⟩ n c news (by rw[h1.len,hn]) (λj u hu=>?_) h1.flat⟩
 have hj:j<news.length:=by
  rcases A4 j news.length with q|q
  ·exact q
  ·rw[AD q] at hu;cases hu
 rw[Addr.add_lit,h2 j (by rw[<-h1.len];exact hj),Aj,hu];rfl
theorem Um (s:Nat)(ao:Option Addr)(c:Nat):Src P s tx (.slice ao 0 c) 0 [] w:=by
 cases ao with
 |none=>exact Src.ofNil w hk c
 |some a=>exact Src.ofSlice w hk a 0 c [] (by simp) (by simp) (by simp)
end
theorem Gv {tx:TypeId}(hk:(∃e',P.underlying tx=some (.slice e'))∨P.underlying tx=some .string){s:Nat}{x:Value}{n:Nat}{news:List Value}{t0:TypeId}(h:Src P s t0 x n news w):Src P s tx x n news w:=⟨hk,h.len,h.cells,h.cellsD,h.newsLen,h.one⟩
theorem W7 (h:HI C U hp w S β used){v:Value}{a:AV}(hv:V (aG C S β used hp w) v a){s:Nat}{ys:CS}{r:CT}(hc:aX.appSrc hp s a=some (ys,r)){tx:TypeId}(hk:(∃e',P.underlying tx=some (.slice e'))∨P.underlying tx=some .string)(hd: ∃t0 e',P.underlying t0=some (.slice e')): ∃news,Rs (aG C S β used hp w) s news ys/\Src P s tx v ys.length news w:=by
 obtain ⟨t0,e',hk0⟩:=hd
 have fin: ∀ao c,v= .slice ao ys.length c->(∀i,i<ys.length->(ys.getD i []).length=s)->(ys≠ []-> ∃b o,ao=some ⟨b,o,none⟩/\ ∀i,i<ys.length-> ∀j,j<s-> ∃u,w.cell? ⟨b,o+i*s+j,none⟩=some u/\u.oneCell'=true/\V (aG C S β used hp w) u ((ys.getD i []).getD j .any))->
   ∃news,Rs (aG C S β used hp w) s news ys/\Src P s tx v ys.length news w:=by
  intro ao c e1 hl hne;subst e1;cases hys:ys with
  |nil=>exact ⟨[],.nil _ _,Gv hk (Um hk0 s ao c)⟩
  |cons y r=>
   rw[<-hys];obtain ⟨b,o,rfl,q⟩:=hne (by rw[hys];simp)
   obtain ⟨news,k1,k2⟩:=Xz (P:=P) hk0 (c:=c) rfl (λi hi=>⟨hl i hi,q i hi⟩:RowAt (aG C S β used hp w) w b o s ys)
   exact ⟨news,k1,Gv hk k2⟩
 have viaElems:cK hp a=some (ys,r)->(∀i,i<ys.length->(ys.getD i []).length=s)-> ∃news,Rs (aG C S β used hp w) s news ys/\Src P s tx v ys.length news w:=λhe hl=>by
  obtain ⟨ao,c,s0,e1,hcap,hs0,hne⟩:=yJ h hv he;refine fin ao c e1 hl λhys=>?_
  obtain ⟨b,o,e2,q⟩:=hne hys;have h0:0<ys.length:=List.length_pos_iff.2 hys;obtain rfl:s0=s:=by rw[<-hs0 0 h0,hl 0 h0]
  exact ⟨b,o,e2,q⟩
 cases a with
 |str l=>
  simp only[aX.appSrc] at hc;split at hc
  ·rename_i h1
   obtain ⟨e0,_⟩:byteCells l=ys/\[]=r:=by simpa using hc
   rw[h1,<-e0];have e1:=hv.str_inv;subst e1;have hb:=Go.firstCells_string (P:=P) ⟨l.toArray⟩;have hsz:(⟨l.toArray⟩:ByteArray).size=l.length:=by show l.toArray.size=_;simp
   have hbl:(byteCells l).length=l.length:=by simp[byteCells]
   have hbc:Go.byteCells ⟨l.toArray⟩=l.map λb=>Value.int .u8 b.toNat:=rfl
   rw[hsz,hbc] at hb;have hrs:=XY (aG C S β used hp w) l;refine ⟨_,hrs,hk,λw'=>?_,?_,?_,by rw[hrs.len],hrs.flat⟩
   ·rw[hbl];simp[Builtin.lenOf,hsz]
   ·rw[hbl];exact hb w
   ·rw[hbl];exact hb w.drew
  ·cases hc
 |sl s' es=>
  simp only[aX.appSrc] at hc;split at hc
  ·rename_i h1;subst h1
   obtain ⟨rfl,rfl⟩:es=ys/\[]=r:=by simpa using hc
   obtain ⟨_,_,_,_,_,hs',_⟩:=hv.sl_inv;exact viaElems rfl hs'
  ·cases hc
 |con x=>
  unfold aX.appSrc at hc;split at hc<;>first|(rename_i e2;cases e2;done)|cases hc|skip
  rename_i e2;cases e2
  exact viaElems rfl (by simp)
 |vs k g' n=>
  simp only[aX.appSrc] at hc;cases hkk:hp k with
  |none=>rw[hkk] at hc;cases hc
  |some z=>
   obtain ⟨g'',b⟩:=z;rw[hkk] at hc;cases b with
   |cells=>cases hc
   |mp=>cases hc
   |vec s' es=>
    dsimp only at hc;split at hc
    ·rename_i hq
     obtain ⟨rfl,rfl⟩:=hq;split at hc
     ·rename_i hn
      obtain ⟨rfl,rfl⟩:es.take n=ys/\[k]=r:=by simpa using hc
      obtain ⟨_,h2,_⟩:=(h.at_ k g'' _ hkk).2.2
      exact viaElems (by simp[cK,hkk,hn]) (λi hi=>by
       have:i<n/\i<es.length:=by simp at hi;omega
       rw[cu _ _ _ _ this.1];exact h2 i this.2)
     ·cases hc
    ·cases hc
 |vw k g' o n=>
  simp only[aX.appSrc] at hc;cases hkk:hp k with
  |none=>rw[hkk] at hc;cases hc
  |some z=>
   obtain ⟨g'',b⟩:=z;rw[hkk] at hc;cases b with
   |cells=>cases hc
   |mp=>cases hc
   |vec s' es=>
    dsimp only at hc;split at hc
    ·rename_i hq
     obtain ⟨rfl,rfl⟩:=hq;split at hc
     ·rename_i hn
      obtain ⟨rfl,rfl⟩:(es.drop o).take n=ys/\[k]=r:=by simpa using hc
      obtain ⟨_,h2,_⟩:=(h.at_ k g'' _ hkk).2.2
      exact viaElems (by simp[cK,hkk,hn]) (λi hi=>by
       have:i<n/\o+i<es.length:=by simp at hi;omega
       rw[cu _ _ _ _ this.1,cG];exact h2 _ this.2)
     ·cases hc
    ·cases hc
 |_=>simp[aX.appSrc] at hc
theorem Qd {E:Env}{p:Place}{s:Nat}{es:CS}(h:BlkOk E w p (.vec s es)){news:List Value}{ys:CS}(hx:Rs E s news ys){n:Nat}(hn:n<=es.length)(hfit:n+ys.length<=p.cap)(hnn:p.isNil=false):
  BlkOk E (w.setCells p.blk (p.off+n*s) news) p (.vec s (es.take n++ys)):=by
 obtain ⟨h1,h2,h3,h4,h5,h6⟩:=h;have hl:(es.take n++ys).length=n+ys.length:=by simp;omega
 have aW: ∀i,i<n+ys.length->(i<n/\(es.take n++ys).getD i []=es.getD i [])∨(n<=i/\(es.take n++ys).getD i []=ys.getD (i-n) []):=λi hi=>by
  have htl:(es.take n).length=n:=by simp;omega
  by_cases q:i<n
  ·left
   refine ⟨q,?_⟩;rw[Aj,BF (by omega),<-Aj,cu _ _ _ _ q]
  ·right
   refine ⟨by omega,?_⟩
   rw[Aj,BO (by omega),htl,<-Aj]
 have hin:(n+ys.length)*s<=p.cap*s:=A8 _ hfit;rw[Nat.add_mul] at hin
 have hc: ∀j,j<news.length->(w.cell? ⟨p.blk,p.off+n*s+j,none⟩).isSome=true:=λj hj=>by
  rw[hx.len] at hj;have:=(h5 (n*s+j) (by omega)).1
  rwa [show p.off+n*s+j=p.off+(n*s+j) from by omega]
 refine ⟨h1,λi hi=>?_,by rw[hl];exact hfit,(λq=>by rw[hnn] at q;cases q),λj hj=>?_,λi hi=>?_⟩
 ·rw[hl] at hi
  rcases aW i hi with ⟨q,e⟩|⟨q,e⟩<;>rw[e]
  ·exact h2 i (by omega)
  ·exact hx.each _ (by omega)
 ·obtain ⟨q1,q2⟩:=h5 j hj
  exact ⟨World.isSome_setCells _ _ _ _ _ q1,by rw[World.frozen?_setCells];exact q2⟩
 ·rw[hl] at hi
  rcases aW i hi with ⟨q,e⟩|⟨q,e⟩<;>rw[e]
  ·refine (h6 i (by omega)).apart _ (.inl ?_)
   rw[h2 i (by omega)]
   have:(i+1)*s<=n*s:=A8 _ q;rw[Nat.add_mul] at this;omega
  ·intro j hj
   rw[hx.each _ (by omega)] at hj
   have hm:(i-n)*s+j<ys.length*s:=by
    have:(i-n+1)*s<=ys.length*s:=A8 _ (by omega)
    rw[Nat.add_mul] at this;omega
   have hsub:i*s=n*s+(i-n)*s:=by rw[<-Nat.add_mul];congr 1;omega
   have hfr:=(h5 (i*s+j) (by omega)).2
   refine ⟨news.getD ((i-n)*s+j) undef,?_,?_,hx.one _ (by omega) j hj,hx.at_ _ (by omega) j hj⟩
   ·rw[uV _ _ _ hc,Ad (by rw[hx.len];omega)]
    congr 2;omega
   ·rw[World.frozen?_setCells,show p.off+i*s+j=p.off+(i*s+j) from by omega];exact hfr
theorem UM (h:Sit P C U hp w S β used g N ρ ev){o:Oper}{c:Call}{t u el:TypeId}{x y:Operand}{x' y':Opd}{i:TypeInfo}(ho:o.op= .call c)(hc:c.callee= .builtin .append)(hargs:c.args= #[x,y])(hts:c.argTypes= #[t,u])(hu:P.underlying t=some (.slice el))(hi:P.info? el=some i)(hz:(i.zero.map (·.cells.size))=some i.size)(hi0:i.size≠0)(hk:(∃e',P.underlying u=some (.slice e'))∨P.underlying u=some .string)(hx:aH N x=some x')(hy:aH N y=some y'){key:Nat}{e:Eff}(he:aX (.app i.size i.bytes x' y') g key [ev x',ev y'] hp=some e):Out1 P C U hp w S β used g e ((execOp ρ o).run P w):=by
 have v1:=h.at_ x x' hx;have v2:=h.at_ y y' hy
 obtain ⟨z,hz,hzs⟩: ∃z,i.zero=some z/\z.cells.size=i.size:=by
  cases hzz:i.zero with
  |none=>rw[hzz] at hz;cases hz
  |some z=>rw[hzz] at hz;exact ⟨z,rfl,by simpa using hz⟩
 have hop: ∀w' v,(Builtin.append_ #[t,u] o.type #[ρ x,ρ y]).run P w= .ok v w'->(execOp ρ o).run P w= .ok (.value v) w':=λw' v hr=>by
  simp[execOp,ho,resolve,hc,hargs,hts,invoke,builtin,hr]
 simp only[aX] at he;cases hs:aX.appSrc hp i.size (ev y') with
 |none=>rw[hs] at he;cases he
 |some yr=>
  obtain ⟨ys,r⟩:=yr;rw[hs] at he;dsimp only at he;obtain ⟨news,n1,n2⟩:=W7 h.hi v2 hs hk ⟨t,el,hu⟩
  have hroomOf: ∀n,ni n i.bytes=true->n*i.bytes<=140737488355328/\n<=140737488355328:=λn hr=>by
   have:n* (i.bytes+1)<=140737488355328:=by simpa[ni] using hr
   rw[Nat.mul_add,Nat.mul_one] at this;omega
  split at he
  ·rename_i hv
   rw[hv] at v1;have e1:=v1.con_inv;split at he
   case isFalse=>cases he
   rename_i hroom;obtain rfl:=Ai he;obtain ⟨hb1,hb2⟩:=hroomOf _ hroom;cases hys:ys with
   |nil=>
    subst hys;have hn0:news= []:=AJ (by rw[n1.len];simp)
    subst hn0;have hr:=run_append_nothing (P:=P) w t u o.type el i hu hi none 0 0 (Be 0) (ρ y) n2;obtain ⟨S',β',used',k1,k2,k3,k4⟩:=h.hi.newNil h.fresh h.g0 key i.size;refine ⟨_,_,.inl (hop _ _ (by rw[e1];exact hr)),S',β',used',k1,k2,.vs _ _ _ _ ⟨_,_,rfl⟩ k4 λp hp'=>?_⟩
    obtain ⟨b,_,rfl⟩:=fF hp';rw[k3];exact ⟨rfl,Be _⟩
   |cons y0 yr'=>
    rw[<-hys];have hpos:0<ys.length:=by rw[hys];simp
    have hr:=run_append_grow_src (P:=P) w t u o.type el i z hu hi hz none 0 0 [] (by simp[Builtin.firstCells]) (ρ y) ys.length news n2 (by omega) (by omega) (growslice_fits (by omega) (by simpa using hb1))
    simp only[A7,By] at hr;generalize hcap:grownCap w ys.length 0 el=cap at hr;have hge:ys.length<=cap:=by rw[<-hcap];simp[grownCap,Question.cut]
    have hYs:(news.toArray++Builtin.zeroCells z.cells (cap-ys.length)).size=ys.length*i.size+(cap-ys.length)*z.cells.size:=by simp[n1.len,size_zeroCells]
    obtain ⟨S',β',used',k1,k2,k3⟩:=sC h.hi.drew h.fresh h.g0 (cap:=cap) n1 (news.toArray++Builtin.zeroCells z.cells (cap-ys.length)) el (0,0) key hge
     (by rw[hYs,hzs,<-Nat.add_mul];exact A8 _ (by omega)) (λj hj=>by simp[Ak,Aj,Array.getElem?_append,hj]) (by simp)
    exact ⟨_,_,.inl (hop _ _ (by rw[e1];exact hr)),S',β',used',k1,k2,k3⟩
  ·rename_i k g' n hv
   rw[hv] at v1;cases hkk:hp k with
   |none=>rw[hkk] at he;cases he
   |some zz=>
    obtain ⟨g'',b⟩:=zz;rw[hkk] at he;cases b with
    |cells=>cases he
    |mp=>cases he
    |vec s' es=>
     dsimp only at he;split at he
     case isFalse=>cases he
     rename_i hq;obtain ⟨rfl,rfl,hn,hroom⟩:=hq;obtain rfl:=Ai he;obtain ⟨hb1,hb2⟩:=hroomOf _ hroom;obtain ⟨u1,u2,u3⟩:=h.hi.at_ k g'' _ hkk;have u3':=u3;obtain ⟨h1,h2,h3,h4,h5,h6⟩:=u3;obtain ⟨_,_,hx'⟩:=v1.vs_inv;obtain ⟨e1,hcap⟩:=hx' _ (bu hkk);have hlen:(es.take n++ys).length=n+ys.length:=by simp;omega
     by_cases hfit:n+ys.length<=(β k).cap
     ·cases hnn:(β k).isNil with
      |true=>
       obtain ⟨he0,hc0⟩:=h4 hnn;obtain rfl:n=0:=by omega
       obtain rfl:ys= []:=AJ (by omega)
       have hn0:news= []:=AJ (by rw[n1.len];simp)
       subst hn0;have hr:=run_append_nothing (P:=P) w t u o.type el i hu hi ((β k).base 0) 0 (β k).cap (Nat.zero_le _) (ρ y) n2;obtain ⟨S',β',used',k1,k2,k3,k4⟩:=h.hi.newNil h.fresh h.g0 k i.size;have hbase:(β k).base 0=none:=by simp[Place.base,hnn]
       rw[hbase,hc0] at hr;rw[hbase,hc0] at e1;refine ⟨_,_,.inl (hop _ _ (by rw[e1];exact hr)),S',β',used',k1,k2,.vs _ _ _ _ ⟨_,_,rfl⟩ k4 λp hp'=>?_⟩
       obtain ⟨b,_,rfl⟩:=fF hp';rw[k3];exact ⟨rfl,Be _⟩
      |false=>
       have hbase:(β k).base 0=some ⟨(β k).blk,(β k).off,none⟩:=by simp[Place.base,hnn]
       have hin:(n+ys.length)*i.size<=(β k).cap*i.size:=A8 _ hfit;rw[Nat.add_mul] at hin
       have hcc : ∀j,j<news.length->(w.cell? ⟨(β k).blk,(β k).off+n*i.size+j,none⟩).isSome=true/\w.frozen? ⟨(β k).blk,(β k).off+n*i.size+j,none⟩=false:=λj hj=>by
                rw[n1.len] at hj;have:=h5 (n*i.size+j) (by omega)
                rwa [show (β k).off+n*i.size+j=(β k).off+(n*i.size+j) from by omega]
       have hr:=run_append_room_src (P:=P) w t u o.type el i hu hi (β k).blk (β k).off n (β k).cap (ρ y) ys.length news n2 hfit (λj hj=>(hcc j hj).1) (λj hj=>(hcc j hj).2)
       obtain ⟨used',k1,k2,k3⟩:=h.hi.write hkk hnn ((β k).off+n*i.size) news g (.vec i.size (es.take n++ys)) (.inr ⟨h.fresh,h.g0⟩) (λE l=>Qd (BlkOk.le' l u3') (n1.mono l) hn hfit hnn)
       refine ⟨_,_,.inl (hop _ _ (by rw[e1,hbase];exact hr)),S,β,used',k1,k2,.vs _ _ _ _ ⟨_,_,rfl⟩ k3 λp hp'=>?_⟩
       obtain ⟨b,_,rfl⟩:=fF hp';exact ⟨by rw[hbase],hfit⟩
     ·obtain ⟨olds,o1,o2⟩: ∃olds,Rs (aG C S β used hp w) i.size olds (es.take n)/\(Builtin.firstCells i.size n (.slice ((β k).base 0) n (β k).cap)).run P w.drew= .ok olds.toArray w.drew:=by
       cases hnn:(β k).isNil with
       |true=>
                obtain ⟨he0,hc0⟩:=h4 hnn;obtain rfl:n=0:=by omega
                have hbase:(β k).base 0=none:=by simp[Place.base,hnn]
                rw[hbase];exact ⟨[],by rw[List.take_zero];exact .nil _ _,by simp[Builtin.firstCells]⟩
       |false=>
                have hbase:(β k).base 0=some ⟨(β k).blk,(β k).off,none⟩:=by simp[Place.base,hnn]
                have hra:RowAt (aG C S β used hp w) w (β k).blk (β k).off i.size (es.take n):=λm hm=>by
                 have hm':m<n/\m<es.length:=by simp at hm;omega
                 rw[cu _ _ _ _ hm'.1];refine ⟨h2 m hm'.2,λj hj=>?_⟩
                 obtain ⟨uu,y1,y2,y3,y4⟩:=h6 m hm'.2 j (by rw[h2 m hm'.2];exact hj)
                 exact ⟨uu,y1,y3,y4⟩
                obtain ⟨olds,o1,o2⟩:=hra.rs;have htl:(es.take n).length=n:=by simp;omega
                refine ⟨olds,o1,?_⟩;rw[hbase];refine run_firstCells_some w.drew i.size n _ n (β k).cap olds (by rw[o1.len,htl]) λj v hj=>?_
                have hjl:j<olds.length:=by
                 rcases A4 j olds.length with q|q
                 ·exact q
                 ·rw[AD q] at hj;cases hj
                have:=o2 j (by rw[<-o1.len];exact hjl)
                rw[Addr.add_lit];show w.cell? _=_
                rw[this,Aj,hj];rfl
      have hr:=run_append_grow_src (P:=P) w t u o.type el i z hu hi hz ((β k).base 0) n (β k).cap olds o2 (ρ y) ys.length news n2 (by omega) (by omega) (growslice_fits (by omega) hb1)
      generalize hcp:grownCap w (n+ys.length) (β k).cap el=cap at hr;have hge:n+ys.length<=cap:=by rw[<-hcp];simp[grownCap,Question.cut]
      have hall:=o1.append n1
      have hYs:((olds++news).toArray++Builtin.zeroCells z.cells (cap- (n+ys.length))).size=(n+ys.length)*i.size+(cap- (n+ys.length))*z.cells.size:=by
       have:=hall.len;rw[hlen] at this;rw[Array.size_append,size_zeroCells];simp only[List.size_toArray,this]
      obtain ⟨S',β',used',k1,k2,k3⟩:=sC h.hi.drew h.fresh h.g0 (cap:=cap) hall ((olds++news).toArray++Builtin.zeroCells z.cells (cap- (n+ys.length))) el (0,0) k (by rw[hlen];exact hge)
       (by rw[hYs,hzs,<-Nat.add_mul];exact A8 _ (by omega)) (λj hj=>by rw[Ak,Aj,Array.getElem?_append,Ad (by simpa using hj)];simp) (by simp)
      rw[hlen] at k3;exact ⟨_,_,.inl (hop _ _ (by rw[e1];exact hr)),S',β',used',k1,k2,k3⟩
  ·cases he
end
section
variable {P:Program}{C:Ctx}{U:Nat->Prop}{hp:HF}{w:World}{S:Nat->Prop}{β:Nat->Place}{used:Nat->Nat->Prop}
theorem HI.arr (h:HI C U hp w S β used){g:Nat}(hg: ¬U g)(hg0:g≠0)(k k0 g0:Nat)(cs:CL)(hne:k0≠k)(hk0:hp k0=some (g0,.cells cs)):
  let p:Place:=⟨(β k0).blk,(β k0).off,cs.length,1,false⟩
  let hp':=up (up hp k0 (some (g,.vec 1 []))) k (some (g,.vec 1 (cs.map λc=>[c])))
  ∃β' used',HI C (λx=>U x∨x=g) hp' w S β' used'/\(aG C S β used hp w).le (aG C S β' used' hp' w)/\β' k=p/\used' k g:=by
 intro p hp';obtain ⟨u0,b0,c0⟩:=h.at_ k0 g0 _ hk0;obtain ⟨c1,c2⟩:=c0
 let pn:Place:=⟨0,0,0,1,true⟩
 let β':=up (up β k0 pn) k p
 let used':Nat->Nat->Prop:=λk' g'=>used k' g'∨((k'=k∨k'=k0)/\g'=g)
 have hnu: ∀k',¬used k' g:=λk' u=>hg (h.us _ _ u)
 have bk:β' k=p:=d7 _ _ _;have bk0:β' k0=pn:=by rw[show β' k0=up β k0 pn k0 from cr _ _ hne];exact d7 _ _ _
 have bo: ∀k',k'≠k->k'≠k0->β' k'=β k':=λk' e1 e2=>by rw[show β' k'=up β k0 pn k' from cr _ _ e1];exact cr _ _ e2
 have pk:hp' k=some (g,.vec 1 (cs.map λc=>[c])):=d7 _ _ _
 have pk0:hp' k0=some (g,.vec 1 []):=by rw[show hp' k0=up hp k0 (some (g,.vec 1 [])) k0 from cr _ _ hne];exact d7 _ _ _
 have po: ∀k',k'≠k->k'≠k0->hp' k'=hp k':=λk' e1 e2=>by rw[show hp' k'=up hp k0 (some (g,.vec 1 [])) k' from cr _ _ e1];exact cr _ _ e2
 have hlv: ∀k' g' b',hp' k'=some (g',b')->used k' g'->(∃b'',hp k'=some (g',b''))/\β' k'=β k':=λk' g' b' hk hu=>by
  by_cases e:k'=k
  ·subst e;rw[pk] at hk;cases hk;exact absurd hu (hnu _)
  ·by_cases e0:k'=k0
   ·subst e0;rw[pk0] at hk;cases hk;exact absurd hu (hnu _)
   ·rw[po k' e e0] at hk;exact ⟨⟨b',hk⟩,bo k' e e0⟩
 have l:(aG C S β used hp w).le (aG C S β' used' hp' w):=kJ (λ_ _ _ a b=>⟨a,b⟩) (λ_ _=>.inl) hlv
 have hpl: ∀k' b',hp' k'=some (0,b')->β' k'=C.π k':=λk' b' hk=>by
  by_cases e:k'=k
  ·subst e;rw[pk] at hk;cases hk;exact absurd rfl hg0
  ·by_cases e0:k'=k0
   ·subst e0;rw[pk0] at hk;cases hk;exact absurd rfl hg0
   ·rw[po k' e e0] at hk;rw[bo k' e e0];exact h.pl k' b' hk
 refine ⟨β',used',(h.change (U':=λx=>U x∨x=g) h.kept (λ_ _ _ a b=>⟨a,b⟩) (λ_ _=>.inl) hlv h.s h.keep ?_ ?_ ?_ hpl).1,l,bk,.inr ⟨.inl rfl,rfl⟩⟩
 ·rintro k' g' (hu|⟨_,rfl⟩)
  ·exact .inl (h.us _ _ hu)
  ·exact .inr rfl
 ·intro k' g' b' hk
  by_cases e:k'=k
  ·subst e;rw[pk] at hk;cases hk
   refine .inr ⟨.inr ⟨.inl rfl,rfl⟩,?_,?_⟩
   ·rw[bk];exact λ_=>b0 c1
   ·rw[bk]
    refine ⟨rfl,λi hi=>?_,by simp[p],(λhn=>by cases hn),λj hj=>?_,λi hi j hj=>?_⟩
    ·simp at hi;simp[hi]
    ·obtain ⟨u,q1,q2,_⟩:=c2 j (by simpa[p] using hj)
     exact ⟨by rw[show (⟨p.blk,p.off+j,none⟩:Addr)=⟨(β k0).blk,(β k0).off+j,none⟩ from rfl,q1];rfl,q2⟩
    ·simp at hi
     have hj0:j=0:=by simp[hi] at hj;omega
     subst hj0;obtain ⟨u,q1,q2,q3,q4⟩:=c2 i hi;refine ⟨u,?_,?_,q3,?_⟩
     ·rw[show p.off+i*1+0=(β k0).off+i by simp[p]];exact q1
     ·rw[show p.off+i*1+0=(β k0).off+i by simp[p]];exact q2
     ·have:=q4.mono l
      simpa[Aj,hi] using this
  ·by_cases e0:k'=k0
   ·subst e0;rw[pk0] at hk;cases hk
    refine .inr ⟨.inr ⟨.inr rfl,rfl⟩,?_,?_⟩
    ·rw[bk0];exact λhn=>by cases hn
    ·rw[bk0]
     exact ⟨rfl,by simp,by simp,λ_=>⟨rfl,rfl⟩,λj hj=>by simp[pn] at hj,by simp⟩
   ·rw[po k' e e0] at hk
    exact .inl ⟨hk,bo k' e e0,λhn=>⟨((h.at_ _ _ _ hk).2.1 hn).1,.refl _ _⟩⟩
 ·intro k1 k2 x x' h1 h2 n1 n2 hbk
  by_cases d1:k1=k0
  ·rw[d1,bk0] at n1;cases n1
  by_cases d2:k2=k0
  ·rw[d2,bk0] at n2;cases n2
  by_cases e1:k1=k
  ·by_cases e2:k2=k
   ·rw[e1,e2]
   ·exfalso
    rw[po k2 e2 d2] at h2;rw[bo k2 e2 d2] at n2 hbk;rw[e1,bk] at hbk;exact d2 (h.inj k2 k0 _ _ h2 hk0 n2 c1 hbk.symm)
  ·rw[po k1 e1 d1] at h1
   rw[bo k1 e1 d1] at n1 hbk
   by_cases e2:k2=k
   ·exfalso
    rw[e2,bk] at hbk;exact d1 (h.inj k1 k0 _ _ h1 hk0 n1 c1 hbk)
   ·rw[po k2 e2 d2] at h2
    rw[bo k2 e2 d2] at n2 hbk;exact h.inj k1 k2 _ _ h1 h2 n1 n2 hbk
theorem Yx {g:Nat}{N:Nums}{ρ:Operand->Value}{ev:Opd->AV}(h:Sit P C U hp w S β used g N ρ ev){o:Oper}{t el:TypeId}{n s:Nat}{x:Operand}{x':Opd}(ho:o.op= .slice t x none none none)(hu:P.underlying t=some (.array n el))(hs:fj P el=some s)(hx:aH N x=some x'){key:Nat}{e:Eff}(he:aX (.slarr n s x' none none none) g key [ev x'] hp=some e):Out1 P C U hp w S β used g e ((execOp ρ o).run P w):=by
 have v1:=h.at_ x x' hx;simp only[aX,ql] at he;split at he
 ·rename_i k gk off hv
  rw[hv] at v1;split at he
  ·rename_i g' cs hk
   split at he
   ·rename_i hc
    obtain ⟨-,rfl,rfl,rfl,rfl,hne⟩:=hc;obtain rfl:=Ai he;obtain ⟨β',used',q1,q2,q3,q4⟩:=h.hi.arr h.fresh h.g0 key k g' cs hne hk;have hx0:ρ x= .pointer (some ⟨(β k).blk,(β k).off+0,none⟩):=v1.ref_inv.2.2 (β k) (bu hk)
    have hrun:(execOp ρ o).run P w= .ok (.value (.slice (some ⟨(β k).blk,(β k).off,none⟩) cs.length cs.length)) w:=by
     by_cases hz:cs.length=0
     ·simp[execOp,ho,Instr.sliceAt,run_underlying hu,hx0,Instr.sureAddr,Instr.sliceBounds,fe hs,hz]
     ·simp[execOp,ho,Instr.sliceAt,run_underlying hu,hx0,Instr.sureAddr,Instr.sliceBounds,fe hs,hz,Addr.add_lit]
    refine ⟨_,w,.inl hrun,S,β',used',q1,q2,.vs _ _ _ _ ⟨_,_,rfl⟩ q4 λp hp'=>?_⟩
    obtain ⟨b,_,rfl⟩:=fF hp';rw[q3];exact ⟨by simp[Place.base],Be _⟩
   ·cases he
  ·cases he
 ·cases he
end
section
variable {P:Program} {C:Ctx} {U:Nat->Prop} {hp:HF} {w:World} {S:Nat->Prop} {β:Nat->Place} {used:Nat->Nat->Prop} {g:Nat} {N:Nums} {ρ:Operand->Value} {ev:Opd->AV}
end
open Go.RowKit
theorem map_some {α β:Type}{f:α->β}{x:Option α}{y:β}(h:x.map f=some y): ∃a,x=some a/\f a=y:=by
 cases x with
 |none=>cases h
 |some a=>exact ⟨a,rfl,by simpa using h⟩
section
variable {P:Program} {C:Ctx} {U:Nat->Prop} {hp:HF} {w:World} {S:Nat->Prop} {β:Nat->Place} {used:Nat->Nat->Prop} {g:Nat} {N:Nums} {ρ:Operand->Value} {ev:Opd->AV}
theorem agw (h:Sit P C U hp w S β used g N ρ ev){o:Oper}{ao:AOp}(hc:bx P N o=some ao)(hcall: ∀f args,ao≠ .call f args){key:Nat}{e:Eff}(he:aX ao g key (ao.opds.map ev) hp=some e):
  Out1 P C U hp w S β used g e ((execOp ρ o).run P w):=by
 cases ho:o.op with
 |move x|assign x=>
  simp only[bx,ho] at hc;obtain ⟨a,h1,rfl⟩:=map_some hc;exact agy h (by rw[ho];simp) h1 he
 |pick c a b=>
  simp only[bx,ho] at hc;split at hc
  ·rename_i c' a' b' h1 h2 h3
   obtain rfl:=Ai hc;exact ac2 h ho h1 h2 h3 he
  ·cases hc
 |box t x=>
  simp only[bx,ho] at hc;obtain ⟨a,h1,rfl⟩:=map_some hc;exact aex h ho h1 he
 |alloc t=>
  simp only[bx,ho] at hc;obtain ⟨a,h1,rfl⟩:=map_some hc;exact YK h ho h1 he
 |build t parts=>
  simp only[bx,ho] at hc;split at hc
  ·rename_i pl z xs h1 h2 h3
   obtain ⟨ps,h4,rfl⟩:=map_some hc;exact YJ h ho h1 h2 h3 h4 he
  ·cases hc
 |buildSlice t n parts=>
  simp only[bx,ho] at hc;split at hc
  ·rename_i el hu
   split at hc
   ·rename_i s z xs h1 h2 h3
    split at hc
    ·rename_i hz
     obtain rfl:=Ai hc;exact aew h ho hu h1 h2 hz.2 h3 he
    ·cases hc
   ·cases hc
  ·cases hc
 |load t a=>
  simp only[bx,ho] at hc;split at hc
  ·rename_i sz a' h1 h2
   split at hc
   ·rename_i h0
    obtain rfl:=Ai hc;exact ac5 h ho h1 h0 h2 he
   ·cases hc
  ·cases hc
 |store t a x=>
  simp only[bx,ho] at hc;split at hc
  ·rename_i s a' x' h1 h2 h3
   obtain rfl:=Ai hc;exact Yv h ho h1 h2 h3 he
  ·cases hc
 |fieldAddr t x f=>
  simp only[bx,ho] at hc;split at hc
  ·rename_i fs hu
   split at hc
   ·rename_i fl hf
    split at hc
    ·rename_i s x' h1 h2
     split at hc
     ·rename_i h0
      obtain rfl:=Ai hc;exact ada h ho hu hf h1 h0 h2 he
     ·cases hc
    ·cases hc
   ·cases hc
  ·cases hc
 |indexAddr t x i=>
  simp only[bx,ho] at hc;split at hc
  ·rename_i el hu
   split at hc
   ·rename_i s x' i' h1 h2 h3
    obtain rfl:=Ai hc;exact ac9 h ho hu h1 h2 h3 he
   ·cases hc
  ·rename_i n el hu
   split at hc
   ·rename_i s x' i' h1 h2 h3
    obtain rfl:=Ai hc;exact ac8 h ho hu h1 h2 h3 he
   ·cases hc
  ·cases hc
 |index t x i=>
  simp only[bx,ho] at hc;split at hc
  ·rename_i hu
   split at hc
   ·rename_i x' i' h1 h2
    obtain rfl:=Ai hc;exact ac7 h ho hu h1 h2 he
   ·cases hc
  ·rename_i n el hu
   split at hc
   ·rename_i s sz x' i' h1 h2 h3 h4
    obtain rfl:=Ai hc;exact ac6 h ho hu h1 h2 h3 h4 he
   ·cases hc
  ·cases hc
 |binOp op t x y t'=>
  simp only[bx,ho] at hc;split at hc
  case h_2=>cases hc
  rename_i a b h1 h2
  have eqc: ∀neg:Bool,op=(if neg=true then .neq else .eql)->qx P t neg x y a b=some ao->Out1 P C U hp w S β used g e ((execOp ρ o).run P w):=by
   intro neg hop hce;subst hop;unfold qx at hce;split at hce
   ·obtain rfl:=Ai hce;exact I8 h ho h1 h2 he
   ·obtain rfl:=Ai hce;exact I8 h ho h1 h2 he
   ·rename_i hu;obtain rfl:=Ai hce;exact aev h ho hu h1 h2 he
   ·rename_i el hu;obtain rfl:=Ai hce;exact sD h ho (k:=.ptr) ⟨_,hu⟩ (.inl ⟨⟨_,hu⟩,λms q=>by rw[hu] at q;cases q⟩) h1 h2 he
   ·rename_i el hu;obtain rfl:=Ai hce;exact sD h ho (k:=.slice) ⟨_,hu⟩ (.inl ⟨⟨_,hu⟩,λms q=>by rw[hu] at q;cases q⟩) h1 h2 he
   ·rename_i kt el hu;obtain rfl:=Ai hce;exact sD h ho (k:=.map) ⟨_,_,hu⟩ (.inl ⟨⟨_,_,hu⟩,λms q=>by rw[hu] at q;cases q⟩) h1 h2 he
   ·rename_i x1 x2 x3 hu;obtain rfl:=Ai hce;exact sD h ho (k:=.func) ⟨_,_,_,hu⟩ (.inl ⟨⟨_,_,_,hu⟩,λms q=>by rw[hu] at q;cases q⟩) h1 h2 he
   ·rename_i ms hu
    split at hce
    ·rename_i hcn
     obtain rfl:=Ai hce;exact sD h ho (k:=.iface) ⟨_,hu⟩ (.inr hcn) h1 h2 he
    ·cases hce
   ·rename_i fs hu
    split at hce
    ·rename_i hg
     obtain ⟨ks,h4,rfl⟩:=map_some hce;exact aeu h ho hu hg h4 h1 h2 he
    ·cases hce
   ·cases hce
  cases op<;>dsimp only at hc
  case eql=>exact eqc false rfl hc
  case neq=>exact eqc true rfl hc
  all_goals (obtain rfl:=Ai hc;exact I8 h ho h1 h2 he)
 |unOp op t x=>
  simp only[bx,ho] at hc;obtain ⟨a,h1,rfl⟩:=map_some hc;exact agx h ho h1 he
 |convert s d x=>
  simp only[bx,ho] at hc;split at hc
  ·rename_i k0 k x' h1 h2 h3
   obtain rfl:=Ai hc;exact adb h ho h1 h2 h3 he
  ·rename_i el x' h1 h2 h3
   split at hc
   ·rename_i hel
    rw[Ad rfl] at hc;obtain rfl:=Ai hc;exact aey h ho h1 hel h2 h3 he
   ·rw[Ac (by simp)] at hc;cases hc
  ·cases hc
 |makeMap t r=>simp[bx,ho] at hc
 |lookup t x i ok=>simp[bx,ho] at hc
 |mapUpdate t x i v=>simp[bx,ho] at hc
 |makeFunc fn first cap=>
  simp only[bx,ho] at hc;cases fn with
  |func f=>
   dsimp only at hc;split at hc
   ·rename_i hf
    split at hc
    ·rename_i h0
     obtain ⟨xs,h1,rfl⟩:=map_some hc;exact ac4 h ho hf.1 hf.2 h0 h1 he
    ·split at hc
     ·rename_i h0
      obtain ⟨xs,h1,rfl⟩:=map_some hc;exact YI h ho hf.1 h0.1 h1 h0.2 he
     ·cases hc
   ·cases hc
  |_=>cases hc
 |makeSlice t n c=>
  simp only[bx,ho] at hc;split at hc
  ·rename_i el hu
   split at hc
   ·rename_i i z n' c' h1 h2 h3 h4
    split at hc
    ·rename_i h0
     obtain rfl:=Ai hc;exact ac3 h ho hu h1 h0 h2 h3 h4 he
    ·cases hc
   ·cases hc
  ·cases hc
 |slice t x lo hi mx=>
  simp only[bx,ho] at hc;split at hc
  ·rename_i el hu
   split at hc
   ·rename_i s x' lo' hi' mx' h1 h2 h3 h4 h5
    obtain rfl:=Ai hc;exact aes h ho hu h1 h2 h3 h4 h5 he
   ·cases hc
  ·rename_i hu
   split at hc
   ·rename_i x' lo' hi' h2 h3 h4
    obtain rfl:=Ai hc;exact Yw h ho hu h2 h3 h4 he
   ·cases hc
  ·rename_i n el hu
   split at hc
   ·rename_i s x' h1 h2
    obtain rfl:=Ai hc;exact Yx h ho hu h1 h2 he
   ·cases hc
  ·cases hc
 |extract x i=>
  simp only[bx,ho] at hc;obtain ⟨a,h1,rfl⟩:=map_some hc;exact aet h ho h1 he
 |makeInterface t x=>
  simp only[bx,ho] at hc;split at hc
  ·rename_i ht
   split at hc
   ·rename_i fs hu
    obtain ⟨a,h1,rfl⟩:=map_some hc;exact Yz h ho ht hu h1 he
   ·cases hc
  ·cases hc
 |panic x=>
  simp only[bx,ho] at hc;obtain ⟨a,h1,rfl⟩:=map_some hc;cases he
 |nilCheck x=>
  simp only[bx,ho] at hc;obtain ⟨a,h1,rfl⟩:=map_some hc;exact Yy h ho h1 he
 |call c=>
  obtain ⟨callee,args,argTypes⟩:=c;cases callee with
  |value f=>
   simp only[bx,ho] at hc;split at hc
   ·obtain rfl:=Ai hc
    exact absurd rfl (hcall _ _)
   ·cases hc
  |invoke r m=>simp[bx,ho] at hc
  |builtin b=>
   simp only[bx,ho] at hc;split at hc
   ·rename_i x t hx ht
    have hargs:args= #[x]:=by rw[<-Array.toArray_toList (xs:=args),hx]
    have hts:argTypes[0]? =some t:=by rw[<-Array.getElem?_toList,ht];rfl
    split at hc
    ·rename_i hu
     obtain ⟨a,h1,rfl⟩:=map_some hc;exact UL h ho rfl hargs hts (.inl ⟨rfl,hu⟩) h1 he
    ·rename_i el hu
     obtain ⟨a,h1,rfl⟩:=map_some hc;exact UL h ho rfl hargs hts (.inr ⟨rfl,_,hu⟩) h1 he
    ·cases hc
   ·rename_i x y t u hx ht
    have hargs:args= #[x,y]:=by rw[<-Array.toArray_toList (xs:=args),hx]
    have hts:argTypes= #[t,u]:=by rw[<-Array.toArray_toList (xs:=argTypes),ht]
    split at hc
    ·rename_i el hu
     split at hc
     ·rename_i i x' y' h1 h2 h3
      split at hc
      ·rename_i e' hk
       split at hc
       ·rename_i hq
        obtain rfl:=Ai hc;exact UM h ho rfl hargs hts hu h1 hq.1.1 hq.1.2 (.inl ⟨_,hk⟩) h2 h3 he
       ·cases hc
      ·rename_i hk
       split at hc
       ·rename_i hq
        obtain rfl:=Ai hc;exact UM h ho rfl hargs hts hu h1 hq.1.1 hq.1.2 (.inr hk) h2 h3 he
       ·cases hc
      ·rw[Ac (by simp)] at hc;cases hc
     ·cases hc
    ·cases hc
   ·rename_i xs ts hx
    obtain ⟨a,h1,rfl⟩:=map_some hc;exact CJ (m:=false) h ho rfl h1 he
   ·rename_i xs ts hx
    obtain ⟨a,h1,rfl⟩:=map_some hc;exact CJ (m:=true) h ho rfl h1 he
   ·cases hc
 |_=>simp[bx,ho] at hc
end
open Go.RowKit
section
variable {hg hg':HF}{D:CT}
theorem Fd (h: ∀k∈D,hg k=hg' k):qt hg D=qt hg' D:=by
 unfold qt
 induction D with
 |nil=>rfl
 |cons d r ih=>rw[Cc,Cc,h d (by simp),ih λk hk=>h k (by simp[hk])]
theorem yt (h: ∀k∈D,hg k=hg' k):j5 hg D=j5 hg' D:=by
 funext k g
 unfold j5;cases hD:D.contains k with
 |false=>rfl
 |true=>rw[h k (by simpa using hD)]
theorem r6 {a:AV}{cs:CL}{r:CT}(h:cM hg a=some (cs,r))(hr: ∀k∈r,hg k=hg' k):cM hg' a=some (cs,r):=by
 cases a with
 |rp=>exact h
 |ref k g o=>
  have hk:r= [k]:=by
   simp only[cM] at h;split at h
   ·split at h
    ·exact (Prod.mk.inj (Ai h)).2.symm
    ·cases h
   ·cases h
  subst hk;simp only[cM] at h⊢;rw[<-hr k (by simp)];exact h
 |er k g i o=>
  have hk:r= [k]:=by
   simp only[cM] at h;split at h
   ·split at h
    ·split at h
     ·exact (Prod.mk.inj (Ai h)).2.symm
     ·cases h
    ·cases h
   ·cases h
  subst hk;simp only[cM] at h⊢;rw[<-hr k (by simp)];exact h
 |_=>simp[cM] at h
theorem NQ (hg hg':HF)(x:Value):cK hg (.con x)=cK hg' (.con x):=by
 cases x<;>first|rfl|skip
 rename_i a n c;cases a<;>cases n<;>cases c<;>rfl
theorem Tq (hg hg':HF)(s:Nat)(x:Value):aX.appSrc hg s (.con x)=aX.appSrc hg' s (.con x):=by
 cases x<;>first|rfl|skip
 rename_i a n c;cases a<;>cases n<;>cases c<;>rfl
section
variable {s:Nat}{a:AV}{es:CS}{r:CT}
theorem Fu (h:cK hg a=some (es,r))(hr: ∀k∈r,hg k=hg' k):cK hg' a=some (es,r):=by
 cases a with
 |sl=>exact h
 |con x=>rw[NQ hg' hg];exact h
 |vs k g n=>
  have hk:r= [k]:=by
   simp only[cK] at h;split at h
   ·split at h
    ·split at h
     ·exact (Prod.mk.inj (Ai h)).2.symm
     ·cases h
    ·cases h
   ·cases h
  subst hk;simp only[cK] at h⊢;rw[<-hr k (by simp)];exact h
 |vw k g o n=>
  have hk:r= [k]:=by
   simp only[cK] at h;split at h
   ·split at h
    ·split at h
     ·exact (Prod.mk.inj (Ai h)).2.symm
     ·cases h
    ·cases h
   ·cases h
  subst hk;simp only[cK] at h⊢;rw[<-hr k (by simp)];exact h
 |_=>simp[cK] at h
theorem t7 (h:aX.appSrc hg s a=some (es,r))(hr: ∀k∈r,hg k=hg' k):aX.appSrc hg' s a=some (es,r):=by
 cases a with
 |sl=>exact h
 |str=>exact h
 |con x=>rw[Tq hg' hg];exact h
 |vs k g n=>
  have hk:r= [k]:=by
   simp only[aX.appSrc] at h;split at h
   ·split at h
    ·split at h
     ·exact (Prod.mk.inj (Ai h)).2.symm
     ·cases h
    ·cases h
   ·cases h
  subst hk;simp only[aX.appSrc] at h⊢;rw[<-hr k (by simp)];exact h
 |vw k g o n=>
  have hk:r= [k]:=by
   simp only[aX.appSrc] at h;split at h
   ·split at h
    ·split at h
     ·exact (Prod.mk.inj (Ai h)).2.symm
     ·cases h
    ·cases h
   ·cases h
  subst hk;simp only[aX.appSrc] at h⊢;rw[<-hr k (by simp)];exact h
 |_=>simp[aX.appSrc] at h
end
end
theorem Tu {ao:AOp}{g key:Nat}{vals:CL}{hg hg':HF}{e:Eff}(h:aX ao g key vals hg=some e)(hr: ∀k∈e.rd,hg k=hg' k):aX ao g key vals hg'=some e:=by
 unfold aX at h;split at h
 all_goals (first|exact h|skip)
 ·
  simp only[aX];split at h
  ·rename_i hc
   rw[Ad hc];generalize b8 true vals=D at h⊢;cases D with
   |nil=>exact h
   |cons d r=>
    dsimp only at h⊢;obtain ⟨es,h1,rfl⟩:=map_some h;rw[<-yt (D:=d::r) (hg:=hg) (hg':=hg') (λk hk=>hr k hk)]
    exact h
  ·cases h
 ·
  simp only[aX];split at h
  ·rename_i cs r hc
   obtain ⟨v,h1,rfl⟩:=map_some h;rw[r6 hc hr];simp only[h1];rfl
  ·cases h
 ·
  rename_i sz a' x' a x;simp only[aX];cases hc:dJ x with
  |none=>rw[hc] at h;cases h
  |some cs=>
   rw[hc] at h;dsimp only at h⊢;split at h
   case isFalse=>cases h
   rename_i hl;rw[Ad hl];cases a with
   |ref k g' o=>
    dsimp only at h⊢
    have hk:k∈e.rd:=by
     split at h
     ·split at h
      ·split at h
       ·obtain rfl:=Ai h;simp
       ·cases h
      ·cases h
     ·cases h
    rw[<-hr k hk];exact h
   |er k g' i o=>
    dsimp only at h⊢
    have hk:k∈e.rd/\(∀d∈b8 true cs,d∈e.rd):=by
     split at h
     ·split at h
      ·split at h
       ·split at h
        ·rename_i hD;obtain rfl:=Ai h;simp[hD]
        ·rename_i D hD
         cases hb:(b8 true cs).contains k with
         |true=>rw[hb] at h;cases h
         |false=>
          rw[hb,cond_false] at h;rw[Bool.cond_eq_ite] at h;split at h
          ·obtain rfl:=Ai h;simp;intro d hd;exact .inr hd
          ·obtain rfl:=Ai h;simp;intro d hd;exact .inr hd
       ·cases h
      ·cases h
     ·cases h
    rw[<-hr k hk.1];generalize b8 true cs=D at h hk⊢;cases D with
    |nil=>exact h
    |cons d r=>dsimp only at h⊢;rw[<-Fd (D:=d::r) (hg:=hg) (hg':=hg') (λd hd=>hr d (hk.2 d hd)),<-yt (D:=d::r) (hg:=hg) (hg':=hg') (λd hd=>hr d (hk.2 d hd))];exact h
   |_=>cases h
 ·
  simp only[aX];split at h
  ·split at h
   ·exact h
   ·rename_i k g' n
    have hk:k∈e.rd:=by
     split at h
     ·split at h
      ·split at h
       ·obtain rfl:=Ai h;simp
       ·cases h
      ·cases h
     ·cases h
    rw[<-hr k hk];exact h
   ·rename_i k g' o n
    have hk:k∈e.rd:=by
     split at h
     ·split at h
      ·split at h
       ·obtain rfl:=Ai h;simp
       ·cases h
      ·cases h
     ·cases h
    rw[<-hr k hk];exact h
   ·cases h
  ·cases h
 ·
  simp only[aX];split at h
  ·rename_i es r hc
   obtain ⟨v,h1,rfl⟩:=map_some h;rw[Fu hc hr];simp only[h1];rfl
  ·cases h
 ·
  rename_i s x' lo hi mx x bs;simp only[aX];cases hl:lL x with
  |none=>rw[hl] at h;cases h
  |some n=>
   rw[hl] at h;dsimp only at h⊢;cases hb:aX.slBounds lo.isSome hi.isSome mx.isSome n bs with
   |none=>rw[hb] at h;cases h
   |some lh=>
    rw[hb] at h;dsimp only at h⊢;split at h
    ·exact h
    ·exact h
    ·rename_i k g' n'
     have hk:k∈e.rd:=by
      split at h
      ·split at h
       ·split at h<;>(obtain rfl:=Ai h;simp)
       ·cases h
      ·cases h
     rw[<-hr k hk];exact h
    ·rename_i k g' o n'
     have hk:k∈e.rd:=by
      split at h
      ·split at h
       ·obtain rfl:=Ai h;simp
       ·cases h
      ·cases h
     rw[<-hr k hk];exact h
    ·cases h
 ·
  simp only[aX];unfold ql at h⊢;split at h
  ·rename_i k gk off
   have hk:k∈e.rd:=by
    split at h
    ·split at h
     ·obtain rfl:=Ai h;simp
     ·cases h
    ·cases h
   rw[<-hr k hk];exact h
  ·cases h
 ·
  rename_i s bytes x' y' x y;simp only[aX];split at h
  ·cases h
  ·rename_i ys r hs
   split at h
   ·split at h
    ·rename_i hroom
     obtain rfl:=Ai h;rw[t7 hs hr];dsimp only;rw[Ad hroom]
    ·cases h
   ·rename_i k g' n
    have hk:k∈e.rd/\ ∀d∈r,d∈e.rd:=by
     split at h
     ·split at h
      ·obtain rfl:=Ai h;simp;intro d hd;exact .inr hd
      ·cases h
     ·cases h
    rw[t7 hs (λd hd=>hr d (hk.2 d hd))]
    dsimp only;rw[<-hr k hk.1];exact h
   ·cases h
 ·cases h
def Sft (sf:DA)(k:Nat)(y:C0):Prop:= ∃g o l,(k,g,o,l)∈sf/\ ∃cs,y=some (g,.cells cs)/\(cs.drop o).take l.length=l
theorem Sft.nil {k:Nat}{y:C0}(h:Sft [] k y):False:=by
 obtain ⟨g,o,l,h,_⟩:=h;cases h
section
variable {ao:AOp}{g key:Nat}{vals:CL}
theorem adR {hg:HF}{e:Eff}(h:aX ao g key vals hg=some e):e.sf= []∨ ∃sz x a,ao= .load sz x/\vals= [a]:=by
 unfold aX at h;split at h
 all_goals first
  |(right;exact ⟨_,_,_,rfl,rfl⟩)
  |(left;split at h<;>first|(obtain rfl:=Ai h;rfl)|(cases h;done))
  |(left;(repeat' split at h)<;>first|(cases h;done)|(obtain rfl:=Ai h;rfl)|(obtain ⟨_,_,rfl⟩:=map_some h;rfl)|(simp only[Bool.cond_eq_ite] at h;(repeat' split at h)<;>first|(cases h;done)|(obtain rfl:=Ai h;rfl))|(unfold ql at h;(repeat' split at h)<;>first|(cases h;done)|(obtain rfl:=Ai h;rfl)))
theorem W9 {hg hg':HF}{e:Eff}(h:aX ao g key vals hg=some e)(hr: ∀k∈e.rd,hg' k=hg k∨Sft e.sf k (hg' k)):aX ao g key vals hg'=some e:=by
 rcases adR h with hs|⟨sz,x,a,rfl,rfl⟩
 ·refine Tu h λk hk=>?_
  rcases hr k hk with q|q
  ·exact q.symm
  ·rw[hs] at q;exact q.nil.elim
 ·simp only[aX] at h⊢
  cases hc:cM hg a with
  |none=>rw[hc] at h;cases h
  |some x=>
   obtain ⟨cs,r⟩:=x;rw[hc] at h;obtain ⟨v,hv,rfl⟩:=map_some h;dsimp only at hr
   by_cases hall: ∀k∈r,hg' k=hg k
   ·rw[r6 hc λk hk=>(hall k hk).symm]
    simp only[hv];rfl
   ·cases a with
    |ref k g' o=>
     have hgk: ∃cs0,hg k=some (g',.cells cs0)/\cs=cs0.drop o/\r= [k]:=by
      simp only[cM] at hc;split at hc
      ·rename_i g'' cs0 hk
       split at hc
       ·rename_i hg2
        obtain ⟨rfl,rfl⟩:=Prod.mk.inj (Ai hc);exact ⟨cs0,by rw[hk,hg2],rfl,rfl⟩
       ·cases hc
      ·cases hc
     obtain ⟨cs0,h1,rfl,rfl⟩:=hgk;have hk:=(hr k (by simp)).resolve_left (λq=>hall (by simpa using q))
     obtain ⟨g2,o2,l,hm,cs',hy,hl⟩:=hk;simp only[si,B6,Prod.mk.injEq] at hm;obtain ⟨_,rfl,rfl,rfl⟩:=hm
     have hlen:((cs0.drop o2).take (sz.getD 1)).length=sz.getD 1:=by
      rw[List.length_take];refine Nat.min_eq_left ?_;unfold fD at hv;cases sz with
      |none=>
       cases hq:cs0.drop o2 with
       |nil=>rw[hq] at hv;cases hv
       |cons c q=>simp
      |some n=>
       dsimp only at hv;split at hv
       ·assumption
       ·cases hv
     rw[hlen] at hl
     have hp:fD sz (cs'.drop o2)=some v:=by
      unfold fD at hv⊢;cases sz with
      |none=>
       simp only[Option.getD_none] at hl hlen;cases hq:cs0.drop o2 with
       |nil=>rw[hq] at hv;cases hv
       |cons c q=>
        rw[hq] at hv hl;cases hq':cs'.drop o2 with
        |nil=>rw[hq'] at hl;simp at hl
        |cons c' q'=>
         rw[hq'] at hl;simp at hl;rw[hl];exact hv
      |some n=>
       simp only[Option.getD_some] at hl hlen;dsimp only at hv⊢;split at hv
       ·rename_i hn
        have hn':n<=(cs'.drop o2).length:=by
         have:=congrArg List.length hl;rw[List.length_take,List.length_take] at this;omega
        rw[Ad hn',hl];exact hv
       ·cases hv
     simp only[cM,hy,if_true];rw[hp];simp only[Option.map_some,si,hl]
    |rp cs0=>
     exfalso;simp only[cM] at hc;obtain ⟨rfl,rfl⟩:=Prod.mk.inj (Ai hc);exact hall (by simp)
    |er k g' i o=>
     exfalso;apply hall;intro k' hk';rcases hr k' hk' with q|q
     ·exact q
     ·simp only[si] at q;exact q.nil.elim
    |_=>simp[cM] at hc
end
end Go.AM
