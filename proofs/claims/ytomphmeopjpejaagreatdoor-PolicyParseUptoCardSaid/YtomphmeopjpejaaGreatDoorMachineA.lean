/- An abstract machine: its functions give what the calls of the program give. -/
import Derived.Calls
import Derived.Orders
import Derived.Below
import Derived.Deep.AppendSrc
import Derived.Deep.Upon
import Derived.KernelRfl
import Derived.Laws.StructEq
import Derived.Laws.MakeOwn
import Derived.Laws.BytesArg
import Derived.Laws.Cover3
import Derived.Laws.Tables
import Derived.Laws.Strings
import Derived.Laws.IdiomStrings
import Derived.Deep.MidRow
set_option linter.unusedSectionVars false
set_option linter.unusedVariables false
set_option linter.unusedSimpArgs false
abbrev Aa:= @if_neg
abbrev Ac:= @if_pos
abbrev Ad:= @Option.some.inj
abbrev Ai:= @List.getD_eq_getElem?_getD
abbrev Aj:= @Array.getD_eq_getD_getElem?
abbrev Ak:= @decide_eq_true
abbrev Al:= @decide_eq_false
abbrev An:= @List.map_cons
abbrev Ao:= @List.length_append
abbrev Ar:= @List.length_cons
abbrev As:= @List.length_map
abbrev At:= @Bool.and_eq_true
abbrev Av:= @List.getElem?_eq_some_iff
abbrev AA:= @List.getElem?_eq_none
abbrev AC:= @Decidable.not_not
abbrev AD:= @List.eq_nil_of_length_eq_zero
abbrev AF:= @List.getElem?_eq_getElem
abbrev AI:= @List.mem_cons
abbrev AJ:= @Nat.le_trans
abbrev AK:= @decide_eq_true_eq
abbrev AL:= @decide_eq_false_iff_not
abbrev AN:= @Bool.not_eq_true
abbrev AO:= @Nat.lt_or_ge
abbrev AR:= @Bool.false_eq_true
abbrev A3:= @Nat.zero_add
abbrev A4:= @Nat.mul_le_mul_right
abbrev A5:= @UInt8.toNat_inj
abbrev A6:= @List.map_nil
abbrev A7:= @Nat.le_refl
abbrev A8:= @Option.isSome_iff_exists
abbrev A9:= @List.nil_append
abbrev Bb:= @List.append_nil
abbrev Bd:= @List.mem_map
abbrev Be:= @List.getElem?_append_right
abbrev Bo:= @Bool.false_and
abbrev By:= @Bool.true_and
abbrev BD:= @List.cons_append
abbrev BE:= @List.mem_append
abbrev BO:= @List.mem_singleton
abbrev BS:= @Nat.lt_of_lt_of_le
abbrev BY:= @Int.toNat_of_nonneg
abbrev B2:= @List.all_cons
abbrev B3:= @List.getElem?_map
abbrev B4:= @Nat.lt_of_le_of_lt
abbrev B5:=List UInt8
abbrev Cc:=List Nat
abbrev CF:=List B5
abbrev CV:=Option Nat
abbrev Dg:=List Bool
abbrev Dn:=Option (Nat×Bool)
abbrev Ds:=Option Int
abbrev DG:=Option (Nat×Nat)
abbrev D4:=List Int
namespace Go.AM
inductive AV where
 |any
 |int (k:IntKind) (n:Int)
 |bool (b:Bool)
 |str (s:B5)
 |con (v:Value)
 |agg (cs:List AV)
 |sl (s:Nat) (es:List (List AV))
 |rp (cs:List AV)
 |ref (key gen off:Nat)
 |er (key gen i off:Nat)
 |vs (key gen len:Nat)
 |vw (key gen off len:Nat)
 |fn (f:Nat) (cap:List AV)
 |tup (vs:List AV)
 |ifc (t:Nat) (v:AV)
 |mp (key gen:Nat)
 deriving Inhabited
abbrev DS:=Option AV
abbrev Cf:=List (Nat×AV)
abbrev B7:=List AV
abbrev Dd:=List (Nat×Nat×Nat×B7)
abbrev B6:=List B7
structure Place where
 blk:Nat
 off:Nat
 cap:Nat
 sz:Nat
 isNil:Bool
def Place.base (p:Place)(o:Nat):Option Addr:=if p.isNil then none else some ⟨p.blk,p.off+o,none⟩
structure Env where
 ro:Nat->Nat->Value->Prop
 lv:Nat->Nat->Option Place
 used:Nat->Nat->Prop
 num:Nat->Nat
 tnum:Nat->Nat
def BB:Nat:=1048576
section
variable (f:Nat)(cs:Array Value)
def isB:Bool:=Nat.ble BB f
def bV:Nat:=bif isB f then f-BB else f
def fnF:Array Value:=bif isB f then cs else #[]
def fnC:Array Value:=bif isB f then #[] else cs
end
inductive V (E:Env):Value->AV->Prop
 |any (v:Value):V E v .any
 |int (k:IntKind) (n:Int):V E (.int k n) (.int k n)
 |bool (b:Bool):V E (.bool b) (.bool b)
 |str (s:B5):V E (.string ⟨s.toArray⟩) (.str s)
 |con (v:Value):V E v (.con v)
 |agg (cs:Array Value) (as:B7) (hl:cs.size=as.length) (hf: ∀i,i<as.length->(cs.getD i undef).oneCell'=true) (h: ∀i,i<as.length->V E (cs.getD i undef) (as.getD i .any)):V E (.agg cs) (.agg as)
 | sl (s:Nat) (es:B6) (a:Option Addr) (n c:Nat) (hn:n=es.length) (hs: ∀i,i<es.length->(es.getD i []).length=s) (hc:n<=c)
   (u:Nat->Nat->Value)
   (hb:es≠ []-> ∃b off,a=some ⟨b,off,none⟩/\ ∀i,i<es.length-> ∀j,j<s->E.ro b (off+i*s+j) (u i j))
   (h: ∀i,i<es.length-> ∀j,j<s->V E (u i j) ((es.getD i []).getD j .any)):V E (.slice a n c) (.sl s es)
 | rp (b off:Nat) (cs:B7) (u:Nat->Value) (hb: ∀j,j<cs.length->E.ro b (off+j) (u j))
   (h: ∀j,j<cs.length->V E (u j) (cs.getD j .any)):V E (.pointer (some ⟨b,off,none⟩)) (.rp cs)
 |ref (x:Value) (key gen off:Nat) (hf: ∃b o,x= .pointer (some ⟨b,o,none⟩)) (hu:E.used key gen) (h: ∀p,E.lv key gen=some p->x= .pointer (some ⟨p.blk,p.off+off,none⟩)):V E x (.ref key gen off)
 |er (x:Value) (key gen i off:Nat) (hf: ∃b o,x= .pointer (some ⟨b,o,none⟩)) (hu:E.used key gen) (h: ∀p,E.lv key gen=some p->x= .pointer (some ⟨p.blk,p.off+i*p.sz+off,none⟩)):V E x (.er key gen i off)
 |vs (x:Value) (key gen len:Nat) (hf: ∃a c,x= .slice a len c) (hu:E.used key gen) (h: ∀p,E.lv key gen=some p->x= .slice (p.base 0) len p.cap/\len<=p.cap):V E x (.vs key gen len)
 |vw (x:Value) (key gen off len:Nat) (hf: ∃a c,x= .slice a len c) (hu:E.used key gen) (h: ∀p,E.lv key gen=some p-> ∃c o,x= .slice (p.base o) len c/\len<=c/\(len≠0->o=off*p.sz/\p.isNil=false)):V E x (.vw key gen off len)
 |fn (f:Nat) (cs:Array Value) (as:B7) (hl:cs.size=as.length) (h: ∀i,i<as.length->V E (cs.getD i undef) (as.getD i .any)):V E (.func (.func (E.num (bV f))) (fnF f cs) (fnC f cs)) (.fn f as)
 |tup (cs:Array Value) (as:B7) (hl:cs.size=as.length) (h: ∀i,i<as.length->V E (cs.getD i undef) (as.getD i .any)):V E (.tuple cs) (.tup as)
 |ifc (t:Nat) (v:Value) (a:AV) (h:V E v a):V E (.iface (E.tnum t) v) (.ifc t a)
 |mp (x:Value) (key gen:Nat) (hf: ∃r,x= .map (some r)) (hu:E.used key gen) (h: ∀p,E.lv key gen=some p->x= .map (some p.blk)):V E x (.mp key gen)
structure Env.le (E E':Env):Prop where
 ro: ∀b o u,E.ro b o u->E'.ro b o u
 lv: ∀k g p,E.used k g->E'.lv k g=some p->E.lv k g=some p
 used: ∀k g,E.used k g->E'.used k g
 num:E'.num=E.num
 tnum:E'.tnum=E.tnum
theorem Env.le.refl (E:Env):E.le E:=⟨λ_ _ _ h=>h,λ_ _ _ _ h=>h,λ_ _ h=>h,rfl,rfl⟩
theorem Env.le.trans {a b c:Env}(h:a.le b)(k:b.le c):a.le c:=
 ⟨λ_ _ _ x=>k.ro _ _ _ (h.ro _ _ _ x),λ_ _ _ u x=>h.lv _ _ _ u (k.lv _ _ _ (h.used _ _ u) x),λ_ _ u=>k.used _ _ (h.used _ _ u),k.num.trans h.num,k.tnum.trans h.tnum⟩
theorem V.mono {E E':Env}(l:E.le E'){v:Value}{a:AV}(h:V E v a):V E' v a:=by
 induction h with
 |any v=>exact .any v
 |int k n=>exact .int k n
 |bool b=>exact .bool b
 |str s=>exact .str s
 |con v=>exact .con v
 |agg cs as hl hf _ ih=>exact .agg cs as hl hf ih
 |sl s es a n c hn hs hc u hb _ ih=>
  exact .sl s es a n c hn hs hc u (λhe=>let ⟨b,off,e,r⟩:=hb he;⟨b,off,e,λi hi j hj=>l.ro _ _ _ (r i hi j hj)⟩) ih
 |rp b off cs u hb _ ih=>exact .rp b off cs u (λj hj=>l.ro _ _ _ (hb j hj)) ih
 |ref x key gen off hf hu h=>exact .ref x key gen off hf (l.used _ _ hu) λp hp=>h p (l.lv _ _ _ hu hp)
 |er x key gen i off hf hu h=>exact .er x key gen i off hf (l.used _ _ hu) λp hp=>h p (l.lv _ _ _ hu hp)
 |vs x key gen len hf hu h=>exact .vs x key gen len hf (l.used _ _ hu) λp hp=>h p (l.lv _ _ _ hu hp)
 |vw x key gen off len hf hu h=>exact .vw x key gen off len hf (l.used _ _ hu) λp hp=>h p (l.lv _ _ _ hu hp)
 |fn f cs as hl _ ih=>rw[<-l.num];exact .fn f cs as hl ih
 |tup cs as hl _ ih=>exact .tup cs as hl ih
 |ifc t v a _ ih=>rw[<-l.tnum];exact .ifc t v a ih
 |mp x key gen hf hu h=>exact .mp x key gen hf (l.used _ _ hu) λp hp=>h p (l.lv _ _ _ hu hp)
inductive Blk where
 |cells (cs:B7)
 |vec (s:Nat) (es:B6)
 |mp (es:List (AV×AV))
 deriving Inhabited
abbrev C5:=List Blk
abbrev Co:=List (Bool×Blk)
abbrev Cl:=Option (Nat×Blk)
inductive Tgt where
 |to (key gen:Nat)
 |frz (b:Blk)
 |dead
 deriving Inhabited
mutual
def AV.ren (φ:Nat->Nat->Tgt):AV->AV
 | .any=>.any
 | .int k n=>.int k n
 | .bool b=>.bool b
 | .str s=>.str s
 | .con v=>.con v
 | .agg cs=>.agg (dT φ cs)
 | .sl s es=>.sl s (fU φ es)
 | .rp cs=>.rp (dT φ cs)
 | .ref k g o=>match φ k g with
  | .to k' g'=>.ref k' g' o
  | .frz (.cells cs)=>.rp (cs.drop o)
  |_=>.any
 | .er k g i o=>match φ k g with
  | .to k' g'=>.er k' g' i o
  | .frz (.vec _ es)=>.rp ((es.getD i []).drop o)
  |_=>.any
 | .vs k g n=>match φ k g with
  | .to k' g'=>.vs k' g' n
  | .frz (.vec s es)=>if n<=es.length then .sl s (es.take n) else .any
  |_=>.any
 | .vw k g o n=>match φ k g with
  | .to k' g'=>.vw k' g' o n
  | .frz (.vec s es)=>if o+n<=es.length then .sl s ((es.drop o).take n) else .any
  |_=>.any
 | .fn f cs=>.fn f (dT φ cs)
 | .tup cs=>.tup (dT φ cs)
 | .ifc t v=>.ifc t (AV.ren φ v)
 | .mp k g=>match φ k g with
  | .to k' g'=>.mp k' g'
  |_=>.any
def dT (φ:Nat->Nat->Tgt):B7->B7
 | []=>[]
 |a::r=>AV.ren φ a::dT φ r
def fU (φ:Nat->Nat->Tgt):B6->B6
 | []=>[]
 |a::r=>dT φ a::fU φ r
end
theorem bH (φ:Nat->Nat->Tgt): ∀l:B7,(dT φ l).length=l.length
 | []=>rfl
 |_::r=>by simp[dT,bH φ r]
theorem f9 (φ:Nat->Nat->Tgt): ∀l:B6,(fU φ l).length=l.length
 | []=>rfl
 |_::r=>by simp[fU,f9 φ r]
theorem gW (φ:Nat->Nat->Tgt): ∀(l:B7)(i:Nat),(dT φ l).getD i .any=(l.getD i .any).ren φ
 | [],i=>by simp[dT,AV.ren]
 |a::r,0=>by simp[dT]
 |a::r,i+1=>by simpa[dT] using gW φ r i
theorem lI (φ:Nat->Nat->Tgt): ∀(l:B6)(i:Nat),(fU φ l).getD i []=dT φ (l.getD i [])
 | [],i=>by simp[fU,dT]
 |a::r,0=>by simp[fU]
 |a::r,i+1=>by simpa[fU] using lI φ r i
def SG (E:Env)(p:Place):Blk->Prop
 | .cells cs=> ∃u:Nat->Value,∀j,j<cs.length->E.ro p.blk (p.off+j) (u j)/\V E (u j) (cs.getD j .any)
 | .vec s es=>p.sz=s/\(∀i,i<es.length->(es.getD i []).length=s)/\(p.isNil=true->es= [])/\
   ∃u:Nat->Nat->Value,∀i,i<es.length-> ∀j,j<s->E.ro p.blk (p.off+i*s+j) (u i j)/\V E (u i j) ((es.getD i []).getD j .any)
 | .mp _=>True
structure RenOk (E E':Env)(φ:Nat->Nat->Tgt):Prop where
 ro: ∀b o u,E.ro b o u->E'.ro b o u
 num:E'.num=E.num
 tnum:E'.tnum=E.tnum
 at_: ∀k g,E.used k g->match φ k g with
  | .to k' g'=>E'.used k' g'/\ ∀p,E'.lv k' g'=some p->E.lv k g=some p
  | .frz b=> ∃p,E.lv k g=some p/\SG E' p b
  | .dead=>True
section
variable {α:Type}(l:List α)(n i:Nat)(d:α)
theorem qr (h:i<n):(l.take n).getD i d=l.getD i d:=by
 grind
theorem uw:(l.drop n).getD i d=l.getD (n+i) d:=by
 grind
end
theorem V.ren {E E':Env}{φ:Nat->Nat->Tgt}(r:RenOk E E' φ){v:Value}{a:AV}(h:V E v a):V E' v (a.ren φ):=by
 induction h with
 |any v=>exact .any v
 |int k n=>exact .int k n
 |bool b=>exact .bool b
 |str s=>exact .str s
 |con v=>exact .con v
 |agg cs as hl hf _ ih=>
  exact .agg cs _ (by grind [bH]) (λi hi=>hf i (by grind [bH])) λi hi=>by grind [gW,bH]
 |sl s es a n c hn hs hc u hb _ ih=>
  refine .sl s _ a n c (by grind [f9]) (λi hi=>?_) hc u (λhe=>?_) λi hi j hj=>?_
  ·grind [lI,bH,f9]
  ·have he':es≠ []:=λe=>he (by rw[e];rfl)
   obtain ⟨b,off,e,q⟩:=hb he';exact ⟨b,off,e,λi hi j hj=>r.ro _ _ _ (q i (by grind [f9]) j hj)⟩
  grind [lI,gW,f9]
 |rp b off cs u hb _ ih=>
  exact .rp b off _ u (λj hj=>r.ro _ _ _ (hb j (by grind [bH]))) λj hj=>by grind [gW,bH]
 |ref x k g o hf hu h=>
  have q:=r.at_ k g hu;simp only[AV.ren];cases hφ:φ k g with
  |to k' g'=>rw[hφ] at q;exact .ref x k' g' o hf q.1 λp hp=>h p (q.2 p hp)
  |dead=>exact .any x
  |frz b=>
   rw[hφ] at q;obtain ⟨p,hp,hb⟩:=q;cases b with
   |mp es=>exact .any x
   |vec s es=>exact .any x
   |cells cs=>
    obtain ⟨u,hu⟩:=hb;rw[h p hp];refine .rp p.blk (p.off+o) _ (λj=>u (o+j)) (λj hj=>?_) λj hj=>?_
    all_goals grind
 |er x k g i o hf hu h=>
  have q:=r.at_ k g hu;simp only[AV.ren];cases hφ:φ k g with
  |to k' g'=>rw[hφ] at q;exact .er x k' g' i o hf q.1 λp hp=>h p (q.2 p hp)
  |dead=>exact .any x
  |frz b=>
   rw[hφ] at q;obtain ⟨p,hp,hb⟩:=q;cases b with
   |mp es=>exact .any x
   |cells cs=>exact .any x
   |vec s es=>
    obtain ⟨hsz,hs,hnil,u,hu⟩:=hb;rw[h p hp,hsz]
    have hlen: ∀j,j<((es.getD i []).drop o).length->i<es.length/\o+j<s:=λj hj=>by
     grind
    refine .rp p.blk (p.off+i*s+o) _ (λj=>u i (o+j)) (λj hj=>?_) λj hj=>?_
    all_goals grind
 |vs x k g n hf hu h=>
  have q:=r.at_ k g hu;simp only[AV.ren];cases hφ:φ k g with
  |to k' g'=>rw[hφ] at q;exact .vs x k' g' n hf q.1 λp hp=>h p (q.2 p hp)
  |dead=>exact .any x
  |frz b=>
   rw[hφ] at q;obtain ⟨p,hp,hb⟩:=q;cases b with
   |mp es=>exact .any x
   |cells cs=>exact .any x
   |vec s es=>
    obtain ⟨hsz,hs,hnil,u,hu⟩:=hb;dsimp only;split
    ·rename_i hn
     obtain ⟨rfl,hcap⟩:=h p hp;refine .sl s _ _ n p.cap (by simp;omega) (λi hi=>?_) hcap u (λhe=>?_) λi hi j hj=>?_
     all_goals grind [Place.base]
    ·exact .any x
 |vw x k g o n hf hu h=>
  have q:=r.at_ k g hu;simp only[AV.ren];cases hφ:φ k g with
  |to k' g'=>rw[hφ] at q;exact .vw x k' g' o n hf q.1 λp hp=>h p (q.2 p hp)
  |dead=>exact .any x
  |frz b=>
   rw[hφ] at q;obtain ⟨p,hp,hb⟩:=q;cases b with
   |mp es=>exact .any x
   |cells cs=>exact .any x
   |vec s es=>
    obtain ⟨hsz,hs,hnil,u,hu⟩:=hb;dsimp only;split
    ·rename_i hn
     obtain ⟨c,o',rfl,hcap,ho'⟩:=h p hp;refine .sl s _ _ n c (by simp;omega) (λi hi=>?_) hcap (λi j=>u (o+i) j) (λhe=>?_) λi hi j hj=>?_
     ·grind
     ·have hn0:n≠0:=by grind
      have ho:=(ho' hn0).1;subst ho
      grind [Place.base]
     grind
    ·exact .any x
 |fn f cs as hl _ ih=>
  rw[<-r.num];exact .fn f cs _ (by grind [bH]) λi hi=>by grind [gW,bH]
 |tup cs as hl _ ih=>
  exact .tup cs _ (by grind [bH]) λi hi=>by grind [gW,bH]
 |ifc t v a _ ih=>rw[<-r.tnum];exact .ifc t v _ ih
 |mp x k g hf hu h=>
  have q:=r.at_ k g hu;simp only[AV.ren];cases hφ:φ k g with
  |to k' g'=>rw[hφ] at q;exact .mp x k' g' hf q.1 λp hp=>h p (q.2 p hp)
  |dead=>exact .any x
  |frz b=>exact .any x
mutual
def AV.pure:AV->Bool
 | .any| .int _ _| .bool _| .str _| .con _=>true
 | .agg cs| .rp cs| .fn _ cs| .tup cs=>aM cs
 | .sl _ es=>ab es
 | .ref _ _ _| .er _ _ _ _| .vs _ _ _| .vw _ _ _ _| .mp _ _=>false
 | .ifc _ v=>AV.pure v
def aM:B7->Bool
 | []=>true
 |a::r=>AV.pure a&&aM r
def ab:B6->Bool
 | []=>true
 |a::r=>aM a&&ab r
end
mutual
theorem AV.ren_pure (φ:Nat->Nat->Tgt): ∀a:AV,a.pure=true->a.ren φ=a
 | .any,_| .int _ _,_| .bool _,_| .str _,_| .con _,_=>by simp[AV.ren]
 | .agg cs,h=>by simp only[AV.ren];rw[gV φ cs (by simpa[AV.pure] using h)]
 | .rp cs,h=>by simp only[AV.ren];rw[gV φ cs (by simpa[AV.pure] using h)]
 | .fn f cs,h=>by simp only[AV.ren];rw[gV φ cs (by simpa[AV.pure] using h)]
 | .tup cs,h=>by simp only[AV.ren];rw[gV φ cs (by simpa[AV.pure] using h)]
 | .sl s es,h=>by simp only[AV.ren];rw[dh φ es (by simpa[AV.pure] using h)]
 | .ref _ _ _,h| .er _ _ _ _,h| .vs _ _ _,h| .vw _ _ _ _,h| .mp _ _,h=>by simp[AV.pure] at h
 | .ifc t v,h=>by simp only[AV.ren];rw[AV.ren_pure φ v (by simpa[AV.pure] using h)]
theorem gV (φ:Nat->Nat->Tgt): ∀l:B7,aM l=true->dT φ l=l
 | [],_=>rfl
 |a::r,h=>by
  simp only[aM,At] at h;simp only[dT];rw[AV.ren_pure φ a h.1,gV φ r h.2]
theorem dh (φ:Nat->Nat->Tgt): ∀l:B6,ab l=true->fU φ l=l
 | [],_=>rfl
 |a::r,h=>by
  simp only[ab,At] at h;simp only[fU];rw[gV φ a h.1,dh φ r h.2]
end
inductive Opd where
 |t (n:Nat)
 |c (v:AV)
 deriving Inhabited
abbrev D2:=Option Opd
abbrev Do:=List Opd
inductive NK where
 |ptr|slice|map|func|iface
 deriving Inhabited
inductive LK where
 |int|bool|str
 deriving Inhabited,DecidableEq
inductive AOp where
 |mv (x:Opd)
 |pick (c a b:Opd)
 |box (x:Opd)
 |alloc (z:AV)
 |build (z:B7) (nD:List (Nat×Nat)) (xs:Do)
 |bsl (s:Nat) (z:B7) (n:Nat) (nD:Cc) (xs:Do)
 |load (sz:CV) (a:Opd)
 |store (sz:Nat) (a x:Opd)
 |fadr (off:Nat) (a:Opd)
 |iadr (s:Nat) (x i:Opd)
 |iarr (n s:Nat) (x i:Opd)
 |ival (n s:Nat) (sz:CV) (x i:Opd)
 |istr (x i:Opd)
 |bin (op:BinOp) (x y:Opd)
 |eqb (neg:Bool) (x y:Opd)
 |eqn (k:NK) (neg:Bool) (x y:Opd)
 |eqs (ks:List LK) (neg:Bool) (x y:Opd)
 |un (op:UnOp) (x:Opd)
 |conv (k:IntKind) (x:Opd)
 |b2s (x:Opd)
 |mkfn (f:Nat) (cap:Do)
 |mksl (s bytes:Nat) (z:B7) (n c:Opd)
 |slc (s:Nat) (x:Opd) (lo hi mx:D2)
 |slstr (x:Opd) (lo hi:D2)
 |slarr (n s:Nat) (x:Opd) (lo hi mx:D2)
 |ext (x:Opd) (i:Nat)
 |len (str:Bool) (x:Opd)
 |app (s bytes:Nat) (x y:Opd)
 |copy (s:Nat) (x y:Opd)
 |minmax (isMax:Bool) (xs:Do)
 |nilck (x:Opd)
 |mkifc (t:Nat) (x:Opd)
 |panic (x:Opd)
 |call (f:Opd) (args:Do)
 deriving Inhabited
def AOp.opds:AOp->Do
 | .mkifc _ x| .panic x| .mv x| .box x| .load _ x| .fadr _ x| .un _ x| .conv _ x| .b2s x| .ext x _| .len _ x| .nilck x=>[x]
 | .pick c a b=>[c,a,b]
 | .alloc _=>[]
 | .build _ _ xs| .bsl _ _ _ _ xs| .minmax _ xs=>xs
 | .store _ a x| .iadr _ a x| .iarr _ _ a x| .ival _ _ _ a x| .istr a x| .bin _ a x| .eqb _ a x| .eqn _ _ a x| .eqs _ _ a x| .mksl _ _ _ a x| .app _ _ a x| .copy _ a x=>[a,x]
 | .mkfn _ cap=>cap
 | .slc _ x lo hi mx| .slarr _ _ x lo hi mx=>x::(lo.toList++(hi.toList++mx.toList))
 | .slstr x lo hi=>x::(lo.toList++hi.toList)
 | .call f args=>f::args
structure AOper where
 dst:CV
 op:AOp
 guard:Dn
 after:Cc
 deriving Inhabited
abbrev Cb:=List AOper
inductive ACode where
 |skip
 |region (ops:Cb) (draw:Bool)
 |seq (a b:ACode)
 |cond (c:Opd) (a b:ACode)
 |block (id:Nat) (b:ACode)
 |loop (b:ACode)
 |scope (b:ACode)
 |exit (id:Nat)
 |ret
 deriving Inhabited
inductive RVar where
 |t (n:Nat)
 |cell (a:Nat) (sz:CV)
 |dfd (sp:AV->Option B6)
 deriving Inhabited
abbrev CT:=List RVar
structure AFunc where
 n:Nat
 np:Nat
 raw:Bool
 results:CT
 body:ACode
 deriving Inhabited
abbrev az:=List (Nat×Cl)
structure AS where
 tm:Cf
 hp:az
 ctr:Nat
 deriving Inhabited
def bI:Cf->Nat->AV
 | [],_=>.any
 |(t,v)::r,u=>if t=u then v else bI r u
def aY:az->Nat->Cl
 | [],_=>none
 |(t,v)::r,u=>if t=u then v else aY r u
def evo (tm:Cf):Opd->AV
 | .t n=>bI tm n
 | .c v=>v
structure Eff where
 res:AV
 wr:az:=[]
 rd:Cc:=[]
 sf:Dd:=[]
 deriving Inhabited
abbrev C6:=Option Eff
abbrev DF:=List (CV×C6)
abbrev DnE:=Nat×Cc×Cc×Dd
abbrev Df:=List DnE
def tw (a:AV)(cs:B7)(sz:CV):Dd:=match a with
 | .ref k g o=>[(k,g,o,cs.take (sz.getD 1))]
 |_=>[]
mutual
def AV.keys (all:Bool):AV->Cc
 | .any| .int _ _| .bool _| .str _| .con _=>[]
 | .agg cs| .rp cs| .fn _ cs| .tup cs=>cm all cs
 | .sl _ es=>iy all es
 | .ref k _ _=>[k]
 | .er k _ _ _=>[k]
 | .vs k _ _=>bif all then [k] else []
 | .vw k _ _ _=>bif all then [k] else []
 | .mp k _=>[k]
 | .ifc _ v=>AV.keys all v
def cm (all:Bool):B7->Cc
 | []=>[]
 |a::r=>AV.keys all a++cm all r
def iy (all:Bool):B6->Cc
 | []=>[]
 |a::r=>cm all a++iy all r
end
mutual
theorem AV.keys_pure (all:Bool): ∀a:AV,a.pure=true->a.keys all= []
 | .any,_| .int _ _,_| .bool _,_| .str _,_| .con _,_=>by simp[AV.keys]
 | .agg cs,h| .rp cs,h| .fn _ cs,h| .tup cs,h=>by simp only[AV.keys];exact jg all cs (by simpa[AV.pure] using h)
 | .sl _ es,h=>by simp only[AV.keys];exact jn all es (by simpa[AV.pure] using h)
 | .ref _ _ _,h| .er _ _ _ _,h| .vs _ _ _,h| .vw _ _ _ _,h| .mp _ _,h=>by simp[AV.pure] at h
 | .ifc _ v,h=>by simp only[AV.keys];exact AV.keys_pure all v (by simpa[AV.pure] using h)
theorem jg (all:Bool): ∀l:B7,aM l=true->cm all l= []
 | [],_=>rfl
 |a::r,h=>by
  simp only[aM,At] at h;simp only[cm,AV.keys_pure all a h.1,jg all r h.2,A9]
theorem jn (all:Bool): ∀l:B6,ab l=true->iy all l= []
 | [],_=>rfl
 |a::r,h=>by
  simp only[ab,At] at h;simp only[iy,jg all a h.1,jn all r h.2,A9]
end
def Blk.keys:Blk->Cc
 | .cells cs=>cm true cs
 | .vec _ es=>iy true es
 | .mp _=>[]
def Blk.pure:Blk->Bool
 | .cells cs=>aM cs
 | .vec _ es=>ab es
 | .mp _=>false
def Blk.ren (φ:Nat->Nat->Tgt):Blk->Blk
 | .cells cs=>.cells (dT φ cs)
 | .vec s es=>.vec s (fU φ es)
 | .mp es=>.mp es
def AV.flat:AV->Bool
 | .any| .agg _| .tup _=>false
 | .con v=>v.oneCell'
 |_=>true
def dM:AV->Option B7
 | .agg cs=>some cs
 |a=>bif a.flat then some [a] else none
section
variable (hg:Nat->Cl)(D:Cc)
def j6 (k g:Nat):Tgt:=
 bif D.contains k then
  match hg k with
  |some (g',b)=>if g'=g then (bif b.pure then .frz b else .dead) else .dead
  |none=>.dead
 else .dead
def bW:Cc->az
 | []=>[]
 |k::r=>(k,none)::bW r
def dw {α:Type}(l:List α)(off:Nat)(cs:List α):List α:=l.take off++(cs++l.drop (off+cs.length))
def sr (z:B7):List (Nat×Nat)->B7->Option B7
 | [],[]=>some z
 |(off,sz)::ps,v::vs=>
  match dM v with
  |some cs=>if cs.length=sz/\off+sz<=z.length then sr (dw z off cs) ps vs else none
  |none=>none
 |_,_=>none
def l9 (s:Nat)(z:B6):Cc->B7->Option B6
 | [],[]=>some z
 |i::ps,v::vs=>
  match dM v with
  |some cs=>if cs.length=s/\i<z.length then l9 s (z.set i cs) ps vs else none
  |none=>none
 |_,_=>none
def iV {α:Type}(n:Nat)(a:α):List α:=List.replicate n a
def fD (sz:CV)(cs:B7):DS:=
 match sz with
 |none=>match cs with
  |c::_=>some c
  | []=>none
 |some n=>if n<=cs.length then some (.agg (cs.take n)) else none
def dI:AV->Option (B7×Cc)
 | .rp cs=>some (cs,[])
 | .ref k g o=>match hg k with
  |some (g',.cells cs)=>if g'=g then some (cs.drop o,[k]) else none
  |_=>none
 | .er k g i o=>match hg k with
  |some (g',.vec _ es)=>if g'=g then (if i<es.length then some ((es.getD i []).drop o,[k]) else none) else none
  |_=>none
 |_=>none
def dH:AV->Option (B6×Cc)
 | .sl _ es=>some (es,[])
 | .con (.slice none 0 0)=>some ([],[])
 | .vs k g n=>match hg k with
  |some (g',.vec _ es)=>if g'=g then (if n<=es.length then some (es.take n,[k]) else none) else none
  |_=>none
 | .vw k g o n=>match hg k with
  |some (g',.vec _ es)=>if g'=g then (if o+n<=es.length then some ((es.drop o).take n,[k]) else none) else none
  |_=>none
 |_=>none
def byteCells (s:B5):B6:=s.map λb=>[.int .u8 b.toNat]
def lY:AV->CV
 | .sl _ es=>some es.length
 | .con (.slice none 0 0)=>some 0
 | .vs _ _ n=>some n
 | .vw _ _ _ n=>some n
 |_=>none
def lenS (str:Bool)(x:AV):CV:=
 match str,x with
 |true,.str s=>some s.length
 |false,x=>lY x
 |_,_=>none
def intBits (op:BinOp)(k:IntKind)(x y:Int):Int:=
 k.wrap ((match op with
  | .and=>BitVec.ofInt k.bits x&&&BitVec.ofInt k.bits y
  | .or=>BitVec.ofInt k.bits x|||BitVec.ofInt k.bits y
  | .xor=>BitVec.ofInt k.bits x^^^BitVec.ofInt k.bits y
  |_=>BitVec.ofInt k.bits x&&& ~~~(BitVec.ofInt k.bits y)).toNat:Int)
def Ji:AV->Option Bool
 | .con (.pointer none)| .con (.slice none _ _)| .con (.map none)| .con .nilIface| .con .nilFunc=>some true
 | .ref _ _ _| .er _ _ _ _| .rp _| .fn _ _| .ifc _ _=>some false
 |_=>none
def FY:NK->AV->Option Bool
 | .ptr,.con (.pointer none)=>some true
 | .ptr,.ref _ _ _| .ptr,.er _ _ _ _| .ptr,.rp _=>some false
 | .slice,.con (.slice none 0 0)=>some true
 | .slice,.sl _ (_::_)=>some false
 | .map,.con (.map none)=>some true
 | .func,.con .nilFunc=>some true
 | .func,.fn _ _=>some false
 | .iface,.con .nilIface=>some true
 | .iface,.ifc _ _=>some false
 |_,_=>none
def eqN (k:NK)(x y:AV):Option Bool:=
 match FY k x,FY k y with
 |some true,some t=>some t
 |some t,some true=>some t
 |_,_=>none
def qD:LK->AV->AV->Option Bool
 | .int,.int k a,.int k' b=>if k=k' then some (a==b) else none
 | .bool,.bool a,.bool b=>some (a==b)
 | .str,.str a,.str b=>some (a==b)
 |_,_,_=>none
def eqL:List LK->B7->B7->Option Bool
 | [],[],[]=>some true
 |k::ks,a::r,b::s=>match qD k a b,eqL ks r s with
  |some p,some q=>some (p&&q)
  |_,_=>none
 |_,_,_=>none
def bm (op:BinOp)(x y:AV):DS:=
 match op,x,y with
 | .shl,.int k a,.int _ b=>if b<0 then none else some (.int k (k.wrap (a*2^ (min b.toNat k.bits))))
 | .shr,.int k a,.int _ b=>if b<0 then none else some (.int k (a.fdiv (2^ (min b.toNat k.bits))))
 |_,.int k a,.int k' b=>if k≠k' then none else
  match op with
  | .add=>some (.int k (k.wrap (a+b)))
  | .sub=>some (.int k (k.wrap (a-b)))
  | .mul=>some (.int k (k.wrap (a*b)))
  | .quo=>if b=0 then none else some (.int k (k.wrap (a.tdiv b)))
  | .rem=>if b=0 then none else some (.int k (a.tmod b))
  | .and| .or| .xor| .andNot=>some (.int k (intBits op k a b))
  | .eql=>some (.bool (a==b))
  | .neq=>some (.bool (a !=b))
  | .lss=>some (.bool (a<b))
  | .leq=>some (.bool (a<=b))
  | .gtr=>some (.bool (a>b))
  | .geq=>some (.bool (a>=b))
  |_=>none
 |_,.str a,.str b=>
  match op with
  | .add=>if a.length+b.length<2^62 then some (.str (a++b)) else none
  | .eql=>some (.bool (a==b))
  | .neq=>some (.bool !(a==b))
  | .lss=>some (.bool (Op.bytesLess a b))
  | .leq=>some (.bool (Op.bytesLess a b||a==b))
  | .gtr=>some (.bool !(Op.bytesLess a b||a==b))
  | .geq=>some (.bool !(Op.bytesLess a b))
  |_=>none
 |_,_,_=>none
def unA (op:UnOp)(x:AV):DS:=
 match op,x with
 | .neg,.int k n=>some (.int k (k.wrap (0-n)))
 | .xor,.int k n=>some (.int k (intBits .xor k (if k.signed then-1 else k.max) n))
 | .not,.bool b=>some (.bool !b)
 |_,_=>none
def bnd (v:AV)(y:Nat):CV:=
 match v with
 | .int _ i=>if 0<=i/\i<=y then some i.toNat else none
 |_=>none
def qM (isMax:Bool)(k:IntKind)(x:Int):B7->Ds
 | []=>some x
 | .int k' y::r=>if k'=k then qM isMax k (bif isMax then (if x<y then y else x) else (if y<x then y else x)) r else none
 |_::_=>none
def nQ (n bytes:Nat):Bool:=decide (n* (bytes+1)<=140737488355328)
def tz (n s:Nat)(full:Bool)(g key:Nat)(x:AV)(hg:Nat->Cl):C6:=
 match x with
 | .ref k gk off=>match hg k with
  |some (g',.cells cs)=>if full=true/\s=1/\off=0/\g'=gk/\cs.length=n/\k≠key then some {res:=.vs key g n,wr:=[(key,some (g,.vec 1 (cs.map λc=>[c]))),(k,some (g,.vec 1 []))],rd:=[k]} else none
  |_=>none
 |_=>none
def adZ:AV->Bool
 | .sl _ _| .vs _ _ _| .vw _ _ _ _| .con (.slice ..)=>true
 |_=>false
def rn:Bool:=D.all λk=>match hg k with
 |some (_,.vec _ es)=>es.any λr=>r.any adZ
 |_=>false
end
def w7 (old:B7)(D:Cc):Bool:=D.all λk=>(cm true old).contains k
def aX (op:AOp)(g key:Nat)(vals:B7)(hg:Nat->Cl):C6:=
 match op,vals with
 | .mv _,[x]=>some {res:=x}
 | .pick ..,[c,a,b]=>match c with
  | .bool t=>some {res:=bif t then a else b}
  |_=>none
 | .box _,[x]=>(dM x).map λcs=> {res:=.ref key g 0,wr:=[(key,some (g,.cells cs))]}
 | .alloc z,[]=>(dM z).map λcs=> {res:=.ref key g 0,wr:=[(key,some (g,.cells cs))]}
 | .build z ps _,vs=>(sr z ps vs).map λcs=> {res:=.agg cs}
 | .bsl s z n ps _,vs=>
  if n*s<=2^24/\z.length=s then
   match cm true vs with
   | []=>(l9 s (iV n z) ps vs).map λes=> {res:=.vs key g n,wr:=[(key,some (g,.vec s es))]}
   |D=>(l9 s (iV n z) ps (dT (j6 hg D) vs)).map λes=> {res:=.vs key g n,wr:=(key,some (g,.vec s es))::bW D,rd:=D}
  else none
 | .load sz _,[a]=>match dI hg a with
  |some (cs,r)=>(fD sz cs).map λv=> {res:=v,rd:=r,sf:=tw a cs sz}
  |none=>none
 | .store sz _ _,[a,x]=>match dM x with
  |some cs=>
   if cs.length=sz then
    match a with
    | .ref k g' o=>match hg k with
          |some (g'',.cells old)=>if g''=g' then (if o+sz<=old.length then some {res:=.any,wr:=[(k,some (g'',.cells (dw old o cs)))],rd:=[k]} else none) else none
          |_=>none
    | .er k g' i o=>match hg k with
          |some (g'',.vec s es)=>
           if g''=g' then (if i<es.length/\o+sz<=s then
            match cm true cs with
            | []=>some {res:=.any,wr:=[(k,some (g'',.vec s (es.set i (dw (es.getD i []) o cs))))],rd:=[k]}
            |D=>bif D.contains k then none else bif rn hg D||w7 (((es.getD i []).drop o).take cs.length) D then some {res:=.any,wr:=[(k,some (g'',.vec s (es.set i (dw (es.getD i []) o cs))))],rd:=k::D}
             else some {res:=.any,wr:=(k,some (g'',.vec s (es.set i (dw (es.getD i []) o (dT (j6 hg D) cs)))))::bW D,rd:=k::D}
            else none) else none
          |_=>none
    |_=>none
   else none
  |none=>none
 | .fadr off _,[a]=>match a with
  | .ref k g' o=>some {res:=.ref k g' (o+off)}
  | .er k g' i o=>some {res:=.er k g' i (o+off)}
  | .rp cs=>some {res:=.rp (cs.drop off)}
  |_=>none
 | .iadr s _ _,[x,i]=>match i with
  | .int _ j=>match x with
   | .sl s' es=>if s'=s/\0<=j/\j.toNat<es.length then some {res:=.rp (es.getD j.toNat [])} else none
   | .vs k g' n=>match hg k with
    |some (g'',.vec s' _)=>if g''=g'/\s'=s then (if 0<=j/\j.toNat<n then some {res:=.er k g' j.toNat 0,rd:=[k]} else none) else none
    |_=>none
   | .vw k g' o n=>match hg k with
    |some (g'',.vec s' _)=>if g''=g'/\s'=s then (if 0<=j/\j.toNat<n then some {res:=.er k g' (o+j.toNat) 0,rd:=[k]} else none) else none
    |_=>none
   |_=>none
  |_=>none
 | .iarr n s _ _,[x,i]=>match i with
  | .int _ j=>if 0<=j/\j.toNat<n then
    match x with
    | .ref k g' o=>some {res:=.ref k g' (o+j.toNat*s)}
    | .er k g' e o=>some {res:=.er k g' e (o+j.toNat*s)}
    | .rp cs=>some {res:=.rp (cs.drop (j.toNat*s))}
    |_=>none
   else none
  |_=>none
 | .ival n s sz _ _,[x,i]=>match i,x with
  | .int _ j,.agg cs=>if 0<=j/\j.toNat<n then (fD sz (cs.drop (j.toNat*s))).map λv=> {res:=v} else none
  |_,_=>none
 | .istr _ _,[x,i]=>match i,x with
  | .int _ j,.str l=>if 0<=j/\j.toNat<l.length then some {res:=.int .u8 (l.getD j.toNat 0).toNat} else none
  |_,_=>none
 | .bin op _ _,[x,y]=>(bm op x y).map λv=> {res:=v}
 | .eqb neg _ _,[x,y]=>match x,y with
  | .bool a,.bool b=>some {res:=.bool (xor neg (a==b))}
  |_,_=>none
 | .eqn k neg _ _,[x,y]=>(eqN k x y).map λb=> {res:=.bool (xor neg b)}
 | .eqs ks neg _ _,[x,y]=>match x,y with
  | .agg a,.agg b=>(eqL ks a b).map λt=> {res:=.bool (xor neg t)}
  |_,_=>none
 | .un op _,[x]=>(unA op x).map λv=> {res:=v}
 | .conv k _,[x]=>match x with
  | .int _ n=>some {res:=.int k (k.wrap n)}
  |_=>none
 | .b2s _,[x]=>match dH hg x with
  |some (es,r)=>(bytesOf es).map λl=> {res:=.str l,rd:=r}
  |none=>none
 | .mkfn f _,vs=>some {res:=.fn f vs}
 | .mksl s bytes z _ _,[n,c]=>match n,c with
  | .int .i64 n,.int .i64 c=>
   if 0<=n/\n<=c/\z.length=s/\nQ c.toNat bytes=true then some {res:=.vs key g n.toNat,wr:=[(key,some (g,.vec s (iV n.toNat z)))]} else none
  |_,_=>none
 | .slc s _ lo hi mx,x::bs=>
  match lY x with
  |none=>none
  |some n=>
   match slBounds lo.isSome hi.isSome mx.isSome n bs with
   |none=>none
   |some (l,h)=>
    match x with
    | .sl s' es=>if s'=s then some {res:=.sl s ((es.drop l).take (h-l))} else none
    | .con (.slice none 0 0)=>some {res:=.sl s []}
    | .vs k g' _=>match hg k with
          |some (g'',.vec s' _)=>if g''=g'/\s'=s then (if l=0/\mx.isSome=false then some {res:=.vs k g' h,rd:=[k]} else some {res:=.vw k g' l (h-l),rd:=[k]}) else none
          |_=>none
    | .vw k g' o _=>match hg k with
          |some (g'',.vec s' _)=>if g''=g'/\s'=s then some {res:=.vw k g' (o+l) (h-l),rd:=[k]} else none
          |_=>none
    |_=>none
 | .slarr n s _ lo hi mx,x::_=>tz n s (!(lo.isSome||hi.isSome||mx.isSome)) g key x hg
 | .slstr _ lo hi,x::bs=>match x with
  | .str l=>match slBounds lo.isSome hi.isSome false l.length bs with
   |some (a,b)=>some {res:=.str ((l.drop a).take (b-a))}
   |none=>none
  |_=>none
 | .ext _ i,[x]=>match x with
  | .tup vs=>if i<vs.length then some {res:=vs.getD i .any} else none
  |_=>none
 | .len str _,[x]=>(lenS str x).map λn=> {res:=.int .i64 n}
 | .app s bytes _ _,[x,y]=>
  match appSrc hg s y with
  |none=>none
  |some (ys,r)=>
   match x with
   | .con (.slice none 0 0)=>if nQ ys.length bytes=true then some {res:=.vs key g ys.length,wr:=[(key,some (g,.vec s ys))],rd:=r} else none
   | .vs k g' n=>match hg k with
    |some (g'',.vec s' es)=>if g''=g'/\s'=s/\n<=es.length/\nQ (n+ys.length) bytes=true then some {res:=.vs k g (n+ys.length),wr:=[(k,some (g,.vec s (es.take n++ys)))],rd:=k::r} else none
    |_=>none
   |_=>none
 | .minmax m _,v::vs=>match v with
  | .int k x=>(qM m k x vs).map λn=> {res:=.int k n}
  |_=>none
 | .mkifc t _,[x]=>some {res:=.ifc t x}
 | .nilck _,[x]=>match Ji x with
  |some false=>some {res:=x}
  |_=>none
 |_,_=>none
where
 bytesOf:B6->Option B5
  | []=>some []
  | [.int .u8 n]::r=>(bytesOf r).map λl=>UInt8.ofNat n.toNat::l
  |_=>none
 appSrc (hg:Nat->Cl) (s:Nat) (y:AV):Option (B6×Cc):=
  match y with
  | .str l=>if s=1 then some (byteCells l,[]) else none
  | .sl s' es=>if s'=s then some (es,[]) else none
  | .con (.slice none 0 0)=>some ([],[])
  | .vs k g n=>match hg k with
   |some (g',.vec s' es)=>if g'=g/\s'=s then (if n<=es.length then some (es.take n,[k]) else none) else none
   |_=>none
  | .vw k g o n=>match hg k with
   |some (g',.vec s' es)=>if g'=g/\s'=s then (if o+n<=es.length then some ((es.drop o).take n,[k]) else none) else none
   |_=>none
  |_=>none
 slBounds (lo hi mx:Bool) (n:Nat) (bs:B7):DG:=
  match lo,hi,mx,bs with
  |false,false,false,[]=>some (0,n)
  |true,false,false,[a]=>(bnd a n).map λl=>(l,n)
  |false,true,false,[b]=>(bnd b n).map λh=>(0,h)
  |true,true,false,[a,b]=>(bnd b n).bind λh=>(bnd a h).map λl=>(l,h)
  |false,true,true,[b,c]=>(bnd c n).bind λm=>(bnd b m).map λh=>(0,h)
  |true,true,true,[a,b,c]=>(bnd c n).bind λm=>(bnd b m).bind λh=>(bnd a h).map λl=>(l,h)
  |_,_,_,_=>none
mutual
def AV.dry:AV->Bool
 | .any| .int _ _| .bool _| .str _| .con _=>true
 | .agg cs| .fn _ cs| .tup cs=>uE cs
 | .sl _ []=>true
 | .ifc _ v=>AV.dry v
 |_=>false
def uE:B7->Bool
 | []=>true
 |a::r=>AV.dry a&&uE r
end
structure Ret where
 r:AV
 bs:Co
 deriving Inhabited
abbrev C3:=Option Ret
def fy:Cc->Cc
 | []=>[]
 |k::r=>bif (fy r).contains k then fy r else k::fy r
def idx (k:Nat):Cc->CV
 | []=>none
 |x::r=>if x=k then some 0 else (idx k r).map (· +1)
def bU (hg:Nat->Cl):Cc->Cc
 | []=>[]
 |k::r=>(match hg k with|some (_,b)=>b.keys|none=>[])++bU hg r
section
variable (hg:Nat->Cl)
def ru (E:Cc):Cc:=E++fy ((bU hg E).filter λk=> !E.contains k)
def gZ (raw:Bool)(args:B7):Cc:=
 match cm raw args with
 | []=>[]
 |D=>ru hg (fy ((D++bU hg D)++bU hg (D++bU hg D)))
def sC (D fz:Cc)(k g:Nat):Tgt:=
 match hg k with
 |some (g',b)=>if g'=g then (match idx k D with|some i=>.to i 0|none=>bif fz.contains k&&b.pure then .frz b else .dead) else .dead
 |none=>.dead
end
def jo (hg:Nat->Cl)(φ:Nat->Nat->Tgt):Cc->Option C5
 | []=>some []
 |k::r=>match hg k,jo hg φ r with
  |some (_,b),some bs=>some (b.ren φ::bs)
  |_,_=>none
structure CIn where
 args:B7
 bs:C5
 D:Cc
 fz:Cc
section
variable (hg:Nat->Cl)
def fg (raw:Bool)(args:B7):Option CIn:=
 match cm true args with
 | []=>some ⟨args,[],[],[]⟩
 |K=>
  let D:=gZ hg raw args
  let fz:=K.filter λk=> !D.contains k
  (jo hg (sC hg D fz) D).map λbs=>⟨dT (sC hg D fz) args,bs,D,fz⟩
def ug (dst j:Nat):Nat:=64+dst+65536*j
def yW (k:Nat):Nat:=match hg k with|some (g,_)=>g|none=>0
def d9:Cc->Bool
 | []=>true
 |k::r=> !r.contains k&&d9 r
section
variable (D:Cc)(dst n:Nat)
def jT:Cc:=D++(List.range (n-D.length)).map (ug dst)
def Ja (dst:Nat):Cc->Nat
 | []=>0
 |k::r=>bif Nat.beq (k % 65536) (64+dst) then max (k/ 65536+1) (Ja dst r) else Ja dst r
def fc:Cc:=
 bif d9 (jT D dst n) then jT D dst n else D++(List.range (n-D.length)).map λj=>ug dst (j+Ja dst D)
theorem LU {D:Cc}{dst n:Nat}(h:d9 (jT D dst n)=true):fc D dst n=jT D dst n:=by grind [fc]
theorem tq: ∃l,fc D dst n=D++l:=by
 unfold fc;cases d9 (jT D dst n) with
 |true=>exact ⟨_,rfl⟩
 |false=>grind
end
section
variable (K:Cc)(m g:Nat)(bs:Co)
def iU (i:Nat):Nat:=
 bif decide (i<m)&&(bs.getD i default).1 then yW hg (K.getD i 0) else g
def rT (i _g:Nat):Tgt:=
 match K[i]? with
 |some k=>.to k (iU hg K m g bs i)
 |none=>.dead
end
def nV (φ:Nat->Nat->Tgt)(gi:Nat->Nat):Nat->Cc->Co->az
 |i,k::K,(_,b)::r=>(k,some (gi i,b.ren φ))::nV φ gi (i+1) K r
 |_,_,_=>[]
def pnV (a:AV):AV:=.ifc 0 (.tup [.ref 0 1 0,a])
def dv:AV->DS
 | .ifc _ (.tup [.ref 0 1 0,a])=>some a
 |_=>none
def D0:Nat:=1000003
def fQ:CT->CT
 | .dfd _::r=>r
 |l=>l
def ck (c:CIn)(g dst:Nat)(t:Ret):C6:=
 bif t.bs.isEmpty&&t.r.dry then some {res:=t.r,wr:=[],rd:=c.fz++c.D} else
  let K:=fc c.D dst t.bs.length
  let φ:=rT hg K c.D.length g t.bs
  bif (dv t.r).isNone&&(d9 K&&decide (K.length=t.bs.length)) then some {res:=t.r.ren φ,wr:=nV φ (iU hg K c.D.length g t.bs) 0 K t.bs++bW c.fz,rd:=c.fz++c.D} else none
end
section
variable (A:AS)(rs:CT)
def vp:RVar->DS
 | .dfd _=>none
 | .t n=>some (bI A.tm n)
 | .cell a sz=>match dI (aY A.hp) (bI A.tm a) with
  |some (cs,_)=>fD sz cs
  |none=>none
def qG (A:AS):CT->Option B7
 | []=>some []
 |v::r=>match vp A v,qG A r with
  |some a,some l=>some (a::l)
  |_,_=>none
def kw:DS:=
 match qG A rs with
 |some [a]=>some a
 |some l=>some (.tup l)
 |none=>none
section
variable (hp:az)(m:Nat)
def jm (r:AV):Cc:=
 let D:=(r.keys true++bU (aY hp) (List.range m)).filter (λk=>decide (m<=k))
 fy ((D++bU (aY hp) D).filter (λk=>decide (m<=k)))
def wW (N:Cc)(k g:Nat):Tgt:=
 match aY hp k with
 |some (g',_)=>if g'=g then (if k<m then .to k 0 else match idx k N with|some i=>.to (m+i) 0|none=>.dead) else .dead
 |none=>.dead
def iW (hp:az)(φ:Nat->Nat->Tgt)(m:Nat):Cc->Option Co
 | []=>some []
 |k::r=>match aY hp k,iW hp φ m r with
  |some (g,b),some bs=>some ((decide (k<m/\g=0),b.ren φ)::bs)
  |_,_=>none
def fC:C3:=
 match kw A rs with
 |none=>none
 |some a=>
  bif m==0&&a.pure then some {r:=a,bs:=[]} else
  let N:=jm A.hp m a
  let φ:=wW A.hp m N
  (iW A.hp φ m (List.range m++N)).map λbs=> {r:=a.ren φ,bs:=bs}
def rh (a:AV):C3:=
 bif m==0&&a.pure then some {r:=a,bs:=[]} else
 let N:=jm A.hp m a
 let φ:=wW A.hp m N
 (iW A.hp φ m (List.range m++N)).map λbs=> {r:=a.ren φ,bs:=bs}
end
def mG (A:AS):B7->B6->Option AS
 | [],[]=>some A
 | .ref k g 0::caps,cs::css=>match aY A.hp k with
  |some (g',.cells l)=>if g'=g/\cs.length=l.length then mG {A with hp:=(k,some (g,.cells cs))::A.hp} caps css else none
  |_=>none
 |_,_=>none
def ef (m:Nat)(a:AV):C3:=
 match rs with
 | .dfd sp::rs'=>match bI A.tm D0 with
  | .fn f caps=>bif isB f then none else match sp a with
   |some css=>(mG A caps css).bind λA'=>fC A' rs' m
   |none=>none
  |_=>none
 |_=>(rh A m a).map λt=> {r:=pnV t.r,bs:=t.bs}
end
inductive AItem where
 |code (c:ACode)
 |inBlock (id:Nat)
 |inLoop (b:ACode)
 |inScope
 |inReg (rest:Cb) (i:Nat) (dn:Df) (draw:Bool)
 deriving Inhabited
abbrev C1:=List AItem
structure Cfg where
 todo:C1
 A:AS
 rs:CT
 m:Nat
 deriving Inhabited
def qB (id:Nat):C1->Option C1
 | .inBlock id'::k=>if id'=id then some k else qB id k
 |_::k=>qB id k
 | []=>none
inductive Fun where
 |code (F:AFunc)
 |prim (raw:Bool) (p:B7->C5->C3)
 |none
 deriving Inhabited
def Fun.raw:Fun->Bool
 | .code F=>F.raw
 | .prim r _=>r
 | .none=>false
def tms:Nat->B7->Cf
 |_,[]=>[]
 |i,a::r=>(i,a)::tms (i+1) r
def jM:Nat->C5->az
 |_,[]=>[]
 |i,b::r=>(i,some (0,b))::jM (i+1) r
def AFunc.start (F:AFunc)(args:B7)(bs:C5):Cfg:=
 {todo:=[.code F.body],A:= {tm:=tms 0 args,hp:=jM 0 bs,ctr:=1},rs:=F.results,m:=bs.length}
def bL (tm:Cf):Dn->Option Bool
 |none=>some true
 |some (t,w)=>match bI tm t with
  | .bool b=>some (b==w)
  | .con (.tuple _)=>some false
  |_=>none
def iP:AV:=.con (.tuple #[])
section
variable (A:AS)(dst:CV)
def AS.put (v:AV):AS:=
 match dst with
 |some d=> {A with tm:=(d,v)::A.tm}
 |none=>A
def AS.app (e:Eff):AS:= {A.put dst e.res with hp:=e.wr++A.hp}
def jf (a b:Cc):Bool:=a.any λk=>b.contains k
def wks:az->Cc
 | []=>[]
 |(k,_)::r=>k::wks r
def kj (after:Cc)(e:Eff):Df->Bool
 | []=>true
 |(j,rd,wk,_)::r=>(after.contains j||(!jf wk e.rd&& !jf wk (wks e.wr)&& !jf (wks e.wr) rd))&&kj after e r
def mb (i:Nat)(e:Eff)(dn:Df):Df:=
 match e.rd,wks e.wr with
 | [],[]=>dn
 |rd,wk=>(i,rd,wk,e.sf)::dn
def nub:Cc->Cf->Cf
 |_,[]=>[]
 |seen,(t,v)::r=>bif seen.contains t then nub seen r else (t,v)::nub (t::seen) r
def Jc:Cc->az->az
 |_,[]=>[]
 |seen,(t,v)::r=>bif seen.contains t then Jc seen r else (t,v)::Jc (t::seen) r
def AS.nub:AS:= {A with tm:=AM.nub [] A.tm,hp:=Jc [] A.hp}
def qm (hg:Nat->Cl)(D:Cc)(k g:Nat):Tgt:=bif D.contains k then j6 hg D k g else .to k g
def renH (φ:Nat->Nat->Tgt):az->az
 | []=>[]
 |(k,some (g,b))::r=>(k,some (g,b.ren φ))::renH φ r
 |(k,none)::r=>(k,none)::renH φ r
def jt (φ:Nat->Nat->Tgt):Cf->Cf
 | []=>[]
 |(t,v)::r=>(t,v.ren φ)::jt φ r
def AS.frz (D:Cc):AS:=
 let φ:=qm (aY A.hp) D
 {A with tm:=jt φ A.tm,hp:=bW D++renH φ A.hp}
end
def Jl (hg:Nat->Cl):az->Cc
 | []=>[]
 |(k,none)::r=>(match hg k with
  |some (_,b)=>bif b.pure then [k] else []
  |none=>[])++Jl hg r
 |(_,some _)::r=>Jl hg r
section
variable (G:Nat->Fun)(ih:Cfg->C3)(hg:Nat->Cl)(g dst:Nat)(vals:B7)
def oM:C6:=
 match vals with
 | .fn f cap::args=>
  match fg hg (G (bV f)).raw (bif isB f then cap++args else args++cap) with
  |some c=>
   match G (bV f) with
   | .code F=>if c.args.length=F.np then
     match ih (F.start c.args c.bs) with
     |some t=>ck hg c g dst t
     |none=>none
     else none
   | .prim _ p=>match p c.args c.bs with
    |some t=>ck hg c g dst t
    |none=>none
   | .none=>none
  |none=>none
 |_=>none
def jG (c:CIn)(g dst:Nat)(t:Ret):C6:=
 match dv t.r with
 |some a=>ck hg c g dst {r:=a,bs:=t.bs}
 |none=>none
def nH:C6:=
 match vals with
 | .fn f cap::args=>
  match fg hg (G (bV f)).raw (bif isB f then cap++args else args++cap) with
  |some c=>
   match G (bV f) with
   | .code F=>if c.args.length=F.np then
     match ih (F.start c.args c.bs) with
     |some t=>jG hg c g dst t
     |none=>none
     else none
   | .prim _ p=>match p c.args c.bs with
    |some t=>jG hg c g dst t
    |none=>none
   | .none=>none
  |none=>none
 |_=>none
section
variable (o:AOper)(g:Nat)(A:AS)
def iR:C6:=
 match o.op with
 | .call f args=>nH G ih (aY A.hp) g (o.dst.getD 0) ((f::args).map (evo A.tm))
 | .panic x=>match evo A.tm x with
  | .ifc t v=>some {res:=.ifc t v}
  |_=>none
 |_=>none
def abo (after:Cc)(dn:Df):Bool:=dn.all λx=>after.contains x.1
def ou:CT->Bool
 | .dfd _::_=>false
 |_=>true
def ik:C6:=
 match o.op with
 | .call f args=>oM G ih (aY A.hp) g (o.dst.getD 0) ((f::args).map (evo A.tm))
 |op=>aX op g (ug (o.dst.getD 0) 0) (op.opds.map (evo A.tm)) (aY A.hp)
end
def ja (c:Cfg):C3:=
 match c.todo with
 | []=>fC c.A (fQ c.rs) c.m
 | .code .ret::_=>fC c.A (fQ c.rs) c.m
 | .code .skip::k=>ih {c with todo:=k}
 | .code (.seq a b)::k=>ih {c with todo:=.code a:: .code b::k}
 | .code (.cond x a b)::k=>match evo c.A.tm x with
  | .bool t=>ih {c with todo:=.code (bif t then a else b)::k}
  |_=>none
 | .code (.block id b)::k=>ih {c with todo:=.code b:: .inBlock id::k}
 | .code (.scope b)::k=>ih {c with todo:=.code b:: .inScope::k}
 | .code (.loop b)::k=>ih {c with todo:=.inLoop b::k}
 | .inLoop b::k=>ih {c with todo:=.code b:: .inLoop b::k,A:=c.A.nub}
 | .code (.exit id)::k=>match qB id k with
  |some k'=>ih {c with todo:=k'}
  |none=>none
 | .inBlock _::k=>ih {c with todo:=k}
 | .inScope::k=>ih {c with todo:=k}
 | .code (.region ops draw)::k=>ih {c with todo:=.inReg ops 0 [] draw::k}
 | .inReg [] i _ _::k=>ih {c with todo:=k,A:= {c.A with ctr:=c.A.ctr+i}}
 | .inReg (o::rest) i dn draw::k=>
  match bL c.A.tm o.guard with
  |none=>none
  |some false=>ih {c with todo:=.inReg rest (i+1) dn draw::k,A:=c.A.put o.dst iP}
  |some true=>match ik G ih o (c.A.ctr+i) c.A with
   |none=>bif draw&& !(rest.isEmpty&&(abo o.after dn&&ou c.rs)) then none else match iR G ih o (c.A.ctr+i) c.A with
    |none=>none
    |some e=>ef {c.A with hp:=e.wr++c.A.hp} c.rs c.m e.res
   |some e=>bif draw then (bif kj o.after e dn then ih {c with todo:=.inReg rest (i+1) (mb i e dn) draw::k,A:=c.A.app o.dst e} else none)
    else match Jl (aY c.A.hp) e.wr with
     | []=>ih {c with todo:=.inReg rest (i+1) dn draw::k,A:=c.A.app o.dst e}
     | D =>match ik G ih o (c.A.ctr+i) (c.A.frz D) with
           |none=>none
           |some e=>ih {c with todo:=.inReg rest (i+1) dn draw::k,A:=(c.A.frz D).app o.dst e}
end
section
variable (G:Nat->Fun)(n:Nat)
def run:Cfg->C3:=Nat.rec (λ_=>none) (λ_ ih=>ja G ih) n
theorem WD (c:Cfg):run G (n+1) c=ja G (run G n) c:=rfl
end
open Go.RowKit
structure Ctx where
 num:Nat->Nat
 tnum:Nat->Nat
 W0:World
 X:Nat->Prop
 S0:Nat->Prop
 π:Nat->Place
 n:Nat
 dfr:List Deferred:=[]
 dval:Value:=undef
abbrev HF:=Nat->Cl
def aP (C:Ctx)(S:Nat->Prop)(β:Nat->Place)(used:Nat->Nat->Prop)(hp:HF)(w:World):Env where
 ro b o u:= ¬S b/\w.cell? ⟨b,o,none⟩=some u/\u.oneCell'=true
 lv k g:=match hp k with
  |some (g',_)=>if g'=g then some (β k) else none
  |none=>none
 used:=used
 num:=C.num
 tnum:=C.tnum
structure Kept (X:Nat->Prop)(w w':World):Prop where
 os:w'.os=w.os
 tape:w'.tape=w.tape
 output:w'.output=w.output
 size:w.heap.size<=w'.heap.size
 block: ∀b,b<w.heap.size-> ¬X b->w'.heap[b]? =w.heap[b]?
theorem Kept.refl (X:Nat->Prop)(w:World):Kept X w w:=⟨rfl,rfl,rfl,A7 _,λ_ _ _=>rfl⟩
theorem Kept.trans {X Y:Nat->Prop}{a b c:World}(h:Kept X a b)(k:Kept Y b c)(hy: ∀x,x<a.heap.size->Y x->X x):Kept X a c:=
 ⟨k.os.trans h.os,k.tape.trans h.tape,k.output.trans h.output,AJ h.size k.size,
  λi hi hx=>(k.block i (BS hi h.size) λy=>hx (hy i hi y)).trans (h.block i hi hx)⟩
theorem Kept.below {w w':World}(h:Kept (λ_=>False) w w'):Below w.heap.size w w':=⟨h.os,h.tape,h.output,h.size,λk hk=>h.block k hk id⟩
section
variable (E:Env)(w:World)
def CellsOk (b o:Nat)(cs:B7):Prop:=
 ∀j,j<cs.length-> ∃u,w.cell? ⟨b,o+j,none⟩=some u/\w.frozen? ⟨b,o+j,none⟩=false/\u.oneCell'=true/\V E u (cs.getD j .any)
def ahL (b:Nat)(es:List (AV×AV)):Prop:=
 ∃(ents:Array MapEntry)(clock:Nat),w.heap[b]? =some (.map ents clock)/\ents.size=es.length/\ ∀i (h:i<ents.size),∀e,es[i]? =some e->e.1.pure=true/\e.2.pure=true/\V E ents[i].key e.1/\V E ents[i].val e.2
def BlkOk (p:Place):Blk->Prop
 | .cells cs=>p.isNil=false/\CellsOk E w p.blk p.off cs
 | .vec s es=>p.sz=s/\(∀i,i<es.length->(es.getD i []).length=s)/\es.length<=p.cap/\(p.isNil=true->es= []/\p.cap=0)/\
   (∀j,j<p.cap*s->(w.cell? ⟨p.blk,p.off+j,none⟩).isSome=true/\w.frozen? ⟨p.blk,p.off+j,none⟩=false)/\
   ∀i,i<es.length->CellsOk E w p.blk (p.off+i*s) (es.getD i [])
 | .mp es=>p.isNil=false/\ahL E w p.blk es
end
structure HI (C:Ctx)(U:Nat->Prop)(hp:HF)(w:World)(S:Nat->Prop)(β:Nat->Place)(used:Nat->Nat->Prop):Prop where
 kept:Kept C.X C.W0 w
 s: ∀b,S b->b<w.heap.size/\(C.W0.heap.size<=b∨C.S0 b)
 s0: ∀b,C.S0 b->b<C.W0.heap.size
 keep: ∀b,C.S0 b-> ¬C.X b->S b
 us: ∀k g,used k g->U g
 at_: ∀k g b,hp k=some (g,b)->used k g/\((β k).isNil=false->S (β k).blk/\(C.W0.heap.size<=(β k).blk∨C.X (β k).blk))/\BlkOk (aP C S β used hp w) w (β k) b
 inj: ∀k k' x x',hp k=some x->hp k'=some x'->(β k).isNil=false->(β k').isNil=false->(β k).blk=(β k').blk->k=k'
 pl: ∀k b,hp k=some (0,b)->β k=C.π k
def SameB (w w':World)(b:Nat):Prop:=w'.heap[b]? =w.heap[b]?
section
variable {E E':Env}{w w':World}
theorem SameB.of_block {b:Nat}(h:w'.heap[b]? =w.heap[b]?):SameB w w' b:=h
theorem SameB.at {b:Nat}(h:SameB w w' b)(o:Nat):w'.cell? ⟨b,o,none⟩=w.cell? ⟨b,o,none⟩/\w'.frozen? ⟨b,o,none⟩=w.frozen? ⟨b,o,none⟩:=by
 have h':w'.heap[b]? =w.heap[b]? :=h
 grind [World.cell?,World.frozen?]
theorem SameB.refl (w:World)(b:Nat):SameB w w b:=rfl
theorem CellsOk.mono {b o:Nat}{cs:B7}(l:E.le E')(hs:SameB w w' b)(h:CellsOk E w b o cs):CellsOk E' w' b o cs:=λj hj=>
 let ⟨u,h1,h2,h3,h4⟩:=h j hj
 ⟨u,(hs.at _).1.trans h1,(hs.at _).2.trans h2,h3,h4.mono l⟩
theorem BlkOk.mono {p:Place}{b:Blk}(l:E.le E')(hs:p.isNil=false->SameB w w' p.blk)(h:BlkOk E w p b):BlkOk E' w' p b:=by
 cases b with
 |cells cs=>exact ⟨h.1,h.2.mono l (hs h.1)⟩
 |mp es=>
  obtain ⟨h1,ents,cl,h2,h3,h4⟩:=h;exact ⟨h1,ents,cl,(hs h1).trans h2,h3,λi hi e he=>let ⟨a,b,c,d⟩:=h4 i hi e he;⟨a,b,c.mono l,d.mono l⟩⟩
 |vec s es=>
  obtain ⟨h1,h2,h3,h4,h5,h6⟩:=h;refine ⟨h1,h2,h3,h4,?_,?_⟩
  ·intro j hj
   cases hn:p.isNil with
   |true=>grind
   |false=>rw[((hs hn).at _).1,((hs hn).at _).2];grind
  ·intro i hi
   cases hn:p.isNil with
   |true=>grind
   |false=>exact (h6 i hi).mono l (hs hn)
end
section
variable {C:Ctx} {U U':Nat->Prop} {hp hp':HF} {w w':World} {S S':Nat->Prop} {β β':Nat->Place} {used used':Nat->Nat->Prop}
theorem fF {k g:Nat}{p:Place}(h:(aP C S β used hp w).lv k g=some p): ∃b,hp k=some (g,b)/\p=β k:=by
 grind [aP]
theorem bA {k g:Nat}{b:Blk}(h:hp k=some (g,b)):(aP C S β used hp w).lv k g=some (β k):=by grind [aP]
theorem kO (hro: ∀b o u,¬S b->w.cell? ⟨b,o,none⟩=some u-> ¬S' b/\w'.cell? ⟨b,o,none⟩=some u)(hu: ∀k g,used k g->used' k g)(hlv: ∀k g b,hp' k=some (g,b)->used k g->(∃b',hp k=some (g,b'))/\β' k=β k):
  (aP C S β used hp w).le (aP C S' β' used' hp' w') where
 ro b o u h:=⟨(hro b o u h.1 h.2.1).1,(hro b o u h.1 h.2.1).2,h.2.2⟩
 lv k g p u h:=by
  obtain ⟨b,hk,rfl⟩:=fF h;obtain ⟨⟨b',hb'⟩,e⟩:=hlv k g b hk u
  grind [bA]
 used:=hu
 num:=rfl
 tnum:=rfl
theorem HI.change (h:HI C U hp w S β used)(kept:Kept C.X C.W0 w')(hro: ∀b o u,¬S b->w.cell? ⟨b,o,none⟩=some u-> ¬S' b/\w'.cell? ⟨b,o,none⟩=some u)(hu: ∀k g,used k g->used' k g)(hlv: ∀k g b,hp' k=some (g,b)->used k g->(∃b',hp k=some (g,b'))/\β' k=β k)(hs: ∀b,S' b->b<w'.heap.size/\(C.W0.heap.size<=b∨C.S0 b))(hkeep: ∀b,C.S0 b-> ¬C.X b->S' b)(hus: ∀k g,used' k g->U' g)(hat: ∀k g b,hp' k=some (g,b)->(hp k=some (g,b)/\β' k=β k/\((β k).isNil=false->S' (β k).blk/\SameB w w' (β k).blk))∨(used' k g/\((β' k).isNil=false->S' (β' k).blk/\(C.W0.heap.size<=(β' k).blk∨C.X (β' k).blk))/\BlkOk (aP C S' β' used' hp' w') w' (β' k) b))(hinj: ∀k k' x x',hp' k=some x->hp' k'=some x'->(β' k).isNil=false->(β' k').isNil=false->(β' k).blk=(β' k').blk->k=k')(hpl: ∀k b,hp' k=some (0,b)->β' k=C.π k):
  HI C U' hp' w' S' β' used'/\(aP C S β used hp w).le (aP C S' β' used' hp' w'):=by
 have l:(aP C S β used hp w).le (aP C S' β' used' hp' w'):=kO hro hu hlv;refine ⟨⟨kept,hs,h.s0,hkeep,hus,λk g b hk=>?_,hinj,hpl⟩,l⟩
 rcases hat k g b hk with ⟨h1,h2,h3⟩|h1
 ·obtain ⟨q1,q2,q3⟩:=h.at_ k g b h1
  rw[h2];exact ⟨hu _ _ q1,λhn=>⟨(h3 hn).1,(q2 hn).2⟩,q3.mono l λhn=>(h3 hn).2⟩
 grind
end
theorem Kept.drew {X:Nat->Prop}{a w:World}(h:Kept X a w):Kept X a w.drew:=⟨h.os,h.tape,h.output,h.size,h.block⟩
theorem HI.drew {C:Ctx}{U:Nat->Prop}{hp:HF}{w:World}{S:Nat->Prop}{β:Nat->Place}{used:Nat->Nat->Prop}(h:HI C U hp w S β used):HI C U hp w.drew S β used:=by
 have e:aP C S β used hp w.drew=aP C S β used hp w:=rfl;exact ⟨h.kept.drew,h.s,h.s0,h.keep,h.us,λk g b hk=>by rw[e];exact h.at_ k g b hk,h.inj,h.pl⟩
section
variable {α:Type}(f:Nat->α)(k:Nat)(v:α)
def up:Nat->α:=λx=>if x=k then v else f x
theorem dY:up f k v k=v:=by simp[up]
theorem du {k x:Nat}(v:α)(h:x≠k):up f k v x=f x:=by grind [up]
end
section
variable {C:Ctx} {U:Nat->Prop} {hp:HF} {w:World} {S:Nat->Prop} {β:Nat->Place} {used:Nat->Nat->Prop}
theorem qV (w:World)(o:Obj)(b:Nat)(h:b<w.heap.size):(w.alloc o).heap[b]? =w.heap[b]? :=Below.heap_alloc w o b h
theorem rz {w:World}{b o:Nat}{u:Value}(h:w.cell? ⟨b,o,none⟩=some u):b<w.heap.size:=by
 grind [World.cell?]
section
variable (h:HI C U hp w S β used){g:Nat}(hg: ¬U g)(hg0:g≠0)
include h hg hg0
theorem HI.new (k:Nat)(o:Obj)(p:Place)(hpn:p.isNil=false->p.blk=w.heap.size)(b:Blk)(hb: ∀E,(aP C S β used hp w).le E->BlkOk E (w.alloc o) p b):
  ∃S' β' used',HI C (λx=>U x∨x=g) (up hp k (some (g,b))) (w.alloc o) S' β' used'/\
   (aP C S β used hp w).le (aP C S' β' used' (up hp k (some (g,b))) (w.alloc o))/\β' k=p/\used' k g:=by
 let S':Nat->Prop:=λx=>S x∨x=w.heap.size
 let β':=up β k p
 let used':Nat->Nat->Prop:=λk' g'=>used k' g'∨(k'=k/\g'=g)
 have hnu: ∀k',¬used k' g:=λk' u=>hg (h.us _ _ u)
 have hro: ∀b o' u,¬S b->w.cell? ⟨b,o',none⟩=some u-> ¬S' b/\(w.alloc o).cell? ⟨b,o',none⟩=some u:=λb o' u hS hc=>by
  have hlt:=rz hc;exact ⟨λhS'=>hS'.elim hS λe=>by omega,by rw[((SameB.of_block (qV w o b hlt)).at o').1];exact hc⟩
 have hlv: ∀k' g' b',up hp k (some (g,b)) k'=some (g',b')->used k' g'->(∃b'',hp k'=some (g',b''))/\β' k'=β k':=λk' g' b' hk hu=>by
  grind [dY,du]
 have l:(aP C S β used hp w).le (aP C S' β' used' (up hp k (some (g,b))) (w.alloc o)):=kO hro (λ_ _=>.inl) hlv
 have hold: ∀k' x,hp k'=some x->(β k').isNil=false->(β k').blk<w.heap.size:=λk' x hk hn=>(h.s _ ((h.at_ k' x.1 x.2 hk).2.1 hn).1).1
 have hsz:w.heap.size<=(w.alloc o).heap.size:=by simp_all
 have hpl: ∀k' b',up hp k (some (g,b)) k'=some (0,b')->β' k'=C.π k':=λk' b' hk=>by
  by_cases e:k'=k
  ·grind [dY]
  ·rw[du _ _ e] at hk;rw[show β' k'=β k' from du _ _ e];exact h.pl k' b' hk
 refine ⟨S',β',used',(h.change (U':=λx=>U x∨x=g) ?_ hro (λ_ _=>.inl) hlv ?_ (λb a c=>.inl (h.keep b a c)) ?_ ?_ ?_ hpl).1,l,dY _ _ _,.inr ⟨rfl,rfl⟩⟩
 ·exact h.kept.trans (Y:=λ_=>False) ⟨rfl,rfl,rfl,hsz,λb hb _=>qV w o b hb⟩ (λ_ _=>False.elim)
 ·rintro x (hx|rfl)
  ·exact ⟨BS (h.s x hx).1 hsz,(h.s x hx).2⟩
  ·exact ⟨by simp_all,.inl h.kept.size⟩
 ·rintro k' g' (hu|⟨_,rfl⟩)
  ·exact .inl (h.us _ _ hu)
  grind
 ·intro k' g' b' hk
  by_cases e:k'=k
  ·subst e;rw[dY] at hk;cases hk
   refine .inr ⟨.inr ⟨rfl,rfl⟩,?_,?_⟩
   ·rw[show β' k'=p from dY _ _ _];exact λhn=>⟨.inr (hpn hn),.inl (by rw[hpn hn];exact h.kept.size)⟩
   grind [dY]
  ·rw[du _ _ e] at hk
   refine .inl ⟨hk,du _ _ e,λhn=>⟨.inl ((h.at_ _ _ _ hk).2.1 hn).1,.of_block (qV w o _ (hold _ _ hk hn))⟩⟩
 ·intro k1 k2 x x' h1 h2 n1 n2 hbk
  by_cases e1:k1=k<;>by_cases e2:k2=k
  ·grind
  ·grind [dY,du]
  ·grind [dY,du]
  ·rw[show β' k1=β k1 from du _ _ e1] at n1 hbk
   rw[show β' k2=β k2 from du _ _ e2] at n2 hbk
   rw[du _ _ e1] at h1;rw[du _ _ e2] at h2;exact h.inj k1 k2 _ _ h1 h2 n1 n2 hbk
theorem HI.newNil (k s:Nat):
  ∃S' β' used',HI C (λx=>U x∨x=g) (up hp k (some (g,.vec s []))) w S' β' used'/\
   (aP C S β used hp w).le (aP C S' β' used' (up hp k (some (g,.vec s []))) w)/\β' k=⟨0,0,0,s,true⟩/\used' k g:=by
 let p:Place:=⟨0,0,0,s,true⟩
 let β':=up β k p
 let used':Nat->Nat->Prop:=λk' g'=>used k' g'∨(k'=k/\g'=g)
 have hnu: ∀k',¬used k' g:=λk' u=>hg (h.us _ _ u)
 have hlv: ∀k' g' b',up hp k (some (g,.vec s [])) k'=some (g',b')->used k' g'->(∃b'',hp k'=some (g',b''))/\β' k'=β k':=λk' g' b' hk hu=>by
  grind [dY,du]
 have l:(aP C S β used hp w).le (aP C S β' used' (up hp k (some (g,.vec s []))) w):=kO (λ_ _ _ a b=>⟨a,b⟩) (λ_ _=>.inl) hlv
 have hpl: ∀k' b',up hp k (some (g,.vec s [])) k'=some (0,b')->β' k'=C.π k':=λk' b' hk=>by
  by_cases e:k'=k
  ·grind [dY]
  ·rw[du _ _ e] at hk;rw[show β' k'=β k' from du _ _ e];exact h.pl k' b' hk
 refine ⟨S,β',used',(h.change (U':=λx=>U x∨x=g) h.kept (λ_ _ _ a b=>⟨a,b⟩) (λ_ _=>.inl) hlv h.s h.keep ?_ ?_ ?_ hpl).1,l,dY _ _ _,.inr ⟨rfl,rfl⟩⟩
 ·rintro k' g' (hu|⟨_,rfl⟩)
  ·exact .inl (h.us _ _ hu)
  grind
 ·intro k' g' b' hk
  by_cases e:k'=k
  ·subst e;rw[dY] at hk;cases hk
   refine .inr ⟨.inr ⟨rfl,rfl⟩,?_,?_⟩
   ·grind [dY]
   ·rw[show β' k'=p from dY _ _ _]
    exact ⟨rfl,by simp,by simp,λ_=>⟨rfl,rfl⟩,λj hj=>by grind,by simp⟩
  ·rw[du _ _ e] at hk
   exact .inl ⟨hk,du _ _ e,λhn=>⟨((h.at_ _ _ _ hk).2.1 hn).1,.refl _ _⟩⟩
 ·intro k1 k2 x x' h1 h2 n1 n2 hbk
  by_cases e1:k1=k
  ·grind [dY]
  by_cases e2:k2=k
  ·grind [dY]
  rw[show β' k1=β k1 from du _ _ e1] at n1 hbk
  rw[show β' k2=β k2 from du _ _ e2] at n2 hbk
  rw[du _ _ e1] at h1;rw[du _ _ e2] at h2;exact h.inj k1 k2 _ _ h1 h2 n1 n2 hbk
end
section
variable (w:World)(g o:Nat)(vs:List Value)
theorem mA {i:Nat}(hne:i≠g):(w.setCells g o vs).heap[i]? =w.heap[i]? :=by
 induction vs generalizing w o with
 |nil=>rfl
 |cons v r ih=>
  show ((w.setCell ⟨g,o,none⟩ v).setCells g (o+1) r).heap[i]? =_
  grind [Below.heap_setCell]
theorem En:(w.setCells g o vs).os=w.os/\(w.setCells g o vs).tape=w.tape/\(w.setCells g o vs).output=w.output/\(w.setCells g o vs).heap.size=w.heap.size:=by
 induction vs generalizing w o with
 |nil=>exact ⟨rfl,rfl,rfl,rfl⟩
 |cons v r ih=>
  obtain ⟨h1,h2,h3,h4⟩:=ih (w.setCell ⟨g,o,none⟩ v) (o+1);exact ⟨h1,h2,h3,h4.trans (by simp_all)⟩
end
theorem HI.write (h:HI C U hp w S β used){k g0:Nat}{b0:Blk}(hk:hp k=some (g0,b0))(hn:(β k).isNil=false)(o:Nat)(vs:List Value)(g:Nat)(b:Blk)(hg:g=g0∨(¬U g/\g≠0))(hb: ∀E,(aP C S β used hp w).le E->BlkOk E (w.setCells (β k).blk o vs) (β k) b):
  ∃used',HI C (λx=>U x∨x=g) (up hp k (some (g,b))) (w.setCells (β k).blk o vs) S β used'/\
   (aP C S β used hp w).le (aP C S β used' (up hp k (some (g,b))) (w.setCells (β k).blk o vs))/\used' k g:=by
 let used':Nat->Nat->Prop:=λk' g'=>used k' g'∨(k'=k/\g'=g)
 obtain ⟨q1,q2,q3⟩:=h.at_ k g0 b0 hk;have hS:=(q2 hn).1;have hSx:=(q2 hn).2
 have hro: ∀b o' u,¬S b->w.cell? ⟨b,o',none⟩=some u-> ¬S b/\(w.setCells (β k).blk o vs).cell? ⟨b,o',none⟩=some u:=λb o' u hs hc=>
  ⟨hs,by rw[((SameB.of_block (mA w _ o vs λe=>hs (by grind))).at o').1];exact hc⟩
 have hlv: ∀k' g' b',up hp k (some (g,b)) k'=some (g',b')->used k' g'->(∃b'',hp k'=some (g',b''))/\β k'=β k':=λk' g' b' hk' hu=>by
  by_cases e:k'=k
  ·subst e;rw[dY] at hk';cases hk'
   rcases hg with rfl|hg
   ·grind
   ·exact absurd (h.us _ _ hu) hg.1
  grind [du]
 have l:(aP C S β used hp w).le (aP C S β used' (up hp k (some (g,b))) (w.setCells (β k).blk o vs)):=kO hro (λ_ _=>.inl) hlv
 obtain ⟨k1,k2,k3,k4⟩:=En w (β k).blk o vs
 have hpl: ∀k' b',up hp k (some (g,b)) k'=some (0,b')->β k'=C.π k':=λk' b' hk'=>by
  by_cases e:k'=k
  ·subst e;rw[dY] at hk';cases hk'
   rcases hg with rfl|hg
   ·exact h.pl _ _ hk
   grind
  ·rw[du _ _ e] at hk';exact h.pl k' b' hk'
 have hother: ∀k' x,k'≠k->hp k'=some x->(β k').isNil=false->(β k').blk≠(β k).blk:=λk' x e hk' hn' hbk=>e (h.inj k' k _ _ hk' hk hn' hn hbk)
 refine ⟨used',(h.change (U':=λx=>U x∨x=g) ?_ hro (λ_ _=>.inl) hlv ?_ h.keep ?_ ?_ ?_ hpl).1,l,.inr ⟨rfl,rfl⟩⟩
 ·refine ⟨k1.trans h.kept.os,k2.trans h.kept.tape,k3.trans h.kept.output,by rw[k4];exact h.kept.size,λb hb hx=>?_⟩
  rw[mA w _ o vs (i:=b) (λe=>by grind)]
  exact h.kept.block b hb hx
 ·intro x hx;rw[k4];exact h.s x hx
 ·rintro k' g' (hu|⟨_,rfl⟩)
  ·exact .inl (h.us _ _ hu)
  grind
 ·intro k' g' b' hk'
  by_cases e:k'=k
  ·grind [dY]
  ·rw[du _ _ e] at hk'
   exact .inl ⟨hk',rfl,λhn'=>⟨((h.at_ _ _ _ hk').2.1 hn').1,.of_block (mA w _ o vs (hother _ _ e hk' hn'))⟩⟩
 ·intro k1 k2 x x' h1 h2 n1 n2 hbk
  have r: ∀k' x,up hp k (some (g,b)) k'=some x-> ∃x',hp k'=some x':=λk' x hx=>by
   grind [du]
  obtain ⟨y1,e1⟩:=r k1 x h1;obtain ⟨y2,e2⟩:=r k2 x' h2;exact h.inj k1 k2 _ _ e1 e2 n1 n2 hbk
def dK (hp:HF)(D:Cc):HF:=λk=>if D.contains k then none else hp k
theorem HI.drop (h:HI C U hp w S β used)(D:Cc):
  let S':Nat->Prop:=λb=>S b/\ ¬ ∃k∈D,∃x,hp k=some x/\(β k).isNil=false/\(β k).blk=b
  HI C U (dK hp D) w S' β used/\(aP C S β used hp w).le (aP C S' β used (dK hp D) w):=by
 intro S'
 have r: ∀k x,dK hp D k=some x-> ¬k∈D/\hp k=some x:=λk x hx=>by
  grind [dK]
 refine h.change h.kept (λb o u hs hc=>⟨λhs'=>hs hs'.1,hc⟩) (λ_ _=>id) (λk g b hk hu=>⟨⟨b,(r k _ hk).2⟩,rfl⟩) (λb hb=>h.s b hb.1) (λb hb hx=>⟨h.keep b hb hx,?_⟩) h.us ?_ ?_ λk b hk=>h.pl k b (r k _ hk).2
 ·rintro ⟨k,_,x,hk,hn,rfl⟩
  rcases ((h.at_ k x.1 x.2 hk).2.1 hn).2 with q|q
  ·have:=h.s0 _ hb;omega
  grind
 ·intro k g b hk
  obtain ⟨hD,hk⟩:=r k _ hk;refine .inl ⟨hk,rfl,λhn=>⟨⟨((h.at_ k g b hk).2.1 hn).1,?_⟩,.refl _ _⟩⟩
  rintro ⟨k',hk',x,hx,hn',hb⟩
  exact hD ((h.inj k' k _ _ hx hk hn' hn hb)▸hk')
 ·intro k k' x x' h1 h2 n1 n2 hb
  exact h.inj k k' _ _ (r k _ h1).2 (r k' _ h2).2 n1 n2 hb
theorem LF {E E':Env}{p:Place}{b:Blk}{S':Nat->Prop}(h:BlkOk E w p b)(hro: ∀bk o u,w.cell? ⟨bk,o,none⟩=some u->u.oneCell'=true->bk=p.blk->p.isNil=false->E'.ro bk o u)(l:E.le E'):SG E' p b:=by
 cases b with
 |mp es=>trivial
 |cells cs=>
  obtain ⟨hn,hc⟩:=h;refine ⟨λj=>(w.cell? ⟨p.blk,p.off+j,none⟩).getD undef,λj hj=>?_⟩
  obtain ⟨u,h1,_,h3,h4⟩:=hc j hj;simp only[h1,Option.getD_some];exact ⟨hro _ _ _ h1 h3 rfl hn,h4.mono l⟩
 |vec s es=>
  obtain ⟨h1,h2,h3,h4,h5,h6⟩:=h;refine ⟨h1,h2,λhn=>(h4 hn).1,λi j=>(w.cell? ⟨p.blk,p.off+i*s+j,none⟩).getD undef,λi hi j hj=>?_⟩
  have hn:p.isNil=false:=by
   grind
  obtain ⟨u,q1,_,q3,q4⟩:=h6 i hi j (by grind)
  simp only[q1,Option.getD_some];exact ⟨hro _ _ _ q1 q3 rfl hn,q4.mono l⟩
theorem HI.frz (h:HI C U hp w S β used)(D:Cc):
  let S':Nat->Prop:=λb=>S b/\ ¬ ∃k∈D,∃x,hp k=some x/\(β k).isNil=false/\(β k).blk=b
  RenOk (aP C S β used hp w) (aP C S' β used (dK hp D) w) (j6 hp D):=by
 intro S';have l:=(h.drop D).2;refine ⟨l.ro,rfl,rfl,λk g hu=>?_⟩
 unfold j6;cases hD:D.contains k with
 |false=>trivial
 |true=>
  dsimp only[cond];cases hk:hp k with
  |none=>trivial
  |some x=>
   obtain ⟨g',b⟩:=x
   by_cases e:g'=g
   ·subst e
    simp only[if_true];cases hb:b.pure with
    |false=>trivial
    |true=>
     refine ⟨β k,bA hk,?_⟩;refine LF (S':=S') (h.at_ k g' b hk).2.2 (λbk o u hc h1 hbk hn=>⟨λhs=>hs.2 ⟨k,by grind,_,hk,hn,hbk.symm⟩,hc,h1⟩) l
   grind
end
open Go.RowKit
structure FSt where
 tm:Nat->AV
 hp:HF
def hov:az->HF->HF
 | [],f=>f
 |(k,v)::r,f=>up (hov r f) k v
theorem gX (l:az)(hp:az):aY (l++hp)=hov l (aY hp):=by
 funext k
 induction l with
 |nil=>rfl
 |cons x r ih=>
  obtain ⟨t,v⟩:=x;simp only[BD,aY,hov,up]
  grind
def FSt.app (F:FSt)(dst:CV)(e:Eff):FSt:= {tm:=λt=>if dst=some t then e.res else F.tm t,hp:=hov e.wr F.hp}
def FSt.put (F:FSt)(dst:CV)(v:AV):FSt:= {F with tm:=λt=>if dst=some t then v else F.tm t}
section
variable (A:AS)(dst:CV)
def AS.fs:FSt:= {tm:=bI A.tm,hp:=aY A.hp}
theorem AS.fs_put (v:AV):(A.put dst v).fs=A.fs.put dst v:=by
 cases dst with
 |none=>simp[AS.put,AS.fs,FSt.put]
 |some d=>
  simp_all[AS.put,AS.fs,FSt.put,bI]
theorem AS.fs_app (e:Eff):(A.app dst e).fs=A.fs.app dst e:=by
 cases dst with
 |none=>simp[AS.app,AS.put,AS.fs,FSt.app,gX]
 |some d=>
  simp_all[AS.app,AS.put,AS.fs,FSt.app,gX,bI]
end
def tmv (C:Ctx)(a:Act)(t:Nat):Value:=if t=D0 then C.dval else a.tmps.getD t undef
theorem xY {C:Ctx}{a:Act}{t:Nat}(h:t<D0):tmv C a t=a.tmps.getD t undef:=Aa (by omega)
structure RelC (C:Ctx)(U:Nat->Prop)(F:FSt)(a:Act)(w:World)(S:Nat->Prop)(β:Nat->Place)(used:Nat->Nat->Prop):Prop where
 hi:HI C U F.hp w S β used
 size:a.tmps.size=C.n/\C.n<=D0
 defers:a.defers=C.dfr
 tm: ∀t,V (aP C S β used F.hp w) (tmv C a t) (F.tm t)
def Rel (C:Ctx)(U:Nat->Prop)(F:FSt)(a:Act)(w:World):Prop:= ∃S β used,RelC C U F a w S β used
def Or1 (U:Nat->Prop)(g:Nat):Nat->Prop:=λx=>U x∨x=g
section
variable {C:Ctx}{U U':Nat->Prop}
theorem HI.wide {hp:HF}{w:World}{S:Nat->Prop}{β:Nat->Place}{used:Nat->Nat->Prop}(h:HI C U hp w S β used)(hU: ∀x,U x->U' x):HI C U' hp w S β used:=
 ⟨h.kept,h.s,h.s0,h.keep,λk g u=>hU _ (h.us k g u),h.at_,h.inj,h.pl⟩
theorem Act.getD_put (a:Act)(dst:CV)(v:Value)(t:Nat)(h: ∀d,dst=some d->d<a.tmps.size):
  (a.put dst v).tmps.getD t undef=if dst=some t then v else a.tmps.getD t undef:=by
 cases dst with
 |none=>simp[Act.put]
 |some d=>
  have hd:=h d rfl;simp only[Act.put,Option.some.injEq]
  by_cases e:d=t
  all_goals simp_all
theorem RelC.step {F:FSt}{a:Act}{w w':World}{S S':Nat->Prop}{β β':Nat->Place}{used used':Nat->Nat->Prop}{hp':HF}(h:RelC C U F a w S β used)(hi:HI C U' hp' w' S' β' used')(l:(aP C S β used F.hp w).le (aP C S' β' used' hp' w'))(dst:CV)(hd: ∀d,dst=some d->d<C.n){v:Value}{r:AV}(hv:V (aP C S' β' used' hp' w') v r):
  RelC C U' {tm:=λt=>if dst=some t then r else F.tm t,hp:=hp'} (a.put dst v) w' S' β' used':=by
 refine ⟨hi,⟨?_,h.size.2⟩,?_,λt=>?_⟩
 ·rw[<-h.size.1];cases dst<;>simp[Act.put]
 ·rw[<-h.defers];cases dst<;>rfl
 ·have e:tmv C (a.put dst v) t=if dst=some t then v else tmv C a t:=by
   unfold tmv
   by_cases e:t=D0
   ·subst e
    have:dst≠some D0:=λq=>by have:=hd _ q;have:=h.size.2;omega
    grind
   ·rw[Aa e,Aa e,Act.getD_put _ _ _ _ (λd e=>by rw[h.size.1];grind)]
  rw[e];dsimp only;split
  ·exact hv
  ·exact (h.tm t).mono l
end
def Out1 (P:Program)(C:Ctx)(U:Nat->Prop)(hp:HF)(w:World)(S:Nat->Prop)(β:Nat->Place)(used:Nat->Nat->Prop)(g:Nat)(e:Eff)(r:Result Next):Prop:=
 ∃v w',(r= .ok (.value v) w'∨(r= .ok .skip w'/\v=undef))/\
  ∃S' β' used',HI C (Or1 U g) (hov e.wr hp) w' S' β' used'/\(aP C S β used hp w).le (aP C S' β' used' (hov e.wr hp) w')/\V (aP C S' β' used' (hov e.wr hp) w') v e.res
section
variable {P:Program} {C:Ctx} {U:Nat->Prop} {hp:HF} {w:World} {S:Nat->Prop} {β:Nat->Place} {used:Nat->Nat->Prop} {g:Nat}
theorem Out1.val (h:HI C U hp w S β used){e:Eff}(hw:e.wr= []){r:Result Next}{v:Value}(hr:r= .ok (.value v) w)(hv:V (aP C S β used hp w) v e.res):Out1 P C U hp w S β used g e r:=by
 refine ⟨v,w,.inl hr,S,β,used,?_,?_,?_⟩<;>rw[hw]
 ·exact h.wide λ_=>.inl
 ·exact .refl _
 ·exact hv
end
section
variable {E:Env}
section
variable {v:Value}
theorem V.int_inv {k:IntKind}{n:Int}(h:V E v (.int k n)):v= .int k n:=by cases h;rfl
theorem V.bool_inv {b:Bool}(h:V E v (.bool b)):v= .bool b:=by cases h;rfl
theorem V.str_inv {s:B5}(h:V E v (.str s)):v= .string ⟨s.toArray⟩:=by cases h;rfl
theorem V.con_inv {v v':Value}(h:V E v (.con v')):v=v':=by cases h;rfl
theorem V.agg_inv {as:B7}(h:V E v (.agg as)): ∃cs:Array Value,v= .agg cs/\cs.size=as.length/\(∀i,i<as.length->(cs.getD i undef).oneCell'=true)/\ ∀i,i<as.length->V E (cs.getD i undef) (as.getD i .any):=by
 cases h<;>grind
theorem V.tup_inv {as:B7}(h:V E v (.tup as)): ∃cs:Array Value,v= .tuple cs/\cs.size=as.length/\ ∀i,i<as.length->V E (cs.getD i undef) (as.getD i .any):=by
 cases h<;>grind
theorem V.flat {a:AV}(h:V E v a)(hf:a.flat=true):v.oneCell'=true:=by
 cases h with
 |ref _ _ _ _ h|er _ _ _ _ _ h=>obtain ⟨b,o,rfl⟩:=h;rfl
 |vs _ _ _ _ h|vw _ _ _ _ _ h=>obtain ⟨b,o,rfl⟩:=h;rfl
 |mp _ _ _ h=>obtain ⟨r,rfl⟩:=h;rfl
 |_=>first|rfl|grind [AV.flat]|grind [AV.flat]
theorem V.ref_inv {k g o:Nat}(h:V E v (.ref k g o)):(∃b q,v= .pointer (some ⟨b,q,none⟩))/\E.used k g/\ ∀p,E.lv k g=some p->v= .pointer (some ⟨p.blk,p.off+o,none⟩):=by
 cases h<;>grind
theorem V.er_inv {k g i o:Nat}(h:V E v (.er k g i o)):(∃b q,v= .pointer (some ⟨b,q,none⟩))/\E.used k g/\ ∀p,E.lv k g=some p->v= .pointer (some ⟨p.blk,p.off+i*p.sz+o,none⟩):=by
 cases h<;>grind
theorem V.vs_inv {k g n:Nat}(h:V E v (.vs k g n)):(∃a c,v= .slice a n c)/\E.used k g/\ ∀p,E.lv k g=some p->v= .slice (p.base 0) n p.cap/\n<=p.cap:=by
 cases h<;>grind
theorem V.vw_inv {k g o n:Nat}(h:V E v (.vw k g o n)):(∃a c,v= .slice a n c)/\E.used k g/\ ∀p,E.lv k g=some p-> ∃c q,v= .slice (p.base q) n c/\n<=c/\(n≠0->q=o*p.sz/\p.isNil=false):=by
 cases h<;>grind
theorem V.rp_inv {cs:B7}(h:V E v (.rp cs)): ∃b off,∃u:Nat->Value,v= .pointer (some ⟨b,off,none⟩)/\(∀j,j<cs.length->E.ro b (off+j) (u j))/\ ∀j,j<cs.length->V E (u j) (cs.getD j .any):=by
 cases h with
 |rp b off _ u hb hh=>exact ⟨b,off,u,rfl,hb,hh⟩
theorem V.fn_inv {f:Nat}{as:B7}(h:V E v (.fn f as)): ∃cs:Array Value,v= .func (.func (E.num (bV f))) (fnF f cs) (fnC f cs)/\cs.size=as.length/\ ∀i,i<as.length->V E (cs.getD i undef) (as.getD i .any):=by
 cases h<;>grind
theorem V.sl_inv {s:Nat}{es:B6}(h:V E v (.sl s es)): ∃a c,∃u:Nat->Nat->Value,v= .slice a es.length c/\es.length<=c/\(∀i,i<es.length->(es.getD i []).length=s)/\
  (es≠ []-> ∃b off,a=some ⟨b,off,none⟩/\ ∀i,i<es.length-> ∀j,j<s->E.ro b (off+i*s+j) (u i j))/\ ∀i,i<es.length-> ∀j,j<s->V E (u i j) ((es.getD i []).getD j .any):=by
 cases h with
 |sl _ _ a n c hn hs hc u hb hh=>subst hn;exact ⟨a,c,u,rfl,hc,hs,hb,hh⟩
theorem V.cells {a:AV}(h:V E v a){cs:B7}(hc:dM a=some cs):
  v.cells.size=cs.length/\(∀i,i<cs.length->(v.cells.getD i undef).oneCell'=true)/\ ∀i,i<cs.length->V E (v.cells.getD i undef) (cs.getD i .any):=by
 by_cases ha: ∃as,a= .agg as
 ·obtain ⟨as,rfl⟩:=ha
  obtain rfl:as=cs:=by grind [dM]
  obtain ⟨c,rfl,h1,h2,h3⟩:=h.agg_inv;exact ⟨h1,h2,h3⟩
 ·have hc':a.flat=true/\[a]=cs:=by
   cases a<;>simp[dM,AV.flat,cond] at hc⊢ <;>first|exact hc|(exact absurd ⟨_,rfl⟩ ha)|skip
   grind
  obtain ⟨hf,rfl⟩:=hc';have h1:=h.flat hf;have hcell:v.cells= #[v]:=by cases v<;>first|rfl|grind [Value.oneCell']
  simp_all
end
end
section
variable {P:Program} {w:World}
section
variable {t:TypeId}
section
variable {i:TypeInfo}{z:Value}(h:P.info? t=some i)
include h
theorem qE:(sizeOf t).run P w= .ok i.size w:=by simp[sizeOf,typeInfo,h]
theorem rg (hz:i.zero=some z):(zeroValue t).run P w= .ok z w:=by simp_all[zeroValue,typeInfo]
end
def rH (P:Program)(t:TypeId):Option CV:=
 match P.underlying t,P.info? t with
 |some (.struct _),some i|some (.array _ _),some i=>some (some i.size)
 |some _,some i=>if i.size=1 then some none else none
 |_,_=>none
theorem yb {sz:CV}(h:rH P t=some sz):
  ∃d i,P.underlying t=some d/\P.info? t=some i/\
   ((sz=some i.size/\(isAgg t).run P w= .ok true w)∨(sz=none/\i.size=1/\(isAgg t).run P w= .ok false w)):=by
 unfold rH at h;cases hu:P.underlying t with
 |none=>grind
 |some d=>
  cases hi:P.info? t with
  |none=>grind
  |some i=>
   rw[hu,hi] at h;refine ⟨d,i,rfl,rfl,?_⟩;have hr:=run_underlying (w:=w) hu;cases d<;>simp at h<;>simp[isAgg,hr]<;>first|exact h.symm|grind
theorem Na {i:TypeInfo}(hi:P.info? t=some i)(ha:(isAgg t).run P w= .ok true w){b o:Nat}{cs:List Value}(hl:cs.length=i.size)(hc: ∀j,j<cs.length->w.cell? ⟨b,o+j,none⟩=some (cs.getD j undef)):(loadVar t ⟨b,o,none⟩).run P w= .ok (.agg cs.toArray) w:=by
 have:=run_loadCells_list (P:=P) w ⟨b,o,none⟩ cs (λj v hv=>by
  grind [Addr.add_lit])
 simp_all[loadVar,qE]
theorem M9 (ha:(isAgg t).run P w= .ok false w){b o:Nat}{v:Value}(hc:w.cell? ⟨b,o,none⟩=some v):(loadVar t ⟨b,o,none⟩).run P w= .ok v w:=by
 simp_all[loadVar]
end
end
structure AtAddr (E:Env)(w:World)(v:Value)(cs:B7):Prop where
 ex: ∃b o,v= .pointer (some ⟨b,o,none⟩)/\ ∀j,j<cs.length-> ∃u,w.cell? ⟨b,o+j,none⟩=some u/\u.oneCell'=true/\V E u (cs.getD j .any)
section
variable {C:Ctx} {U:Nat->Prop} {hp:HF} {w:World} {S:Nat->Prop} {β:Nat->Place} {used:Nat->Nat->Prop}
theorem sX {α:Type}(l:List α)(i:Nat)(v:α)(j:Nat)(d:α)(h:i<l.length):(l.set i v).getD j d=if j=i then v else l.getD j d:=by
 grind
theorem zw (h:HI C U hp w S β used){v:Value}{a:AV}(hv:V (aP C S β used hp w) v a){cs:B7}{r:Cc}(hc:dI hp a=some (cs,r))(hne:cs≠ []):AtAddr (aP C S β used hp w) w v cs:=by
 cases a with
 |rp cs'=>
  obtain ⟨rfl,rfl⟩:cs'=cs/\[]=r:=by grind [dI]
  cases hv with
  |rp b off _ u hb hh=>exact ⟨b,off,rfl,λj hj=>⟨u j,(hb j hj).2.1,(hb j hj).2.2,hh j hj⟩⟩
 |ref k g o=>
  simp only[dI] at hc;cases hk:hp k with
  |none=>grind
  |some x=>
   obtain ⟨g',b⟩:=x;rw[hk] at hc;cases b with
   |vec=>cases hc
   |mp=>cases hc
   |cells old=>
    dsimp only at hc;split at hc
    ·rename_i e;subst e
     obtain ⟨rfl,_⟩:old.drop o=cs/\[k]=r:=by grind
     have hb:=(h.at_ k g' _ hk).2.2;cases hv with
     |ref _ _ _ _ hf hu hx=>
      have:=hx _ (bA hk);subst this;refine ⟨_,_,rfl,λj hj=>?_⟩
      obtain ⟨u,h1,h2,h3,h4⟩:=hb.2 (o+j) (by grind)
      grind
    grind
 |er k g i o=>
  simp only[dI] at hc;cases hk:hp k with
  |none=>grind
  |some x=>
   obtain ⟨g',b⟩:=x;rw[hk] at hc;cases b with
   |cells=>cases hc
   |mp=>cases hc
   |vec s es=>
    dsimp only at hc;split at hc
    ·rename_i e;subst e
     split at hc
     ·rename_i hi
      obtain ⟨rfl,_⟩:(es.getD i []).drop o=cs/\[k]=r:=by grind
      obtain ⟨h1,h2,h3,h4,h5,h6⟩:=(h.at_ k g' _ hk).2.2;cases hv with
      |er _ _ _ _ _ hf hu hx=>
       have:=hx _ (bA hk);subst this;refine ⟨_,_,rfl,λj hj=>?_⟩
       obtain ⟨u,q1,q2,q3,q4⟩:=h6 i hi (o+j) (by grind)
       grind
     grind
    grind
 |_=>grind [dI]
theorem CZ {P:Program}{E:Env}{t:TypeId}{sz:CV}(hs:rH P t=some sz){v:Value}{cs:B7}(hat:AtAddr E w v cs){r:AV}(hp:fD sz cs=some r):
  ∃u,(Instr.loadAt t v).run P w= .ok u w/\V E u r:=by
 obtain ⟨b,o,rfl,hc⟩:=hat.ex;obtain ⟨d,i,_,hi,⟨rfl,ha⟩|⟨rfl,h1,ha⟩⟩:=yb (w:=w) hs
 ·simp only[fD] at hp
  split at hp
  ·rename_i hle
   obtain rfl:=Ad hp
   have hex: ∀j,∃u:Value,j<i.size->w.cell? ⟨b,o+j,none⟩=some u/\u.oneCell'=true/\V E u (cs.getD j .any):=λj=>by
    by_cases hj:j<i.size
    ·grind
    ·exact ⟨undef,λq=>absurd q hj⟩
   let f:Nat->Value:=λj=>Classical.choose (hex j)
   have hf: ∀j,j<i.size->w.cell? ⟨b,o+j,none⟩=some (f j)/\(f j).oneCell'=true/\V E (f j) (cs.getD j .any):=λj hj=>Classical.choose_spec (hex j) hj
   have aY: ∀j,j<i.size->((List.range i.size).map f).getD j undef=f j:=λj hj=>by simp_all
   refine ⟨.agg ((List.range i.size).map f).toArray,?_,?_⟩
   ·simp[Instr.loadAt,Instr.sureAddr]
    exact Na hi ha (by simp) λj hj=>by simp_all
   ·refine .agg _ _ (by grind) (λj hj=>?_) λj hj=>?_
    ·simp_all
    ·have hj':j<i.size:=by simp_all
     have:((List.range i.size).map f).toArray.getD j undef=f j:=by simp_all
     rw[this,qr _ _ _ _ hj'];exact (hf j hj').2.2
  grind
 ·cases cs with
  |nil=>cases hp
  |cons c r'=>
   obtain rfl:c=r:=by grind [fD]
   obtain ⟨u,q1,q2,q3⟩:=hc 0 (by simp)
   grind [Instr.loadAt,Instr.sureAddr,M9]
theorem zo (h:HI C U hp w S β used){v:Value}{a:AV}(hv:V (aP C S β used hp w) v a){es:B6}{r:Cc}(hc:dH hp a=some (es,r)):
  ∃ao c s,v= .slice ao es.length c/\es.length<=c/\(∀i,i<es.length->(es.getD i []).length=s)/\
   (es≠ []-> ∃b o,ao=some ⟨b,o,none⟩/\ ∀i,i<es.length-> ∀j,j<s-> ∃u,w.cell? ⟨b,o+i*s+j,none⟩=some u/\u.oneCell'=true/\V (aP C S β used hp w) u ((es.getD i []).getD j .any)):=by
 cases a with
 |sl s es'=>
  obtain ⟨rfl,rfl⟩:es'=es/\[]=r:=by grind [dH]
  cases hv with
  |sl _ _ ao n c hn hs hcap u hb hh=>
   subst hn;refine ⟨ao,c,s,rfl,hcap,hs,λhe=>?_⟩
   obtain ⟨b,o,e,q⟩:=hb he;exact ⟨b,o,e,λi hi j hj=>⟨u i j,(q i hi j hj).2.1,(q i hi j hj).2.2,hh i hi j hj⟩⟩
 |con x=>
  have hx:=hv.con_inv;subst hx;unfold dH at hc;split at hc
  all_goals simp_all
 |vs k g n=>
  simp only[dH] at hc;cases hk:hp k with
  |none=>grind
  |some x=>
   obtain ⟨g',b⟩:=x;rw[hk] at hc;cases b with
   |cells=>cases hc
   |mp=>cases hc
   |vec s es'=>
    dsimp only at hc;split at hc
    ·rename_i e;subst e
     split at hc
     ·rename_i hn
      obtain ⟨rfl,_⟩:es'.take n=es/\[k]=r:=by grind
      obtain ⟨h1,h2,h3,h4,h5,h6⟩:=(h.at_ k g' _ hk).2.2;cases hv with
      |vs _ _ _ _ hf hu hx=>
       obtain ⟨rfl,hcap⟩:=hx _ (bA hk);have hl:(es'.take n).length=n:=by grind
       refine ⟨_,_,s,by rw[hl],by grind,λi hi=>?_,λhe=>?_⟩
       ·grind
       ·have hnn:(β k).isNil=false:=by
         grind
        refine ⟨(β k).blk,(β k).off,by grind [Place.base],λi hi j hj=>?_⟩
        obtain ⟨u,q1,q2,q3,q4⟩:=h6 i (by omega) j (by grind)
        grind
     grind
    grind
 |vw k g o n=>
  simp only[dH] at hc;cases hk:hp k with
  |none=>grind
  |some x=>
   obtain ⟨g',b⟩:=x;rw[hk] at hc;cases b with
   |cells=>cases hc
   |mp=>cases hc
   |vec s es'=>
    dsimp only at hc;split at hc
    ·rename_i e;subst e
     split at hc
     ·rename_i hn
      obtain ⟨rfl,_⟩:(es'.drop o).take n=es/\[k]=r:=by grind
      obtain ⟨h1,h2,h3,h4,h5,h6⟩:=(h.at_ k g' _ hk).2.2;cases hv with
      |vw _ _ _ _ _ hf hu hx=>
       obtain ⟨c,o',rfl,hcap,ho'⟩:=hx _ (bA hk);have hl:((es'.drop o).take n).length=n:=by grind
       refine ⟨_,c,s,by rw[hl],by grind,λi hi=>?_,λhe=>?_⟩
       ·grind
       ·have hn0:n≠0:=by grind
        have hnn:(β k).isNil=false:=by
         grind
        have:=(ho' hn0).1;subst this
        refine ⟨(β k).blk,(β k).off+o*s,by grind [Place.base],λi hi j hj=>?_⟩
        obtain ⟨u,q1,q2,q3,q4⟩:=h6 (o+i) (by omega) j (by grind)
        grind
     grind
    grind
 |_=>grind [dH]
end
open Go.RowKit
structure Nums where
 num:Nat->Nat
 fid:Nat->Nat
 tnum:Nat->Nat
 tid:Nat->Nat
 gl:Nat->Option B7
 go:Nat->Option Obj
def dX {α β:Type}(f:α->Option β):List α->Option (List β)
 | []=>some []
 |a::r=>match f a,dX f r with
  |some b,some bs=>some (b::bs)
  |_,_=>none
def lK {α β:Type}(f:α->Option β):Option α->Option (Option β)
 |none=>some none
 |some a=>(f a).map some
def Ba:Value->AV
 | .int k n=>.int k n
 | .bool b=>.bool b
 | .string s=>.str s.data.toList
 |v=>.con v
def ofV:Value->DS
 | .agg cs=>if cs.all (·.oneCell')=true then some (.agg (cs.toList.map Ba)) else none
 | .tuple _=>none
 |v=>some (Ba v)
theorem Wb (E:Env)(v:Value):V E v (Ba v):=by
 cases v<;>simp only[Ba]<;>first|exact .int _ _|exact .bool _|exact .con _|skip
 rename_i s;have:s=⟨s.data.toList.toArray⟩:=by simp
 rw[this];exact .str _
theorem abK {E:Env}{v:Value}{a:AV}(h:ofV v=some a):V E v a:=by
 cases v with
 |agg cs=>
  simp only[ofV] at h;split at h
  ·rename_i hc
   obtain rfl:=Ad h;refine .agg cs _ (by simp) (λi hi=>?_) λi hi=>?_
   ·simp_all
   ·have hi':i<cs.size:=by grind
    have:(List.map Ba cs.toList).getD i .any=Ba (cs.getD i undef):=by simp_all
    grind [Wb]
  ·cases h
 |tuple _=>cases h
 |_=>grind [ofV,Wb]
def aQ (N:Nums):Operand->D2
 | .tmp t=>if t<D0 then some (.t t) else none
 | .const v=>(ofV v).map .c
 | .func f=>if N.num (N.fid f)=f/\isB (N.fid f)=false then some (.c (.fn (N.fid f) [])) else none
 | .global g=>match N.gl g with
  |some cs=>if aM cs=true then some (.c (.rp cs)) else none
  |none=>none
section
variable (P:Program)
def fd (t:TypeId):CV:=(P.info? t).map (·.size)
def kn (t:TypeId):DS:=((P.info? t).bind (·.zero)).bind ofV
def nD (t:TypeId):Option (Nat->DG):=
 match P.underlying t with
 |some (.struct fs)=>(fs.toList.mapM (λf=>(P.info? f.type).map λi=>(f.offset,i.size))).map λl=>λi=>l[i]?
 |some (.array _ e)=>(fd P e).map λs=>λi=>some (i*s,s)
 |_=>none
def lw (rec:TypeId->Option (List LK)):Nat->List Field->Option (List LK)
 |_,[]=>some []
 | n,f::r=>if f.offset=n/\f.name≠ "_" then
   match rec f.type with
   |some ks=>match lw rec (n+ks.length) r with
    |some ks'=>some (ks++ks')
    |none=>none
   |none=>none
  else none
def jy (P:Program):Nat->TypeId->Option (List LK)
 |0,_=>none
 |d+1,t=>
  match P.underlying t with
  |some .bool=>if fd P t=some 1 then some [.bool] else none
  |some (.int _)=>if fd P t=some 1 then some [.int] else none
  |some .string=>if fd P t=some 1 then some [.str] else none
  |some (.struct fs)=>if P.stoodInHeld t=false then (lw (jy P d) 0 fs.toList).bind λks=>if fd P t=some ks.length then some ks else none else none
  |_=>none
def kY:Operand->Bool
 | .const _=>true
 |_=>false
def rx (t:TypeId)(neg:Bool)(x y:Operand)(a b:Opd):Option AOp:=
 match P.underlying t with
 |some (.int _)|some .string=>some (.bin (if neg then .neq else .eql) a b)
 |some .bool=>some (.eqb neg a b)
 |some (.pointer _)=>some (.eqn .ptr neg a b)
 |some (.slice _)=>some (.eqn .slice neg a b)
 |some (.map _ _)=>some (.eqn .map neg a b)
 |some (.func _ _ _)=>some (.eqn .func neg a b)
 |some (.interface _)=>if (kY x||kY y)=true then some (.eqn .iface neg a b) else none
 |some (.struct _)=>if P.eqGuardType P.depth t=false then (jy P 40 t).map λks=>.eqs ks neg a b else none
 |_=>none
def bF (N:Nums)(o:Oper):Option AOp:=
 match o.op with
 | .move x| .assign x=>(aQ N x).map .mv
 | .pick c a b=>match aQ N c,aQ N a,aQ N b with
  |some c,some a,some b=>some (.pick c a b)
  |_,_,_=>none
 | .box _ x=>(aQ N x).map .box
 | .alloc t=>(kn P t).map .alloc
 | .build t parts=>
  match nD P t,(kn P t).bind dM,dX (aQ N) (parts.toList.map (·.2)) with
  |some pl,some z,some xs=>(dX pl (parts.toList.map (·.1))).map λps=>.build z ps xs
  |_,_,_=>none
 | .buildSlice t n parts=>
  match P.underlying t with
  |some (.slice e)=>match fd P e,(kn P e).bind dM,dX (aQ N) (parts.toList.map (·.2)) with
   |some s,some z,some xs=>if z.length=s/\s≠0 then some (.bsl s z n (parts.toList.map (·.1)) xs) else none
   |_,_,_=>none
  |_=>none
 | .load t a=>match rH P t,aQ N a with
  |some sz,some a=>if sz≠some 0 then some (.load sz a) else none
  |_,_=>none
 | .store t a x=>match fd P t,aQ N a,aQ N x with
  |some s,some a,some x=>some (.store s a x)
  |_,_,_=>none
 | .fieldAddr t x f=>match P.underlying t with
  |some (.struct fs)=>match fs[f]? with
   |some f=>match fd P f.type,aQ N x with
    |some s,some x=>if s≠0 then some (.fadr f.offset x) else none
    |_,_=>none
   |none=>none
  |_=>none
 | .indexAddr t x i=>match P.underlying t with
  |some (.slice e)=>match fd P e,aQ N x,aQ N i with
   |some s,some x,some i=>some (.iadr s x i)
   |_,_,_=>none
  |some (.array n e)=>match fd P e,aQ N x,aQ N i with
   |some s,some x,some i=>some (.iarr n s x i)
   |_,_,_=>none
  |_=>none
 | .index t x i=>match P.underlying t with
  |some .string=>match aQ N x,aQ N i with
   |some x,some i=>some (.istr x i)
   |_,_=>none
  |some (.array n e)=>match fd P e,rH P e,aQ N x,aQ N i with
   |some s,some sz,some x,some i=>some (.ival n s sz x i)
   |_,_,_,_=>none
  |_=>none
 | .binOp op t x y _=>match aQ N x,aQ N y with
  |some a,some b=>match op with
   | .eql=>rx P t false x y a b
   | .neq=>rx P t true x y a b
   |op=>some (.bin op a b)
  |_,_=>none
 | .unOp op _ x=>(aQ N x).map (.un op)
 | .convert s d x=>match P.underlying s,P.underlying d,aQ N x with
  |some (.int _),some (.int k),some x=>some (.conv k x)
  |some (.slice e),some .string,some x=>if P.underlying e matches some (.int .u8) then some (.b2s x) else none
  |_,_,_=>none
 | .makeFunc (.func f) first cap=>if N.num (N.fid f)=f/\isB (N.fid f)=false then (if first.size=0 then (dX (aQ N) cap.toList).map (.mkfn (N.fid f)) else if cap.size=0/\isB (N.fid f+BB)=true/\N.fid f+BB-BB=N.fid f then (dX (aQ N) first.toList).map (.mkfn (N.fid f+BB)) else none) else none
 | .makeSlice t n c=>match P.underlying t with
  |some (.slice e)=>match P.info? e,(kn P e).bind dM,aQ N n,aQ N c with
   |some i,some z,some n,some c=>if i.size≠0 then some (.mksl i.size i.bytes z n c) else none
   |_,_,_,_=>none
  |_=>none
 | .slice t x lo hi mx=>match P.underlying t with
  |some (.slice e)=>match fd P e,aQ N x,lK (aQ N) lo,lK (aQ N) hi,lK (aQ N) mx with
   |some s,some x,some lo,some hi,some mx=>some (.slc s x lo hi mx)
   |_,_,_,_,_=>none
  |some .string=>match aQ N x,lK (aQ N) lo,lK (aQ N) hi,mx with
   |some x,some lo,some hi,none=>some (.slstr x lo hi)
   |_,_,_,_=>none
  |some (.array n e)=>match fd P e,aQ N x,lo,hi,mx with
   |some s,some x,none,none,none=>some (.slarr n s x none none none)
   |_,_,_,_,_=>none
  |_=>none
 | .makeInterface t x=>if N.tnum (N.tid t)=t then (match P.underlying t with
  |some (.struct _)=>(aQ N x).map (.mkifc (N.tid t))
  |_=>none) else none
 | .panic x=>(aQ N x).map .panic
 | .extract x i=>(aQ N x).map λx=>.ext x i
 | .nilCheck x=>(aQ N x).map .nilck
 | .call {callee:=.builtin b,args,argTypes}=>match b,args.toList,argTypes.toList with
  | .len,[x],[t]=>match P.underlying t with
   |some .string=>(aQ N x).map (.len true)
   |some (.slice _)=>(aQ N x).map (.len false)
   |_=>none
  | .append,[x,y],[t,u]=>match P.underlying t with
   |some (.slice e)=>match P.info? e,aQ N x,aQ N y with
    |some i,some x,some y=>if ((i.zero.map (·.cells.size))=some i.size/\i.size≠0)/\(P.underlying u matches some (.slice _)|some .string) then some (.app i.size i.bytes x y) else none
    |_,_,_=>none
   |_=>none
  | .min,xs,_=>(dX (aQ N) xs).map (.minmax false)
  | .max,xs,_=>(dX (aQ N) xs).map (.minmax true)
  |_,_,_=>none
 | .call {callee:=.value f,args,.. }=>match aQ N f,dX (aQ N) args.toList with
  |some f,some xs=>some (.call f xs)
  |_,_=>none
 |_=>none
end
structure Sit (P:Program)(C:Ctx)(U:Nat->Prop)(hp:HF)(w:World)(S:Nat->Prop)(β:Nat->Place)(used:Nat->Nat->Prop)(g:Nat)(N:Nums)(ρ:Operand->Value)(ev:Opd->AV):Prop where
 hi:HI C U hp w S β used
 num:C.num=N.num
 tnum:C.tnum=N.tnum
 at_: ∀x y,aQ N x=some y->V (aP C S β used hp w) (ρ x) (ev y)
 fresh: ¬U g
 g0:g≠0
theorem ql {α β:Type}{f:α->Option β}{a:α}{r:List α}{bs:List β}(h:dX f (a::r)=some bs): ∃b bs',f a=some b/\dX f r=some bs'/\bs=b::bs':=by
 grind [dX]
section
variable {P:Program} {C:Ctx} {U:Nat->Prop} {hp:HF} {w:World} {S:Nat->Prop} {β:Nat->Place} {used:Nat->Nat->Prop} {g:Nat} {N:Nums} {ρ:Operand->Value} {ev:Opd->AV}
theorem Sit.list (h:Sit P C U hp w S β used g N ρ ev): ∀(xs:List Operand)(ys:Do),dX (aQ N) xs=some ys->
  xs.length=ys.length/\ ∀i,i<ys.length->V (aP C S β used hp w) ((xs.map ρ).getD i undef) ((ys.map ev).getD i .any)
 | [],ys,e=>by
  grind [dX]
 |x::r,ys,e=>by
  obtain ⟨y,ys',h1,h2,rfl⟩:=ql e;obtain ⟨q1,q2⟩:=Sit.list h r ys' h2;refine ⟨by simp[q1],λi hi=>?_⟩
  cases i with
  |zero=>simpa using h.at_ x y h1
  |succ i=>simpa using q2 i (by simpa using hi)
section
variable (h:Sit P C U hp w S β used g N ρ ev){o:Oper}
include h
theorem agQ {x:Operand}{y:Opd}(ho:o.op= .move x∨o.op= .assign x)(hx:aQ N x=some y){key:Nat}{e:Eff}(he:aX (.mv y) g key [ev y] hp=some e):
  Out1 P C U hp w S β used g e ((execOp ρ o).run P w):=by
 obtain rfl:({res:=ev y}:Eff)=e:=by grind [aX]
 exact .val h.hi rfl (v:=ρ x) (by rcases ho with ho|ho<;>simp[execOp,ho]) (h.at_ x y hx)
theorem acG {c a b:Operand}{c' a' b':Opd}(ho:o.op= .pick c a b)(hc:aQ N c=some c')(ha:aQ N a=some a')(hb:aQ N b=some b'){key:Nat}{e:Eff}(he:aX (.pick c' a' b') g key [ev c',ev a',ev b'] hp=some e):Out1 P C U hp w S β used g e ((execOp ρ o).run P w):=by
 have v1:=h.at_ c c' hc;simp only[aX] at he;split at he
 ·rename_i t ht
  rw[ht] at v1;obtain rfl:=Ad he;refine .val h.hi rfl (v:=if t then ρ a else ρ b) (by simp[execOp,ho,v1.bool_inv,asBool]) ?_
  cases t
  ·exact h.at_ b b' hb
  ·exact h.at_ a a' ha
 ·cases he
theorem acJ {t:TypeId}{a:Operand}{a':Opd}{sz:CV}(ho:o.op= .load t a)(hs:rH P t=some sz)(h0:sz≠some 0)(ha:aQ N a=some a'){key:Nat}{e:Eff}(he:aX (.load sz a') g key [ev a'] hp=some e):Out1 P C U hp w S β used g e ((execOp ρ o).run P w):=by
 simp only[aX] at he;split at he
 ·rename_i cs r hc
  cases hp':fD sz cs with
  |none=>grind
  |some v=>
   rw[hp'] at he;obtain rfl:=Ad he
   have hne:cs≠ []:=by
    rintro rfl
    cases sz with
    |none=>cases hp'
    |some n=>
     grind [fD]
   obtain ⟨u,q1,q2⟩:=CZ hs (zw h.hi (h.at_ a a' ha) hc hne) hp';exact .val h.hi rfl (v:=u) (by simp_all[execOp]) q2
 ·cases he
end
theorem fT {t:TypeId}{s:Nat}(h:fd P t=some s):(sizeOf t).run P w= .ok s w:=by
 unfold fd at h;cases hi:P.info? t with
 |none=>grind
 |some i=>grind [qE]
theorem acO (h:Sit P C U hp w S β used g N ρ ev){o:Oper}{t:TypeId}{a:Operand}{a':Opd}{fi:Nat}{fs:Array Field}{f:Field}{s:Nat}(ho:o.op= .fieldAddr t a fi)(hu:P.underlying t=some (.struct fs))(hf:fs[fi]? =some f)(hs:fd P f.type=some s)(h0:s≠0)(ha:aQ N a=some a'){key:Nat}{e:Eff}(he:aX (.fadr f.offset a') g key [ev a'] hp=some e):Out1 P C U hp w S β used g e ((execOp ρ o).run P w):=by
 have hrun: ∀b q,ρ a= .pointer (some ⟨b,q,none⟩)->(execOp ρ o).run P w= .ok (.value (.pointer (some ⟨b,q+f.offset,none⟩))) w:=λb q e=>by
  simp[execOp,ho,Instr.fieldAt,run_underlying hu,hf,e,Instr.sureAddr,fieldPlace,fT hs,h0,Addr.add_lit]
 have v1:=h.at_ a a' ha;simp only[aX] at he;split at he
 ·rename_i k g' q ht
  obtain rfl:=Ad he;rw[ht] at v1;obtain ⟨⟨b,q',e1⟩,hus,hx⟩:=v1.ref_inv;refine .val h.hi rfl (hrun b q' e1) (.ref _ _ _ _ ⟨_,_,rfl⟩ hus λp hp=>?_)
  grind
 ·rename_i k g' i q ht
  obtain rfl:=Ad he;rw[ht] at v1;obtain ⟨⟨b,q',e1⟩,hus,hx⟩:=v1.er_inv;refine .val h.hi rfl (hrun b q' e1) (.er _ _ _ _ _ ⟨_,_,rfl⟩ hus λp hp=>?_)
  grind
 ·rename_i cs ht
  obtain rfl:=Ad he;rw[ht] at v1;obtain ⟨b,off,u,e1,hb,hh⟩:=v1.rp_inv;refine .val h.hi rfl (hrun b off e1) (.rp _ _ _ (λj=>u (f.offset+j)) (λj hj=>?_) λj hj=>?_)
  all_goals grind
 ·cases he
end
open Go.RowKit
section
variable {P:Program} {C:Ctx} {U:Nat->Prop} {hp:HF} {w:World} {S:Nat->Prop} {β:Nat->Place} {used:Nat->Nat->Prop} {g:Nat} {N:Nums} {ρ:Operand->Value} {ev:Opd->AV}
theorem acw {E:Env}{t:TypeId}{sz:CV}(hs:rH P t=some sz){cs:Array Value}{as:B7}(hl:cs.size=as.length)(hf: ∀i,i<as.length->(cs.getD i undef).oneCell'=true)(hv: ∀i,i<as.length->V E (cs.getD i undef) (as.getD i .any)){off:Nat}{r:AV}(hp:fD sz (as.drop off)=some r): ∃u,(part t cs off).run P w= .ok u w/\V E u r:=by
 obtain ⟨d,i,_,hi,⟨rfl,ha⟩|⟨rfl,h1,ha⟩⟩:=yb (w:=w) hs
 ·simp only[fD] at hp
  split at hp
  ·rename_i hle
   obtain rfl:=Ad hp;refine ⟨.agg (cs.extract off (off+i.size)),by simp_all[part,qE],?_⟩
   have hle':off+i.size<=as.length∨i.size=0:=by grind
   have aY: ∀j,j<i.size->(cs.extract off (off+i.size)).getD j undef=cs.getD (off+j) undef:=λj hj=>by
    simp only[Aj,Array.getElem?_extract]
    grind
   have hlen:((as.drop off).take i.size).length=i.size:=by grind
   refine .agg _ _ (by grind) (λj hj=>?_) λj hj=>?_
   all_goals grind
  ·cases hp
 ·simp only[fD] at hp
  cases hd:as.drop off with
  |nil=>grind
  |cons c rest=>
   rw[hd] at hp;obtain rfl:c=r:=by grind
   have hlt:off<as.length:=by
    grind [List.drop_eq_nil_of_le]
   have hc:as.getD off .any=c:=by
    have:=uw as off 0 .any
    grind
   have:=hv off hlt;simp_all[part]
section
variable (h:Sit P C U hp w S β used g N ρ ev){o:Oper}{op:UnOp}{t:TypeId}{a:Operand}{a':Opd}
include h
section
variable {a i:Operand}{a' i':Opd}{n:Nat}{el:TypeId}{s:Nat}{sz:CV}(ho:o.op= .index t a i)
include ho
theorem acK (hu:P.underlying t=some (.array n el))(hs:fd P el=some s)(hsz:rH P el=some sz)(ha:aQ N a=some a')(hi:aQ N i=some i'){key:Nat}{e:Eff}(he:aX (.ival n s sz a' i') g key [ev a',ev i'] hp=some e):Out1 P C U hp w S β used g e ((execOp ρ o).run P w):=by
 have v1:=h.at_ a a' ha;have v2:=h.at_ i i' hi;simp only[aX] at he;split at he
 ·rename_i k j as hi' ht
  rw[ht] at v1;rw[hi'] at v2;split at he
  ·rename_i hj
   cases hp':fD sz (as.drop (j.toNat*s)) with
   |none=>grind
   |some r=>
    rw[hp'] at he;obtain rfl:=Ad he;obtain ⟨cs,e1,h1,h2,h3⟩:=v1.agg_inv;obtain ⟨u,q1,q2⟩:=acw (w:=w) hsz h1 h2 h3 hp';have hj':0<=j/\j<(n:Int):=⟨hj.1,by omega⟩
    exact .val h.hi rfl (v:=u) (by simp[execOp,ho,Instr.index,v2.int_inv,asIntOf,run_underlying hu,e1,hj',fT hs,q1]) q2
  ·cases he
 ·cases he
theorem acL (hu:P.underlying t=some .string)(ha:aQ N a=some a')(hi:aQ N i=some i'){key:Nat}{e:Eff}(he:aX (.istr a' i') g key [ev a',ev i'] hp=some e):Out1 P C U hp w S β used g e ((execOp ρ o).run P w):=by
 have v1:=h.at_ a a' ha;have v2:=h.at_ i i' hi;simp only[aX] at he;split at he
 ·rename_i k j l hi' ht
  rw[ht] at v1;rw[hi'] at v2;split at he
  ·rename_i hj
   obtain rfl:=Ad he
   have hb:(⟨l.toArray⟩:ByteArray)[j.toNat]? =some (l.getD j.toNat 0):=by
    have hlt:j.toNat<(⟨l.toArray⟩:ByteArray).size:=by show _<l.toArray.size;grind
    rw[getElem?_pos (⟨l.toArray⟩:ByteArray) j.toNat hlt];show some (l.toArray[j.toNat]'_)=_
    grind
   exact .val h.hi rfl (v:=.int .u8 (l.getD j.toNat 0).toNat) (by simp[execOp,ho,Instr.index,v2.int_inv,v1.str_inv,asIntOf,run_underlying hu,hj.1,hb]) (.int _ _)
  ·cases he
 ·cases he
end
theorem acP {s d:TypeId}{a:Operand}{a':Opd}{k0 k:IntKind}(ho:o.op= .convert s d a)(hs:P.underlying s=some (.int k0))(hd:P.underlying d=some (.int k))(ha:aQ N a=some a'){key:Nat}{e:Eff}(he:aX (.conv k a') g key [ev a'] hp=some e):Out1 P C U hp w S β used g e ((execOp ρ o).run P w):=by
 have v1:=h.at_ a a' ha;simp only[aX] at he;split at he
 ·rename_i k' n ht
  rw[ht] at v1;obtain rfl:=Ad he;exact .val h.hi rfl (v:=.int k (k.wrap n)) (by simp[execOp,ho,convert,run_underlying hs,run_underlying hd,v1.int_inv,Conv.intToInt]) (.int _ _)
 ·cases he
theorem agP (ho:o.op= .unOp op t a)(ha:aQ N a=some a'){key:Nat}{e:Eff}(he:aX (.un op a') g key [ev a'] hp=some e):Out1 P C U hp w S β used g e ((execOp ρ o).run P w):=by
 have v1:=h.at_ a a' ha;simp only[aX,unA] at he;split at he
 ·rename_i k n ht
  rw[ht] at v1;obtain rfl:=Ad he;exact .val h.hi rfl (v:=.int k (k.wrap (0-n))) (by simp[execOp,ho,Op.unary,Op.intArith,v1.int_inv]) (.int _ _)
 ·rename_i k n ht
  rw[ht] at v1;obtain rfl:=Ad he;exact .val h.hi rfl (v:=.int k (intBits .xor k (if k.signed then-1 else k.max) n)) (by simp[execOp,ho,Op.unary,Op.intBits,intBits,v1.int_inv]) (.int _ _)
 ·rename_i b ht
  rw[ht] at v1;obtain rfl:=Ad he;exact .val h.hi rfl (v:=.bool !b) (by simp[execOp,ho,Op.unary,v1.bool_inv]) (.bool _)
 ·cases he
theorem aer {i:Nat}(ho:o.op= .extract a i)(ha:aQ N a=some a'){key:Nat}{e:Eff}(he:aX (.ext a' i) g key [ev a'] hp=some e):Out1 P C U hp w S β used g e ((execOp ρ o).run P w):=by
 have v1:=h.at_ a a' ha;simp only[aX] at he;split at he
 ·rename_i vs ht
  rw[ht] at v1;split at he
  ·rename_i hi
   obtain rfl:=Ad he;obtain ⟨cs,e1,h1,h2⟩:=v1.tup_inv;have hi':i<cs.size:=by omega
   exact .val h.hi rfl (v:=cs.getD i undef) (by simp_all[execOp,Instr.extract]) (h2 i hi)
  ·cases he
 ·cases he
theorem acI {f:FuncId}{first cap:Array Operand}{xs:Do}(ho:o.op= .makeFunc (.func f) first cap)(hn:N.num (N.fid f)=f)(hb:isB (N.fid f)=false)(hf:first.size=0)(hx:dX (aQ N) cap.toList=some xs){key:Nat}{e:Eff}(he:aX (.mkfn (N.fid f) xs) g key (xs.map ev) hp=some e):Out1 P C U hp w S β used g e ((execOp ρ o).run P w):=by
 obtain rfl:({res:=.fn (N.fid f) (xs.map ev)}:Eff)=e:=by grind [aX]
 obtain ⟨q1,q2⟩:=h.list _ _ hx;have hfirst:first= #[]:=Array.eq_empty_of_size_eq_zero hf
 have hnum:(aP C S β used hp w).num (N.fid f)=f:=by show C.num _=f;rw[h.num];exact hn
 refine .val h.hi rfl (v:=.func (.func f) #[] (cap.map ρ)) (by simp_all[execOp,Instr.makeFunc]) ?_
 have:=V.fn (E:=aP C S β used hp w) (N.fid f) (cap.map ρ) (xs.map ev) (by grind) (λi hi=>by
  simp_all)
 grind [bV,fnF,fnC]
end
theorem V.fnB {E:Env}{k q:Nat}{cs:Array Value}{as:B7}(h1:isB k=true)(h2:k-BB=q)(hl:cs.size=as.length)(h: ∀i,i<as.length->V E (cs.getD i undef) (as.getD i .any)):V E (.func (.func (E.num q)) cs #[]) (.fn k as):=by
 have e1:bV k=q:=by grind [bV]
 have e2:fnF k cs=cs:=by grind [fnF]
 have e3:fnC k cs= #[]:=by grind [fnC]
 have:=V.fn k cs as hl h
 grind
theorem Xx (h:Sit P C U hp w S β used g N ρ ev){o:Oper}{f:FuncId}{first cap:Array Operand}{xs:Do}(ho:o.op= .makeFunc (.func f) first cap)(hn:N.num (N.fid f)=f)(hf:cap.size=0)(hx:dX (aQ N) first.toList=some xs){k:Nat}(hk:isB k=true/\k-BB=N.fid f){key:Nat}{e:Eff}(he:aX (.mkfn k xs) g key (xs.map ev) hp=some e):Out1 P C U hp w S β used g e ((execOp ρ o).run P w):=by
 obtain rfl:({res:=.fn k (xs.map ev)}:Eff)=e:=by grind [aX]
 obtain ⟨q1,q2⟩:=h.list _ _ hx;have hcap:cap= #[]:=Array.eq_empty_of_size_eq_zero hf;have hnum:(aP C S β used hp w).num (N.fid f)=f:=by show C.num _=f;rw[h.num];exact hn
 refine .val h.hi rfl (v:=.func (.func f) (first.map ρ) #[]) (by simp_all[execOp,Instr.makeFunc]) ?_
 have:=V.fnB (E:=aP C S β used hp w) (cs:=first.map ρ) (as:=xs.map ev) hk.1 hk.2 (by grind) (λi hi=>by
  simp_all)
 grind
theorem NY {E:Env}{v:Value}{a:AV}(h:V E v a){n:Nat}(hl:lY a=some n): ∃q c,v= .slice q n c/\(a= .con (.slice none 0 0)->q=none/\c=0):=by
 cases a with
 |sl s es=>obtain ⟨q,c',_,e1,_⟩:=h.sl_inv;grind [lY]
 |con x=>
  have:=h.con_inv
  grind [lY]
 |vs k g' m=>obtain ⟨⟨q,c',e1⟩,_⟩:=h.vs_inv;grind [lY]
 |vw k g' o' m=>obtain ⟨⟨q,c',e1⟩,_⟩:=h.vw_inv;grind [lY]
 |_=>grind [lY]
section
variable (h:Sit P C U hp w S β used g N ρ ev){o:Oper}{a:Operand}{a':Opd}{t:TypeId}
include h
theorem Ud {c:Call}{str:Bool}(ho:o.op= .call c)(hc:c.callee= .builtin .len)(hargs:c.args= #[a])(hts:c.argTypes[0]? =some t)(hu:(str=true/\P.underlying t=some .string)∨(str=false/\ ∃e,P.underlying t=some (.slice e)))(ha:aQ N a=some a'){key:Nat}{e:Eff}(he:aX (.len str a') g key [ev a'] hp=some e):Out1 P C U hp w S β used g e ((execOp ρ o).run P w):=by
 have v1:=h.at_ a a' ha;simp only[aX] at he;cases hl:lenS str (ev a') with
 |none=>grind
 |some n=>
  rw[hl] at he;obtain rfl:=Ad he;refine .val h.hi rfl (v:=.int .i64 n) ?_ (.int _ _);rcases hu with ⟨rfl,hu⟩|⟨rfl,el,hu⟩
  ·cases hv:ev a' with
   |str l=>
    rw[hv] at hl v1;have hn:l.length=n:=by grind [lenS]
    have e1:=v1.str_inv;have e2:(⟨l.toArray⟩:ByteArray).size=n:=by show l.toArray.size=_;grind
    simp[execOp,ho,resolve,hc,hargs,hts,invoke,builtin,Builtin.len_,run_underlying hu,e1,goInt,e2]
   |_=>grind [lenS]
  ·obtain ⟨q,c',e1,_⟩:=NY v1 (by simpa[lenS] using hl)
   simp[execOp,ho,resolve,hc,hargs,hts,invoke,builtin,Builtin.len_,run_underlying hu,e1,goInt]
theorem Xv (ho:o.op= .nilCheck a)(ha:aQ N a=some a'){key:Nat}{e:Eff}(he:aX (.nilck a') g key [ev a'] hp=some e):Out1 P C U hp w S β used g e ((execOp ρ o).run P w):=by
 have v1:=h.at_ a a' ha;simp only[aX] at he;split at he
 ·rename_i hn
  obtain rfl:=Ad he;refine .val h.hi rfl (v:=ρ a) ?_ v1;cases hv:ev a' with
  |ref k g' o'=>rw[hv] at v1;obtain ⟨⟨b,q,e1⟩,_⟩:=v1.ref_inv;simp_all[execOp]
  |er k g' i o'=>rw[hv] at v1;obtain ⟨⟨b,q,e1⟩,_⟩:=v1.er_inv;simp_all[execOp]
  |rp cs=>rw[hv] at v1;obtain ⟨b,q,u,e1,_⟩:=v1.rp_inv;simp_all[execOp]
  |fn f cap=>rw[hv] at v1;obtain ⟨cs,e1,_⟩:=v1.fn_inv;simp_all[execOp]
  |ifc t x=>rw[hv] at v1;cases hr:ρ a<;>rw[hr] at v1<;>cases v1;simp_all[execOp]
  |con x=>
   rw[hv] at hn;unfold Ji at hn
   grind
  |_=>grind [Ji]
 ·cases he
theorem Xw {fs:Array Field}(ho:o.op= .makeInterface t a)(ht:N.tnum (N.tid t)=t)(hu:P.underlying t=some (.struct fs))(ha:aQ N a=some a'){key:Nat}{e:Eff}(he:aX (.mkifc (N.tid t) a') g key [ev a'] hp=some e):Out1 P C U hp w S β used g e ((execOp ρ o).run P w):=by
 obtain rfl:({res:=.ifc (N.tid t) (ev a')}:Eff)=e:=by grind [aX]
 have hv:V (aP C S β used hp w) (.iface ((aP C S β used hp w).tnum (N.tid t)) (ρ a)) (.ifc (N.tid t) (ev a')):=.ifc _ _ _ (h.at_ a a' ha);have e1:(aP C S β used hp w).tnum (N.tid t)=t:=by show C.tnum _=t;rw[h.tnum];exact ht
 rw[e1] at hv;exact .val h.hi rfl (v:=.iface t (ρ a)) (by simp_all[execOp,Instr.makeInterface,run_underlying]) hv
end
end
open Go.RowKit
theorem zk: ∀(ks ks':List LK)(a b:B7)(r:Bool),eqL (ks++ks') a b=some r->
  ∃r1 r2,eqL ks (a.take ks.length) (b.take ks.length)=some r1/\eqL ks' (a.drop ks.length) (b.drop ks.length)=some r2/\r=(r1&&r2)
 | [],ks',a,b,r,h=>⟨true,r,by simp[eqL],by grind,by simp⟩
 |k::ks,ks',[],b,r,h=>by grind [eqL]
 |k::ks,ks',x::a,[],r,h=>by grind [eqL]
 |k::ks,ks',x::a,y::b,r,h=>by
  simp only[BD,eqL] at h;cases hs:qD k x y with
  |none=>grind
  |some p=>
   cases he:eqL (ks++ks') a b with
   |none=>grind
   |some q=>
    rw[hs,he] at h;obtain rfl:=Ad h;obtain ⟨r1,r2,h1,h2,rfl⟩:=zk ks ks' a b q he;simp_all[eqL,Bool.and_assoc]
section
variable {P:Program} {w:World} {E:Env}
def LK.fits (P:Program)(t:TypeId):LK->Prop
 | .int=> ∃k,P.underlying t=some (.int k)
 | .bool=>P.underlying t=some .bool
 | .str=>P.underlying t=some .string
theorem ab4 {x y:Value}{a b:AV}(hx:V E x a)(hy:V E y b){k:LK}{r:Bool}(h:qD k a b=some r)(d:Nat)(t:TypeId)(ht:k.fits P t):(Op.equalIn (d+1) t x y).run P w= .ok r w:=by
 cases k<;>cases a<;>simp only[qD] at h<;>first|(cases h;done)|skip
 all_goals (cases b<;>simp only at h<;>first|(cases h;done)|skip)
 ·split at h
  ·rename_i e;subst e
   obtain rfl:=Ad h;obtain ⟨k2,hu⟩:=ht;rw[hx.int_inv,hy.int_inv]
   grind [run_equalIn_int]
  ·cases h
 ·obtain rfl:=Ad h
  rw[hx.bool_inv,hy.bool_inv];exact run_equalIn_bool' w d t _ _ ht
 ·obtain rfl:=Ad h
  rw[hx.str_inv,hy.str_inv,run_equalIn_string (P:=P) w d t _ _ ht,ByteArray.toList_mk,ByteArray.toList_mk]
structure Cs (E:Env)(xs:Array Value)(as:B7):Prop where
 len:xs.size=as.length
 one: ∀i,i<as.length->(xs.getD i undef).oneCell'=true
 at_: ∀i,i<as.length->V E (xs.getD i undef) (as.getD i .any)
theorem Cs.seg {xs:Array Value}{as:B7}(h:Cs E xs as)(off n:Nat)(hn:off+n<=as.length):Cs E (xs.extract off (off+n)) ((as.drop off).take n):=by
 have aY: ∀j,j<n->(xs.extract off (off+n)).getD j undef=xs.getD (off+j) undef:=λj hj=>by
  simp only[Aj,Array.getElem?_extract]
  grind
 have hl:((as.drop off).take n).length=n:=by grind
 refine ⟨by rw[hl];simp;have:=h.len;omega,λi hi=>?_,λi hi=>?_⟩
 ·rw[hl] at hi;rw[aY i hi];exact h.one _ (by omega)
 ·rw[hl] at hi;rw[aY i hi,qr _ _ _ _ hi,uw];exact h.at_ _ (by omega)
theorem Tg {t:TypeId}{n:Nat}(h:fd P t=some n): ∃i,P.info? t=some i/\i.size=n:=by
 simp_all[fd]
def P7:TypeDesc->Bool
 | .struct _| .array _ _=>false
 |_=>true
theorem IL {t:TypeId}{d:TypeDesc}(hu:P.underlying t=some d)(hd:P7 d=true){xs:Array Value}{off:Nat}(hl:off<xs.size):
  (part t xs off).run P w= .ok (xs.getD off undef) w:=by
 have:(isAgg t).run P w= .ok false w:=by cases d<;>simp[P7] at hd<;>simp[isAgg,run_underlying hu]
 simp_all[part]
theorem wQ {t:TypeId}{fs:Array Field}(hu:P.underlying t=some (.struct fs)){n:Nat}(hs:fd P t=some n){xs:Array Value}{off:Nat}:
  (part t xs off).run P w= .ok (.agg (xs.extract off (off+n))) w:=by
 have:(isAgg t).run P w= .ok true w:=by simp[isAgg,run_underlying hu]
 simp_all[part,fT]
theorem Vt: ∀(d:Nat)(t:TypeId)(ks:List LK),jy P d t=some ks-> ∀(d':Nat),d<=d'-> ∀(xs ys:Array Value)(as bs:B7)(off:Nat)(r:Bool),Cs E xs as->Cs E ys bs->as.length=bs.length->off+ks.length<=as.length->
  eqL ks ((as.drop off).take ks.length) ((bs.drop off).take ks.length)=some r->
  ∃u v,(part t xs off).run P w= .ok u w/\(part t ys off).run P w= .ok v w/\(Op.equalIn d' t u v).run P w= .ok r w
 |0,_,_,h=>by grind [jy]
 |d+1,t,ks,h=>by
  intro d' hd xs ys as bs off r hx hy hlab hoff he;obtain ⟨d',rfl⟩: ∃x,d'=x+1:=⟨d'-1,by omega⟩
  simp only[jy] at h
  have leaf: ∀(k:LK)(hk:ks= [k])(dd:TypeDesc),P.underlying t=some dd->P7 dd=true->
    k.fits P t->
    ∃u v,(part t xs off).run P w= .ok u w/\(part t ys off).run P w= .ok v w/\(Op.equalIn (d'+1) t u v).run P w= .ok r w:=by
   intro k hk dd hu hdd hkk;subst hk;simp only[List.length_singleton] at hoff he;refine ⟨_,_,IL hu hdd (by have:=hx.len;omega),IL hu hdd (by have:=hy.len;omega),?_⟩
   have e1:(as.drop off).take 1= [as.getD off .any]:=by
    grind [List.take_one,List.head?_drop]
   have e2:(bs.drop off).take 1= [bs.getD off .any]:=by
    grind [List.take_one,List.head?_drop]
   rw[e1,e2] at he;simp only[eqL] at he;cases hs:qD k (as.getD off .any) (bs.getD off .any) with
   |none=>grind
   |some p=>
    rw[hs] at he;obtain rfl:p=r:=by grind
    exact ab4 (hx.at_ off (by omega)) (hy.at_ off (by omega)) hs d' t hkk
  split at h
  ·rename_i hu;split at h
   ·exact leaf .bool (by grind) _ hu rfl hu
   ·cases h
  ·rename_i k hu;split at h
   ·exact leaf .int (by grind) _ hu rfl ⟨k,hu⟩
   ·cases h
  ·rename_i hu;split at h
   ·exact leaf .str (by grind) _ hu rfl hu
   ·cases h
  ·rename_i fs hu
   split at h
   ·rename_i hst
    cases hf:lw (jy P d) 0 fs.toList with
    |none=>grind
    |some ks'=>
     rw[hf] at h;simp only[Option.bind_some] at h;split at h
     ·rename_i hsz
      obtain rfl:=Ad h;refine ⟨_,_,wQ hu hsz,wQ hu hsz,?_⟩;have hfo:P.fieldsOf t=fs:=by grind [Program.fieldsOf]
      rw[run_equalIn_struct w d' t _ _ (by grind) hst,hfo]
      have X:=hx.seg off _ hoff;have Y:=hy.seg off ks'.length (by omega)
      generalize xs.extract off (off+ks'.length)=xs' at X;generalize ys.extract off (off+ks'.length)=ys' at Y;have la:((as.drop off).take ks'.length).length=ks'.length:=by grind
      have lb:((bs.drop off).take ks'.length).length=ks'.length:=by grind
      generalize (as.drop off).take ks'.length=as' at X he la;generalize (bs.drop off).take ks'.length=bs' at Y he lb
      have key: ∀(l:List Field)(n:Nat)(kk:List LK)(r:Bool),lw (jy P d) n l=some kk->n+kk.length=ks'.length->eqL kk (as'.drop n) (bs'.drop n)=some r->(Op.eqFields d' xs' ys' l).run P w= .ok r w:=by
       intro l
       induction l with
       |nil=>
        intro n kk r h1 h2 h3;obtain rfl: []=kk:=by grind [lw]
        have:as'.drop n= []:=List.drop_eq_nil_of_le (by grind)
        have h4:bs'.drop n= []:=List.drop_eq_nil_of_le (by grind)
        rw[this,h4] at h3;obtain rfl:true=r:=by grind [eqL]
        rfl
       |cons f l ih=>
        intro n kk r h1 h2 h3;simp only[lw] at h1;split at h1
        ·rename_i hfo
         cases hc:jy P d f.type with
         |none=>grind
         |some k1=>
                    cases hr:lw (jy P d) (n+k1.length) l with
                    |none=>grind
                    |some k2=>
                     rw[hc] at h1;dsimp only at h1;rw[hr] at h1
                     obtain rfl:=Ad h1;obtain ⟨r1,r2,q1,q2,rfl⟩:=zk k1 k2 _ _ r h3;rw[List.drop_drop,List.drop_drop] at q2;rw[Ao] at h2;obtain ⟨u,v,p1,p2,p3⟩:=Vt d f.type k1 hc d' (by omega) xs' ys' as' bs' n r1 X Y (by omega) (by omega) q1
                     simp only[Op.eqFields,Ac hfo.2,Sem.run_bind,hfo.1,p1,p2,p3,Result.andThen_ok];cases r1 with
                     |false=>simp
                     |true=>
                      grind
        grind
      grind
     ·cases h
   ·cases h
  ·cases h
end
section
variable {P:Program} {C:Ctx} {U:Nat->Prop} {hp:HF} {w:World} {S:Nat->Prop} {β:Nat->Place} {used:Nat->Nat->Prop} {g:Nat} {N:Nums} {ρ:Operand->Value} {ev:Opd->AV}
theorem ky {op:BinOp}{t:TypeId}{x y:Operand}{a b:Value}(h: ¬(a= .nilIface/\b= .nilIface)∨(op≠ .eql/\op≠ .neq))(h2:(∀c,a≠ .agg c)∨(op≠ .eql/\op≠ .neq)):(eqGuard op t x y a b).run P w= .ok () w:=by
 cases op<;>simp[eqGuard]<;>(simp_all)
theorem I6 (h:Sit P C U hp w S β used g N ρ ev){o:Oper}{op:BinOp}{t t':TypeId}{x y:Operand}{a b:Opd}(ho:o.op= .binOp op t x y t')(hx:aQ N x=some a)(hy:aQ N y=some b){key:Nat}{e:Eff}(he:aX (.bin op a b) g key [ev a,ev b] hp=some e):Out1 P C U hp w S β used g e ((execOp ρ o).run P w):=by
 have v1:=h.at_ x a hx;have v2:=h.at_ y b hy;simp only[aX] at he;cases hb:bm op (ev a) (ev b) with
 |none=>grind
 |some r=>
  rw[hb] at he;obtain rfl:=Ad he
  have fin: ∀v,(binOp op t (ρ x) (ρ y)).run P w= .ok v w->(eqGuard op t x y (ρ x) (ρ y)).run P w= .ok () w->V (aP C S β used hp w) v r->Out1 P C U hp w S β used g {res:=r} ((execOp ρ o).run P w):=λv q1 q2 q3=>
   .val h.hi rfl (v:=v) (by simp_all[execOp]) q3
  cases ea:ev a with
  |int k p=>
   cases eb:ev b with
   |int k' q=>
    rw[ea] at v1 hb;rw[eb] at v2 hb
    have e1:=v1.int_inv;have e2:=v2.int_inv
    have gd:=ky (P:=P) (w:=w) (op:=op) (t:=t) (x:=x) (y:=y) (a:=ρ x) (b:=ρ y) (by grind) (by grind)
    cases op<;>simp only[bm] at hb
    case shl|shr=>
     split at hb
     ·cases hb
     ·rename_i hq
      obtain rfl:=Ad hb;exact fin _ (by first|(rw[e1,e2];simp[binOp,Op.shift,hq];done)|(rw[e1,e2];simp[binOp,Op.shift,hq];rfl)) gd (.int _ _)
    all_goals
     split at hb
     ·cases hb
     ·rename_i hk
      have hk':k=k':=by grind
      subst hk'
      first
      | (split at hb
         ·cases hb
         ·rename_i h0
          obtain rfl:=Ad hb;exact fin _ (by simp_all[binOp,Op.intDiv]) gd (.int _ _))
      | (obtain rfl:=Ad hb
         first
         |exact fin _ (by first|(rw[e1,e2];simp[binOp,Op.intArith];done)|(rw[e1,e2];simp[binOp,Op.intArith];rfl)) gd (.int _ _)
         |exact fin _ (by first|(rw[e1,e2];simp[binOp,Op.intBits];done)|(rw[e1,e2];simp[binOp,Op.intBits];rfl)) gd (.int _ _)
         |exact fin _ (by simp_all[binOp,Op.intCmp]) gd (.bool _))
   |_=>grind [bm]
  |str p=>
   cases eb:ev b with
   |str q=>
    rw[ea] at v1 hb;rw[eb] at v2 hb
    have e1:=v1.str_inv;have e2:=v2.str_inv
    have gd:=ky (P:=P) (w:=w) (op:=op) (t:=t) (x:=x) (y:=y) (a:=ρ x) (b:=ρ y) (by grind) (by grind)
    cases op<;>simp only[bm] at hb<;>first|(cases hb;done)|skip
    case add=>
     split at hb
     ·rename_i hl
      obtain rfl:=Ad hb
      have hs: ¬(((⟨p.toArray⟩:ByteArray).size+(⟨q.toArray⟩:ByteArray).size:Nat):Int)>IntKind.i64.max:=by
       show¬(((p.toArray.size+q.toArray.size:Nat):Int)>_)
       grind [IntKind.max,IntKind.bits]
      have hcat:(⟨p.toArray⟩:ByteArray)++⟨q.toArray⟩=⟨(p++q).toArray⟩:=by
       apply ByteArray.ext;simp
      refine fin (.string ⟨(p++q).toArray⟩) ?_ gd (.str _);simp_all[binOp,Op.stringOp]
     grind
    all_goals
     obtain rfl:=Ad hb;exact fin _ (by simp_all[binOp,Op.stringOp]) gd (.bool _)
   |_=>grind [bm]
  |_=>grind [bm]
theorem Bm (neg:Bool)(t:TypeId)(x y:Value)(r:Bool)(hx:(∀k n,x≠ .int k n)/\(∀k n,x≠ .float k n)/\(∀k n m,x≠ .complex k n m)/\(∀s,x≠ .string s))(hr:(Op.equal t x y).run P w= .ok r w):
  (binOp (if neg=true then .neq else .eql) t x y).run P w= .ok (.bool (xor neg r)) w:=by
 obtain ⟨h1,h2,h3,h4⟩:=hx;cases neg<;>cases x<;>simp at h1 h2 h3 h4<;>(simp_all[binOp])
section
variable (h:Sit P C U hp w S β used g N ρ ev){o:Oper}{neg:Bool}{t t':TypeId}{x y:Operand}{a b:Opd}{fs:Array Field}{ks:List LK}(ho:o.op= .binOp (if neg=true then .neq else .eql) t x y t')
include h ho
theorem aet (hu:P.underlying t=some .bool)(hx:aQ N x=some a)(hy:aQ N y=some b){key:Nat}{e:Eff}(he:aX (.eqb neg a b) g key [ev a,ev b] hp=some e):Out1 P C U hp w S β used g e ((execOp ρ o).run P w):=by
 have v1:=h.at_ x a hx;have v2:=h.at_ y b hy;simp only[aX] at he;split at he
 ·rename_i p q ea eb
  rw[ea] at v1;rw[eb] at v2
  obtain rfl:=Ad he;have e1:=v1.bool_inv;have e2:=v2.bool_inv
  have:=Bm (P:=P) (w:=w) neg t (ρ x) (ρ y) (p==q) (by grind) (by rw[e1,e2];exact run_equalIn_bool w 9999 t _ _ hu)
  exact .val h.hi rfl (v:=.bool (xor neg (p==q))) (by simp_all[execOp,ky]) (.bool _)
 grind
theorem aes (hu:P.underlying t=some (.struct fs))(hg:P.eqGuardType P.depth t=false)(hks:jy P 40 t=some ks)(hx:aQ N x=some a)(hy:aQ N y=some b){key:Nat}{e:Eff}(he:aX (.eqs ks neg a b) g key [ev a,ev b] hp=some e):Out1 P C U hp w S β used g e ((execOp ρ o).run P w):=by
 have v1:=h.at_ x a hx;have v2:=h.at_ y b hy;simp only[aX] at he;split at he
 ·rename_i p q ea eb
  rw[ea] at v1;rw[eb] at v2
  cases hr:eqL ks p q with
  |none=>grind
  |some r=>
   rw[hr] at he;obtain rfl:=Ad he;obtain ⟨xs,e1,h1,h2,h3⟩:=v1.agg_inv;obtain ⟨ys,e2,k1,k2,k3⟩:=v2.agg_inv
   have hlen: ∀(ks:List LK)(p q:B7)(r:Bool),eqL ks p q=some r->p.length=ks.length/\q.length=ks.length:=by
    intro ks
    induction ks with
    |nil=>grind [eqL]
    |cons k ks ih=>
     intro p q r h;cases p<;>cases q<;>simp only[eqL] at h<;>first|(cases h;done)|skip
     grind
   obtain ⟨l1,l2⟩:=hlen ks p q r hr;obtain ⟨u,v,q1,q2,q3⟩:=Vt (P:=P) (w:=w) 40 t ks hks 10000 (by omega) xs ys p q 0 r ⟨h1,h2,h3⟩ ⟨k1,k2,k3⟩ (by omega) (by omega) (by grind)
   have hsz:fd P t=some ks.length:=by
    have hks':=hks;rw[show jy P 40 t=jy P (39+1) t from rfl,jy,hu] at hks'
    simp only at hks';split at hks'
    ·cases hf:lw (jy P 39) 0 fs.toList<;>grind
    grind
   have ex: ∀(zs:Array Value)(l:B7),zs.size=l.length->l.length=ks.length->(part t zs 0).run P w= .ok (.agg zs) w:=λzs l a b=>by
    simp_all[wQ]
   rw[ex xs p h1 l1] at q1;rw[ex ys q k1 l2] at q2;cases q1;cases q2
   have:=Bm (P:=P) (w:=w) neg t (ρ x) (ρ y) r (by grind) (by rw[e1,e2];exact q3)
   refine .val h.hi rfl (v:=.bool (xor neg r)) ?_ (.bool _);have gd:(eqGuard (if neg=true then .neq else .eql) t x y (ρ x) (ρ y)).run P w= .ok () w:=by grind [run_eqGuard_agg]
   simp_all[execOp]
 grind
end
end
open Go.RowKit
section
variable {P:Program} {C:Ctx} {U:Nat->Prop} {hp:HF} {w:World} {S:Nat->Prop} {β:Nat->Place} {used:Nat->Nat->Prop} {g:Nat} {N:Nums} {ρ:Operand->Value} {ev:Opd->AV}
def NK.fits (P:Program)(t:TypeId):NK->Prop
 | .ptr=> ∃e,P.underlying t=some (.pointer e)
 | .slice=> ∃e,P.underlying t=some (.slice e)
 | .map=> ∃k e,P.underlying t=some (.map k e)
 | .func=> ∃a b c,P.underlying t=some (.func a b c)
 | .iface=> ∃ms,P.underlying t=some (.interface ms)
def NilIs:NK->Value->Bool->Prop
 | .ptr,v,true=>v= .pointer none
 | .ptr,v,false=> ∃a,v= .pointer (some a)
 | .slice,v,true=>v= .slice none 0 0
 | .slice,v,false=> ∃a n c,v= .slice (some a) n c
 | .map,v,true=>v= .map none
 | .map,v,false=> ∃a,v= .map (some a)
 | .func,v,true=>v= .nilFunc
 | .func,v,false=> ∃a b c,v= .func a b c
 | .iface,v,true=>v= .nilIface
 | .iface,v,false=> ∃a b,v= .iface a b
theorem XP {E:Env}{v:Value}{a:AV}(h:V E v a){k:NK}{b:Bool}(hn:FY k a=some b):NilIs k v b:=by
 unfold FY at hn;split at hn<;>first|(cases hn;done)|(obtain rfl:=Ad hn)
 ·exact h.con_inv
 ·obtain ⟨⟨b,o,e⟩,_⟩:=h.ref_inv;exact ⟨_,e⟩
 ·obtain ⟨⟨b,o,e⟩,_⟩:=h.er_inv;exact ⟨_,e⟩
 ·obtain ⟨b,o,u,e,_⟩:=h.rp_inv;exact ⟨_,e⟩
 ·exact h.con_inv
 ·obtain ⟨q,c,u,e,_,_,hb,_⟩:=h.sl_inv;obtain ⟨b,o,e2,_⟩:=hb (by simp);exact ⟨_,_,_,by rw[e,e2]⟩
 ·exact h.con_inv
 ·exact h.con_inv
 ·obtain ⟨cs,e,_⟩:=h.fn_inv;exact ⟨_,_,_,e⟩
 ·exact h.con_inv
 ·rename_i t x
  generalize ha:AV.ifc t x=a at h;cases h<;>first|(cases ha;done)|exact ⟨_,_,rfl⟩
section
variable (d:Nat){k:NK}{t:TypeId}(hk:k.fits P t){x y:Value}{r:Bool}(h:(NilIs k x true/\NilIs k y r)∨(NilIs k x r/\NilIs k y true))
include hk h
theorem Nd:(Op.equalIn (d+1) t x y).run P w= .ok r w:=by
 cases k
 case ptr=>
  obtain ⟨el,hu⟩:=hk;rcases h with ⟨h1,h2⟩|⟨h1,h2⟩<;>cases r<;>simp only[NilIs] at h1 h2
  ·obtain ⟨a,rfl⟩:=h2;subst h1;simp[Op.equalIn,run_underlying hu]
  ·subst h1;subst h2;simp[Op.equalIn,run_underlying hu]
  ·obtain ⟨a,rfl⟩:=h1;subst h2;simp[Op.equalIn,run_underlying hu]
  ·subst h1;subst h2;simp[Op.equalIn,run_underlying hu]
 case slice=>
  obtain ⟨el,hu⟩:=hk;rcases h with ⟨h1,h2⟩|⟨h1,h2⟩<;>cases r<;>simp only[NilIs] at h1 h2
  ·obtain ⟨a,n,c,rfl⟩:=h2;subst h1;simp[Op.equalIn,run_underlying hu]
  ·subst h1;subst h2;simp[Op.equalIn,run_underlying hu]
  ·obtain ⟨a,n,c,rfl⟩:=h1;subst h2;simp[Op.equalIn,run_underlying hu]
  ·subst h1;subst h2;simp[Op.equalIn,run_underlying hu]
 case map=>
  obtain ⟨kt,el,hu⟩:=hk;rcases h with ⟨h1,h2⟩|⟨h1,h2⟩<;>cases r<;>simp only[NilIs] at h1 h2
  ·obtain ⟨a,rfl⟩:=h2;subst h1;simp[Op.equalIn,run_underlying hu]
  ·subst h1;subst h2;simp[Op.equalIn,run_underlying hu]
  ·obtain ⟨a,rfl⟩:=h1;subst h2;simp[Op.equalIn,run_underlying hu]
  ·subst h1;subst h2;simp[Op.equalIn,run_underlying hu]
 case func=>
  obtain ⟨a0,b0,c0,hu⟩:=hk;rcases h with ⟨h1,h2⟩|⟨h1,h2⟩<;>cases r<;>simp only[NilIs] at h1 h2
  ·obtain ⟨a,n,c,rfl⟩:=h2;subst h1;simp[Op.equalIn,run_underlying hu]
  ·subst h1;subst h2;simp[Op.equalIn,run_underlying hu]
  ·obtain ⟨a,n,c,rfl⟩:=h1;subst h2;simp[Op.equalIn,run_underlying hu]
  ·subst h1;subst h2;simp[Op.equalIn,run_underlying hu]
 case iface=>
  obtain ⟨ms,hu⟩:=hk;rcases h with ⟨h1,h2⟩|⟨h1,h2⟩<;>cases r<;>simp only[NilIs] at h1 h2
  ·obtain ⟨a,n,rfl⟩:=h2;subst h1;simp[Op.equalIn,run_underlying hu]
  ·subst h1;subst h2;simp[Op.equalIn,run_underlying hu]
  ·obtain ⟨a,n,rfl⟩:=h1;subst h2;simp[Op.equalIn,run_underlying hu]
  ·subst h1;subst h2;simp[Op.equalIn,run_underlying hu]
theorem Vn:(Op.equal t x y).run P w= .ok r w:=
 Nd 9999 hk h
end
theorem NilIs.plain {k:NK}{v:Value}{b:Bool}(h:NilIs k v b):((∀k n,v≠ .int k n)/\(∀k n,v≠ .float k n)/\(∀k n m,v≠ .complex k n m)/\(∀s,v≠ .string s))/\(∀c,v≠ .agg c):=by
 cases k<;>cases b<;>simp only[NilIs] at h<;>first|(grind)|grind|grind|grind
section
variable (h:Sit P C U hp w S β used g N ρ ev){o:Oper}
include h
theorem uc {neg:Bool}{k:NK}{t t':TypeId}{x y:Operand}{a b:Opd}(ho:o.op= .binOp (if neg=true then .neq else .eql) t x y t')(hk:k.fits P t)(hi:(k.fits P t/\ ∀ms,P.underlying t≠some (.interface ms))∨(kY x||kY y)=true)(hx:aQ N x=some a)(hy:aQ N y=some b){key:Nat}{e:Eff}(he:aX (.eqn k neg a b) g key [ev a,ev b] hp=some e):Out1 P C U hp w S β used g e ((execOp ρ o).run P w):=by
 have v1:=h.at_ x a hx;have v2:=h.at_ y b hy;simp only[aX] at he;cases hn:eqN k (ev a) (ev b) with
 |none=>grind
 |some r=>
  rw[hn] at he;obtain rfl:=Ad he
  have hq:(NilIs k (ρ x) true/\NilIs k (ρ y) r)∨(NilIs k (ρ x) r/\NilIs k (ρ y) true):=by
   grind [eqN,XP]
  have px:((∀k n,ρ x≠ .int k n)/\(∀k n,ρ x≠ .float k n)/\(∀k n m,ρ x≠ .complex k n m)/\(∀s,ρ x≠ .string s))/\(∀c,ρ x≠ .agg c):=by
   rcases hq with ⟨q,_⟩|⟨q,_⟩<;>exact q.plain
  have hr:=Bm (P:=P) (w:=w) neg t (ρ x) (ρ y) r px.1 (Vn hk hq)
  have gd:(eqGuard (if neg=true then .neq else .eql) t x y (ρ x) (ρ y)).run P w= .ok () w:=by
   by_cases hnn:ρ x= .nilIface/\ρ y= .nilIface
   ·have hc:(kY x||kY y)=true:=by
     rcases hi with ⟨hk',hni⟩|hi
     ·exfalso
      rcases hq with ⟨q1,q2⟩|⟨q1,q2⟩<;>rw[hnn.1] at q1<;>cases k<;>simp[NilIs] at q1
      all_goals first|(obtain ⟨ms,hu⟩:=hk';exact hni ms hu)|grind
      all_goals (obtain ⟨ms,hu⟩:=hk';exact hni ms hu)
     grind
    rw[hnn.1,hnn.2];cases neg<;>cases x<;>cases y<;>simp[kY] at hc<;>simp[eqGuard]
   grind [ky]
  exact .val h.hi rfl (v:=.bool (xor neg r)) (by simp_all[execOp]) (.bool _)
theorem acN {t el:TypeId}{x i:Operand}{x' i':Opd}{s:Nat}(ho:o.op= .indexAddr t x i)(hu:P.underlying t=some (.slice el))(hs:fd P el=some s)(hx:aQ N x=some x')(hi:aQ N i=some i'){key:Nat}{e:Eff}(he:aX (.iadr s x' i') g key [ev x',ev i'] hp=some e):Out1 P C U hp w S β used g e ((execOp ρ o).run P w):=by
 have v1:=h.at_ x x' hx;have v2:=h.at_ i i' hi;simp only[aX] at he;split at he
 case h_2=>cases he
 rename_i k j hj;rw[hj] at v2;have e2:=v2.int_inv
 have hrun: ∀b q n c,ρ x= .slice (some ⟨b,q,none⟩) n c->0<=j->j.toNat<n->(execOp ρ o).run P w= .ok (.value (.pointer (some ⟨b,q+j.toNat*s,none⟩))) w:=λb q n c e1 h0 hn=>by
  have hj':0<=j/\j<(n:Int):=⟨h0,by omega⟩
  simp[execOp,ho,Instr.indexAt,e2,e1,asIntOf,run_underlying hu,hj',fT hs,Addr.add_lit]
 split at he
 ·rename_i s' es hv
  rw[hv] at v1;split at he
  ·rename_i hc
   obtain ⟨rfl,h0,hlt⟩:=hc;obtain rfl:=Ad he;obtain ⟨q,c,u,e1,_,hs',hb,hh⟩:=v1.sl_inv;obtain ⟨b,off,rfl,hr⟩:=hb (by grind)
   refine .val h.hi rfl (hrun b off _ c e1 h0 hlt) (.rp _ _ _ (λm=>u j.toNat m) (λm hm=>?_) λm hm=>?_)
   all_goals grind
  grind
 ·rename_i kk g' n hv
  rw[hv] at v1;cases hk:hp kk with
  |none=>grind
  |some z=>
   obtain ⟨g'',b⟩:=z;rw[hk] at he;cases b with
   |cells=>cases he
   |mp=>cases he
   |vec s' es=>
    dsimp only at he;split at he
    ·rename_i hc
     obtain ⟨rfl,rfl⟩:=hc;split at he
     ·rename_i hj0
      obtain rfl:=Ad he;obtain ⟨h1,h2,h3,h4,h5,h6⟩:=(h.hi.at_ kk g'' _ hk).2.2;obtain ⟨_,hus,hx'⟩:=v1.vs_inv;obtain ⟨e1,hcap⟩:=hx' _ (bA hk)
      have hnn:(β kk).isNil=false:=by
       grind
      refine .val h.hi rfl (hrun (β kk).blk ((β kk).off) n (β kk).cap (by grind [Place.base]) hj0.1 hj0.2) (.er _ _ _ _ _ ⟨_,_,rfl⟩ hus λp hp'=>?_)
      grind [bA]
     grind
    grind
 ·rename_i kk g' o' n hv
  rw[hv] at v1;cases hk:hp kk with
  |none=>grind
  |some z=>
   obtain ⟨g'',b⟩:=z;rw[hk] at he;cases b with
   |cells=>cases he
   |mp=>cases he
   |vec s' es=>
    dsimp only at he;split at he
    ·rename_i hc
     obtain ⟨rfl,rfl⟩:=hc;split at he
     ·rename_i hj0
      obtain rfl:=Ad he;obtain ⟨h1,h2,h3,h4,h5,h6⟩:=(h.hi.at_ kk g'' _ hk).2.2;obtain ⟨_,hus,hx'⟩:=v1.vw_inv;obtain ⟨c,qo,e1,hcap,hqo⟩:=hx' _ (bA hk);obtain ⟨hq,hnn⟩:=hqo (by omega)
      subst hq;refine .val h.hi rfl (hrun (β kk).blk ((β kk).off+o'* (β kk).sz) n c (by grind [Place.base]) hj0.1 hj0.2) (.er _ _ _ _ _ ⟨_,_,rfl⟩ hus λp hp'=>?_)
      grind [bA]
     grind
    grind
 grind
end
end
open Go.RowKit
section
variable {P:Program} {C:Ctx} {U:Nat->Prop} {hp:HF} {w:World} {S:Nat->Prop} {β:Nat->Place} {used:Nat->Nat->Prop} {g:Nat} {N:Nums} {ρ:Operand->Value} {ev:Opd->AV}
theorem acM (h:Sit P C U hp w S β used g N ρ ev){o:Oper}{t el:TypeId}{x i:Operand}{x' i':Opd}{n s:Nat}(ho:o.op= .indexAddr t x i)(hu:P.underlying t=some (.array n el))(hs:fd P el=some s)(hx:aQ N x=some x')(hi:aQ N i=some i'){key:Nat}{e:Eff}(he:aX (.iarr n s x' i') g key [ev x',ev i'] hp=some e):Out1 P C U hp w S β used g e ((execOp ρ o).run P w):=by
 have v1:=h.at_ x x' hx;have v2:=h.at_ i i' hi;simp only[aX] at he;split at he
 case h_2=>cases he
 rename_i k j hj;rw[hj] at v2;have e2:=v2.int_inv;split at he
 case isFalse=>cases he
 rename_i hj0
 have hrun: ∀b q,ρ x= .pointer (some ⟨b,q,none⟩)->(execOp ρ o).run P w= .ok (.value (.pointer (some ⟨b,q+j.toNat*s,none⟩))) w:=λb q e1=>by
  have hj':0<=j/\j<(n:Int):=⟨hj0.1,by omega⟩
  simp[execOp,ho,Instr.indexAt,e2,e1,asIntOf,Instr.sureAddr,run_underlying hu,hj',fT hs,Addr.add_lit]
 split at he
 ·rename_i kk g' q ht
  obtain rfl:=Ad he;rw[ht] at v1;obtain ⟨⟨b,q',e1⟩,hus,hx⟩:=v1.ref_inv;refine .val h.hi rfl (hrun b q' e1) (.ref _ _ _ _ ⟨_,_,rfl⟩ hus λp hp=>?_)
  grind
 ·rename_i kk g' i q ht
  obtain rfl:=Ad he;rw[ht] at v1;obtain ⟨⟨b,q',e1⟩,hus,hx⟩:=v1.er_inv;refine .val h.hi rfl (hrun b q' e1) (.er _ _ _ _ _ ⟨_,_,rfl⟩ hus λp hp=>?_)
  grind
 ·rename_i cs ht
  obtain rfl:=Ad he;rw[ht] at v1;obtain ⟨b,off,u,e1,hb,hh⟩:=v1.rp_inv;refine .val h.hi rfl (hrun b off e1) (.rp _ _ _ (λm=>u (j.toNat*s+m)) (λm hm=>?_) λm hm=>?_)
  all_goals grind
 grind
theorem mh {E:Env}{v:Value}{a:AV}(h:V E v a){y n:Nat}(hb:bnd a y=some n)(code:BoundsCode){y':Nat}(hy:y<=y'):(Instr.sliceBound v y' code).run P w= .ok n w/\n<=y:=by
 unfold bnd at hb;split at hb
 ·rename_i k i
  split at hb
  ·rename_i hi
   obtain rfl:=Ad hb;rw[h.int_inv];have h1:0<=i/\i<=(y':Int):=⟨hi.1,by omega⟩
   simp_all[Instr.sliceBound,asIntOf]
  grind
 grind
theorem kh {E:Env}(isS:Bool){lo hi mx:Option Value}{lo' hi' mx':DS}(h1:lo.isSome=lo'.isSome)(h2:hi.isSome=hi'.isSome)(h3:mx.isSome=mx'.isSome)(v1: ∀x y,lo=some x->lo'=some y->V E x y)(v2: ∀x y,hi=some x->hi'=some y->V E x y)(v3: ∀x y,mx=some x->mx'=some y->V E x y){n c l hh:Nat}(hn:n<=c)(hb:aX.slBounds lo'.isSome hi'.isSome mx'.isSome n (lo'.toList++(hi'.toList++mx'.toList))=some (l,hh)):
  ∃m,(Instr.sliceBounds isS n c lo hi mx).run P w= .ok (l,hh,m) w/\l<=hh/\hh<=n/\hh<=m/\m<=c/\(mx=none->m=c):=by
 cases lo<;>cases lo'<;>simp at h1<;>cases hi<;>cases hi'<;>simp at h2<;>cases mx<;>cases mx'<;>simp at h3<;>simp only[aX.slBounds,Option.isSome,Option.toList,A9,BD,Bb] at hb
 all_goals try (cases hb;done)
 ·obtain ⟨rfl,rfl⟩:0=l/\n=hh:=by grind
  simp_all[Instr.sliceBounds]
 ·rename_i x y
  cases hbd:bnd y n with
  |none=>grind
  |some q=>
   rw[hbd] at hb;obtain ⟨rfl,rfl⟩:0=l/\q=hh:=by grind
   have:=λcode=>mh (P:=P) (w:=w) (v2 x y rfl rfl) hbd code hn
   exact ⟨c,by simp_all[Instr.sliceBounds],Nat.zero_le _,(this .index).2,AJ (this .index).2 hn,A7 _,λ_=>rfl⟩
 ·rename_i x y x2 y2
  cases hm:bnd y2 n with
  |none=>grind
  |some m=>
   rw[hm] at hb;cases hbd:bnd y m with
   |none=>grind
   |some q=>
    rw[Option.bind_some,hbd] at hb;obtain ⟨rfl,rfl⟩:0=l/\q=hh:=by grind
    have t1:=λcode=>mh (P:=P) (w:=w) (v3 x2 y2 rfl rfl) hm code hn
    have t2:=λcode=>mh (P:=P) (w:=w) (v2 x y rfl rfl) hbd code (A7 m)
    have a1:=(t1 .index).2;have a2:=(t2 .index).2;exact ⟨m,by simp_all[Instr.sliceBounds],Nat.zero_le _,by omega,by omega,by omega,λe=>by cases e⟩
 ·rename_i x y
  cases hbd:bnd y n with
  |none=>grind
  |some q=>
   rw[hbd] at hb;obtain ⟨rfl,rfl⟩:q=l/\n=hh:=by grind
   have:=λcode=>mh (P:=P) (w:=w) (v1 x y rfl rfl) hbd code (A7 n)
   exact ⟨c,by simp_all[Instr.sliceBounds],(this .index).2,A7 _,hn,A7 _,λ_=>rfl⟩
 ·rename_i x y x2 y2
  cases hm:bnd y2 n with
  |none=>grind
  |some m=>
   rw[hm] at hb;cases hbd:bnd y m with
   |none=>grind
   |some q=>
    rw[Option.bind_some,hbd] at hb;obtain ⟨rfl,rfl⟩:q=l/\m=hh:=by grind
    have t1:=λcode=>mh (P:=P) (w:=w) (v2 x2 y2 rfl rfl) hm code hn
    have t2:=λcode=>mh (P:=P) (w:=w) (v1 x y rfl rfl) hbd code (A7 m)
    have a1:=(t1 .index).2;have a2:=(t2 .index).2;exact ⟨c,by simp_all[Instr.sliceBounds],by omega,by omega,by omega,by omega,λ_=>rfl⟩
 ·rename_i x y x2 y2 x3 y3
  cases hm:bnd y3 n with
  |none=>grind
  |some m=>
   rw[hm,Option.bind_some] at hb;cases hbd:bnd y2 m with
   |none=>grind
   |some q=>
    rw[hbd,Option.bind_some] at hb;cases hbe:bnd y q with
    |none=>grind
    |some r=>
     rw[hbe] at hb;obtain ⟨rfl,rfl⟩:r=l/\q=hh:=by grind
     have t1:=λcode=>mh (P:=P) (w:=w) (v3 x3 y3 rfl rfl) hm code hn
     have t2:=λcode=>mh (P:=P) (w:=w) (v2 x2 y2 rfl rfl) hbd code (A7 m)
     have t3:=λcode=>mh (P:=P) (w:=w) (v1 x y rfl rfl) hbe code (A7 q)
     have a1:=(t1 .index).2;have a2:=(t2 .index).2;have a3:=(t3 .index).2;exact ⟨m,by simp_all[Instr.sliceBounds],by omega,by omega,by omega,by omega,λe=>by cases e⟩
theorem yD {f:Operand->D2}{x:Option Operand}{y:D2}(h:lK f x=some y):x.isSome=y.isSome/\ ∀a b,x=some a->y=some b->f a=some b:=by
 cases x with
 |none=>grind [lK]
 |some a=>
  simp only[lK] at h;cases hf:f a<;>grind
section
variable (h:Sit P C U hp w S β used g N ρ ev){o:Oper}
include h
theorem Sit.opt {x:Option Operand}{y:D2}(hx:lK (aQ N) x=some y):
  (x.map ρ).isSome=(y.map ev).isSome/\ ∀a b,x.map ρ=some a->y.map ev=some b->V (aP C S β used hp w) a b:=by
 obtain ⟨h1,h2⟩:=yD hx;cases x<;>cases y<;>simp at h1⊢
 exact h.at_ _ _ (h2 _ _ rfl rfl)
theorem aeq {t el:TypeId}{x:Operand}{lo hi mx:Option Operand}{x':Opd}{lo' hi' mx':D2}{s:Nat}(ho:o.op= .slice t x lo hi mx)(hu:P.underlying t=some (.slice el))(hs:fd P el=some s)(hx:aQ N x=some x')(hlo:lK (aQ N) lo=some lo')(hhi:lK (aQ N) hi=some hi')(hmx:lK (aQ N) mx=some mx'){key:Nat}{e:Eff}(he:aX (.slc s x' lo' hi' mx') g key (ev x'::((lo'.toList++(hi'.toList++mx'.toList)).map ev)) hp=some e):Out1 P C U hp w S β used g e ((execOp ρ o).run P w):=by
 have v1:=h.at_ x x' hx;obtain ⟨a1,b1⟩:=h.opt hlo;obtain ⟨a2,b2⟩:=h.opt hhi;obtain ⟨a3,b3⟩:=h.opt hmx;simp only[aX] at he;cases hl:lY (ev x') with
 |none=>grind
 |some n=>
  rw[hl] at he;dsimp only at he
  have hmap:(lo'.toList++(hi'.toList++mx'.toList)).map ev=(lo'.map ev).toList++((hi'.map ev).toList++(mx'.map ev).toList):=by
   cases lo'<;>cases hi'<;>cases mx'<;>rfl
  have hso:lo'.isSome=(lo'.map ev).isSome/\hi'.isSome=(hi'.map ev).isSome/\mx'.isSome=(mx'.map ev).isSome:=by grind
  rw[hmap,hso.1,hso.2.1,hso.2.2] at he;cases hb:aX.slBounds (lo'.map ev).isSome (hi'.map ev).isSome (mx'.map ev).isSome n ((lo'.map ev).toList++((hi'.map ev).toList++(mx'.map ev).toList)) with
  |none=>grind
  |some lh=>
   obtain ⟨l,hh⟩:=lh;rw[hb] at he;dsimp only at he;obtain ⟨qa,c,e1,hqc⟩:=NY v1 hl
   have hrun: ∀m,n<=c->(Instr.sliceBounds true n c (lo.map ρ) (hi.map ρ) (mx.map ρ)).run P w= .ok (l,hh,m) w->(execOp ρ o).run P w= .ok (.value (.slice (if m=l then qa else qa.map (·.add (l*s))) (hh-l) (m-l))) w:=λm _ hr=>by
    simp[execOp,ho,Instr.sliceAt,Instr.slice,run_underlying hu,e1,hr,fT hs]
   split at he
   ·rename_i s' es hv
    rw[hv] at v1;split at he
    ·rename_i hss;subst hss
     obtain rfl:=Ad he;obtain ⟨q,c',u,e1',hcap,hs',hbb,hhh⟩:=v1.sl_inv;obtain ⟨rfl,hnl,rfl⟩:qa=q/\n=es.length/\c=c':=by grind
     subst hnl;obtain ⟨m,hr,k1,k2,k3,k4,_⟩:=kh (P:=P) (w:=w) true a1 a2 a3 b1 b2 b3 hcap hb;have hlen:((es.drop l).take (hh-l)).length=hh-l:=by grind
     refine .val h.hi rfl (hrun m hcap hr) (.sl _ _ _ _ _ hlen.symm (λi hi=>?_) (by omega) (λi j=>u (l+i) j) (λhne=>?_) λi hi j hj=>?_)
     ·grind
     ·have hne':es≠ []:=by grind
      grind [Addr.add_lit]
     grind
    grind
   ·rename_i hv
    obtain rfl:=Ad he;obtain ⟨rfl,rfl⟩:=hqc hv;rw[hv] at hl;obtain rfl:0=n:=by grind [lY]
    obtain ⟨m,hr,k1,k2,k3,k4,_⟩:=kh (P:=P) (w:=w) true a1 a2 a3 b1 b2 b3 (A7 0) hb;refine .val h.hi rfl (hrun m (A7 _) hr) (.sl _ _ _ _ _ (by grind) (by simp) (by omega) (λ_ _=>undef) (λq=>absurd rfl q) (by simp))
   ·rename_i kk g' n' hv
    rw[hv] at v1 hl;obtain rfl:n'=n:=by grind [lY]
    cases hk:hp kk with
    |none=>grind
    |some z=>
     obtain ⟨g'',b⟩:=z;rw[hk] at he;cases b with
     |cells=>cases he
     |mp=>cases he
     |vec s' es=>
      dsimp only at he;split at he
      ·rename_i hc
       obtain ⟨rfl,rfl⟩:=hc;obtain ⟨q1,q2,q3,q4,q5,q6⟩:=(h.hi.at_ kk g'' _ hk).2.2;obtain ⟨_,hus,hx'⟩:=v1.vs_inv;obtain ⟨e1',hcap⟩:=hx' _ (bA hk);obtain ⟨rfl,rfl⟩:qa=(β kk).base 0/\c=(β kk).cap:=by grind
       obtain ⟨m,hr,k1,k2,k3,k4,k5⟩:=kh (P:=P) (w:=w) true a1 a2 a3 b1 b2 b3 hcap hb
       have hadd: ∀y,((β kk).base 0).map (·.add y)=(β kk).base y:=λy=>by
                unfold Place.base
                grind [Addr.add_lit]
       split at he
       ·rename_i hl0
        obtain rfl:=Ad he;obtain ⟨rfl,hmx0⟩:=hl0
        have hmn :mx=none:=by
                 have h3:=(yD hmx).1;rw[<-hso.2.2] at hmx0;rw[hmx0] at h3;cases mx<;>grind
        have hmc:=k5 (by grind)
        refine .val h.hi rfl (hrun m hcap hr) (.vs _ _ _ _ ⟨_,_,rfl⟩ hus λp hp'=>?_)
        grind
       ·obtain rfl:=Ad he
        refine .val h.hi rfl (hrun m hcap hr) (.vw _ _ _ _ _ ⟨_,_,rfl⟩ hus λp hp'=>?_)
        rw[bA hk] at hp';obtain rfl:=Ad hp'
        by_cases hml:m=l
        ·grind
        ·refine ⟨m-l,l*s',by grind,by omega,λhne=>⟨by rw[q1],?_⟩⟩
         grind
      grind
   ·rename_i kk g' o' n' hv
    rw[hv] at v1 hl;obtain rfl:n'=n:=by grind [lY]
    cases hk:hp kk with
    |none=>grind
    |some z=>
     obtain ⟨g'',b⟩:=z;rw[hk] at he;cases b with
     |cells=>cases he
     |mp=>cases he
     |vec s' es=>
      dsimp only at he;split at he
      ·rename_i hc
       obtain ⟨rfl,rfl⟩:=hc;obtain ⟨q1,q2,q3,q4,q5,q6⟩:=(h.hi.at_ kk g'' _ hk).2.2;obtain ⟨_,hus,hx'⟩:=v1.vw_inv;obtain ⟨c',qo,e1',hcap,hqo⟩:=hx' _ (bA hk);obtain ⟨rfl,rfl⟩:qa=(β kk).base qo/\c=c':=by grind
       obtain ⟨m,hr,k1,k2,k3,k4,k5⟩:=kh (P:=P) (w:=w) true a1 a2 a3 b1 b2 b3 hcap hb
       have hadd: ∀y,((β kk).base qo).map (·.add y)=(β kk).base (qo+y):=λy=>by
                unfold Place.base
                grind [Addr.add_lit]
       obtain rfl:=Ad he;refine .val h.hi rfl (hrun m hcap hr) (.vw _ _ _ _ _ ⟨_,_,rfl⟩ hus λp hp'=>?_)
       rw[bA hk] at hp';obtain rfl:=Ad hp'
       by_cases hml:m=l
       ·grind
       ·refine ⟨m-l,qo+l*s',by grind,by omega,λhne=>?_⟩
        grind
      grind
   grind
theorem Xq {t:TypeId}{x:Operand}{lo hi:Option Operand}{x':Opd}{lo' hi':D2}(ho:o.op= .slice t x lo hi none)(hu:P.underlying t=some .string)(hx:aQ N x=some x')(hlo:lK (aQ N) lo=some lo')(hhi:lK (aQ N) hi=some hi'){key:Nat}{e:Eff}(he:aX (.slstr x' lo' hi') g key (ev x'::((lo'.toList++hi'.toList).map ev)) hp=some e):Out1 P C U hp w S β used g e ((execOp ρ o).run P w):=by
 have v1:=h.at_ x x' hx;obtain ⟨a1,b1⟩:=h.opt hlo;obtain ⟨a2,b2⟩:=h.opt hhi;simp only[aX] at he;split at he
 ·rename_i l hv
  rw[hv] at v1
  have hmap:(lo'.toList++hi'.toList).map ev=(lo'.map ev).toList++((hi'.map ev).toList++(none:DS).toList):=by
   cases lo'<;>cases hi'<;>rfl
  have hso:lo'.isSome=(lo'.map ev).isSome/\hi'.isSome=(hi'.map ev).isSome:=by grind
  rw[hmap,hso.1,hso.2] at he;split at he
  ·rename_i p q hb
   obtain rfl:=Ad he;have e1:=v1.str_inv;have hsz:(⟨l.toArray⟩:ByteArray).size=l.length:=by show l.toArray.size=_;simp
   obtain ⟨m,hr,k1,k2,k3,k4,_⟩:=kh (P:=P) (w:=w) (E:=aP C S β used hp w) false (mx:=none) (mx':=none) a1 a2 rfl b1 b2 (λ_ _ e=>by cases e) (A7 l.length) hb
   have hex:(⟨l.toArray⟩:ByteArray).extract p q=⟨((l.drop p).take (q-p)).toArray⟩:=by
    apply ByteArray.ext
    grind [ByteArray.data_extract]
   refine .val h.hi rfl (v:=.string ⟨((l.drop p).take (q-p)).toArray⟩) ?_ (.str _);rw[<-hsz] at hr;rw[<-hex];simp[execOp,ho,Instr.sliceAt,Instr.slice,run_underlying hu,e1,hr]
  grind
 grind
end
theorem NV {E:Env}(k:IntKind): ∀(vs:List Value)(as:B7)(x r:Int)(m:Bool),vs.length=as.length->(∀i,i<as.length->V E (vs.getD i undef) (as.getD i .any))->qM m k x as=some r->
  (vs.foldlM (if m=true then Builtin.max2 else Builtin.min2) (.int k x)).run P w= .ok (.int k r) w
 | [],[],x,r,m,_,_,h=>by simp_all[qM]
 |v::vs,a::as,x,r,m,hl,hv,h=>by
  have v0:=hv 0 (by simp)
  simp only[List.getD_cons_zero] at v0;unfold qM at h;split at h
  ·grind
  ·rename_i k' y r' hy
   obtain ⟨rfl,rfl⟩:=List.cons.inj hy;split at h
   ·rename_i hk;subst hk
    have ih:=NV k' vs as _ r m (by grind) (λi hi=>by simpa using hv (i+1) (by grind)) h
    rw[v0.int_inv]
    grind [Builtin.min2,Builtin.max2]
   ·cases h
  ·cases h
 | [],_::_,_,_,_,hl,_,_=>by simp at hl
 |_::_,[],_,_,_,hl,_,_=>by simp at hl
theorem De (h:Sit P C U hp w S β used g N ρ ev){o:Oper}{c:Call}{m:Bool}{xs:Do}(ho:o.op= .call c)(hc:c.callee= .builtin (if m=true then .max else .min))(hx:dX (aQ N) c.args.toList=some xs){key:Nat}{e:Eff}(he:aX (.minmax m xs) g key (xs.map ev) hp=some e):Out1 P C U hp w S β used g e ((execOp ρ o).run P w):=by
 obtain ⟨q1,q2⟩:=h.list _ _ hx;generalize hvs:xs.map ev=vs at he;cases vs with
 |nil=>grind [aX]
 |cons v r=>
  simp only[aX] at he;split at he
  ·rename_i k x
   cases hm:qM m k x r with
   |none=>grind
   |some n=>
    rw[hm] at he;obtain rfl:=Ad he;have hlen:xs.length=r.length+1:=by have:=congrArg List.length hvs;grind
    have hargs: ∃a0 ar,c.args.toList.map ρ=a0::ar:=by
     cases hl:c.args.toList.map ρ<;>grind [List.length_map]
    obtain ⟨a0,ar,hal⟩:=hargs;rw[hvs,hal] at q2;have v0:=q2 0 (by omega)
    simp only[List.getD_cons_zero] at v0;have e0:=v0.int_inv;subst e0
    have hal':ar.length=r.length:=by
     grind [List.length_map]
    have hrun:=NV (P:=P) (w:=w) k ar r x n m hal' (λi hi=>by simpa using q2 (i+1) (by omega)) hm
    refine .val h.hi rfl (v:=.int k n) ?_ (.int _ _);cases m
    ·simp only[AR,if_false] at hrun hc
     simp[execOp,ho,resolve,hc,invoke,builtin,Builtin.min_,hal,hrun]
    ·simp only[if_true] at hrun hc
     simp[execOp,ho,resolve,hc,invoke,builtin,Builtin.max_,hal,hrun]
  grind
theorem zy {E:Env}: ∀(es:B6)(l:B5),aX.bytesOf es=some l-> ∃xs:D4,xs.length=es.length/\(∀i,i<es.length->(es.getD i []).getD 0 .any= .int .u8 (xs.getD i 0))/\(xs.map λn=>UInt8.ofNat n.toNat)=l
 | [],l,h=>by simp_all[aX.bytesOf]
 |e::es,l,h=>by
  unfold aX.bytesOf at h;split at h
  ·grind
  ·rename_i n r heq
   obtain ⟨rfl,rfl⟩:=List.cons.inj heq;cases hb:aX.bytesOf es with
   |none=>grind
   |some l'=>
    rw[hb] at h;obtain rfl:=Ad h;obtain ⟨xs,h1,h2,h3⟩:=zy (E:=E) es l' hb;refine ⟨n::xs,by simp[h1],λi hi=>?_,by simp[h3]⟩
    grind
  ·cases h
theorem aew (h:Sit P C U hp w S β used g N ρ ev){o:Oper}{s d el:TypeId}{a:Operand}{a':Opd}(ho:o.op= .convert s d a)(hs:P.underlying s=some (.slice el))(hel:P.underlying el=some (.int .u8))(hd:P.underlying d=some .string)(ha:aQ N a=some a'){key:Nat}{e:Eff}(he:aX (.b2s a') g key [ev a'] hp=some e):Out1 P C U hp w S β used g e ((execOp ρ o).run P w):=by
 have v1:=h.at_ a a' ha;simp only[aX] at he;cases hes:dH hp (ev a') with
 |none=>grind
 |some er=>
  obtain ⟨es,r⟩:=er;rw[hes] at he;dsimp only at he;cases hb:aX.bytesOf es with
  |none=>grind
  |some l=>
   rw[hb] at he;obtain rfl:=Ad he;obtain ⟨ao,c,sz,e1,hcap,hsz,hne⟩:=zo h.hi v1 hes;obtain ⟨xs,h1,h2,h3⟩:=zy (E:=aP C S β used hp w) es l hb;refine .val h.hi rfl (v:=.string ⟨l.toArray⟩) ?_ (.str _);cases es with
   |nil=>
    obtain rfl:xs= []:=AD h1;obtain rfl: []=l:=by grind
    cases ao with
    |none=>
     have:=run_convert_bytes_nil (P:=P) w s el hs hel 0 c d hd;simp[execOp,ho,e1,this];rfl
    |some ad=>
     have hl:=run_loadCells_list (P:=P) w ad [] (by simp)
     have:=run_convert_bytes_string w s d el (some ad) 0 c hs hel hd;simp[execOp,ho,e1,this,Conv.bytesToString];simp at hl;simp[hl];rfl
   |cons x es'=>
    obtain ⟨b,off,rfl,hc⟩:=hne (by simp)
    have hs1:sz=1:=by
     have:=hsz 0 (by simp)
     have h0:x= [.int .u8 (xs.getD 0 0)]:=by
      unfold aX.bytesOf at hb
      grind
     grind
    subst hs1
    have:=run_convert_bytes_arg (P:=P) w s el hs hel b off (x::es').length c xs h1 (λi hi=>by
     obtain ⟨u,q1,q2,q3⟩:=hc i hi 0 (by omega)
     rw[h2 i hi] at q3;rw[q3.int_inv] at q1
     grind) d hd
    have hb2:strOfNums xs=⟨l.toArray⟩:=by grind [strOfNums]
    rw[hb2] at this;rw[Ar] at this;simp[execOp,ho,e1,this]
end
open Go.RowKit
section
variable {α:Type}(l:List α)(off:Nat)(cs:List α)(h:off+cs.length<=l.length)
include h
theorem jk:(dw l off cs).length=l.length:=by grind [dw]
theorem vY (i:Nat)(d:α):
  (dw l off cs).getD i d=if off<=i/\i<off+cs.length then cs.getD (i-off) d else l.getD i d:=by
 have hl:(l.take off).length=off:=by grind
 simp only[dw,Ai]
 by_cases h1:i<off
 ·grind
 ·rw[Be (by omega),hl]
  grind
end
theorem Bw (off:Nat): ∀(l:List Value)(k:Nat)(C:Array Value),off+k+l.length<=C.size->
  ((l.zipIdx k).foldl (λcs (x:Value×Nat)=>cs.setIfInBounds (off+x.2) x.1) C).size=C.size/\
  ∀i,((l.zipIdx k).foldl (λcs (x:Value×Nat)=>cs.setIfInBounds (off+x.2) x.1) C).getD i undef=if off+k<=i/\i<off+k+l.length then l.getD (i- (off+k)) undef else C.getD i undef
 | [],k,C,_=>⟨rfl,λi=>by simp_all[Aa]⟩
 |v::l,k,C,h=>by
  simp only[Ar] at h;obtain ⟨h1,h2⟩:=Bw off l (k+1) (C.setIfInBounds (off+k) v) (by grind)
  simp only[List.zipIdx_cons,List.foldl_cons];refine ⟨by grind,λi=>?_⟩
  rw[h2 i]
  by_cases hi:i=off+k
  ·subst hi
   rw[Aa (by omega),Ac ⟨by omega,by simp⟩]
   simp[Aj,Array.getElem?_setIfInBounds]
   grind
  ·by_cases h3:off+(k+1)<=i/\i<off+(k+1)+l.length
   ·rw[Ac h3,Ac ⟨by omega,by grind⟩]
    rw[show i- (off+k)=(i- (off+(k+1)))+1 from by omega,List.getD_cons_succ]
   ·rw[Aa h3,Aa (by grind)]
    simp only[Aj,Array.getElem?_setIfInBounds_ne (λe=>hi e.symm)]
section
variable {P:Program} {w:World} {E:Env}
theorem Cs.put {C X:Array Value}{z cs:B7}(h:Cs E C z)(x:Cs E X cs)(off:Nat)(hl:off+cs.length<=z.length):
  Cs E (X.zipIdx.foldl (λcs (x:Value×Nat)=>cs.setIfInBounds (off+x.2) x.1) C) (dw z off cs):=by
 have e:X.zipIdx.foldl (λcs (x:Value×Nat)=>cs.setIfInBounds (off+x.2) x.1) C=(X.toList.zipIdx 0).foldl (λcs (x:Value×Nat)=>cs.setIfInBounds (off+x.2) x.1) C:=by
  rw[<-Array.foldl_toList,Array.toList_zipIdx]
 rw[e];have hxl:X.toList.length=cs.length:=by simpa using x.len
 obtain ⟨h1,h2⟩:=Bw off X.toList 0 C (by rw[hxl,h.len];omega)
 have hg: ∀j,X.toList.getD j undef=X.getD j undef:=λj=>by simp_all
 refine ⟨by rw[h1,jk _ _ _ hl];exact h.len,λi hi=>?_,λi hi=>?_⟩
 ·rw[jk _ _ _ hl] at hi
  rw[h2 i,hxl];split
  ·rw[hg];exact x.one _ (by omega)
  ·exact h.one _ hi
 ·rw[jk _ _ _ hl] at hi
  rw[h2 i,vY _ _ _ hl,hxl];simp only[Nat.add_zero];split
  ·rw[hg];exact x.at_ _ (by omega)
  ·exact h.at_ _ hi
theorem Og {pl:Nat->DG}: ∀(is:Cc)(ps:List (Nat×Nat))(vs:List Value)(as:B7)(C:Array Value)(z r:B7),dX pl is=some ps->vs.length=as.length->(∀i,i<as.length->V E (vs.getD i undef) (as.getD i .any))->
  Cs E C z->sr z ps as=some r->is.length=vs.length-> ∃C',Instr.fill pl C (is.zip vs)=some C'/\Cs E C' r
 | [],ps,vs,as,C,z,r,h1,h2,h3,h4,h5,h6=>by
  obtain rfl: []=ps:=by grind [dX]
  obtain rfl:vs= []:=AD h6.symm;obtain rfl:as= []:=AD h2.symm;obtain rfl:z=r:=by grind [sr]
  exact ⟨C,rfl,h4⟩
 |i::is,ps,v::vs,a::as,C,z,r,h1,h2,h3,h4,h5,h6=>by
  obtain ⟨⟨off,sz⟩,ps',q1,q2,rfl⟩:=ql h1;simp only[sr] at h5;cases hc:dM a with
  |none=>grind
  |some cs=>
   rw[hc] at h5;dsimp only at h5;split at h5
   ·rename_i hl
    have v0:=h3 0 (by simp)
    simp only[List.getD_cons_zero] at v0;obtain ⟨c1,c2,c3⟩:=v0.cells hc;have hx:Cs E v.cells cs:=⟨c1,c2,c3⟩;have hp:=h4.put hx off (by grind)
    obtain ⟨C',g1,g2⟩:=Og is ps' vs as _ _ r q2 (by grind) (λi hi=>by simpa using h3 (i+1) (by grind)) hp h5 (by grind)
    refine ⟨C',?_,g2⟩
    have e1:(decide (v.cells.size≠sz)||decide (off+v.cells.size>C.size))=false:=by
     have:=h4.len
     grind
    grind [List.zip_cons_cons,Instr.fill]
   grind
 |_::_,_,[],_,_,_,_,_,_,_,_,_,h6=>by simp at h6
 |_::_,_,_::_,[],_,_,_,_,h2,_,_,_,_=>by simp at h2
theorem Gu {t:TypeId}{a:AV}(h:kn P t=some a): ∃i z,P.info? t=some i/\i.zero=some z/\V E z a:=by
 unfold kn at h;cases hi:P.info? t with
 |none=>grind
 |some i=>
  rw[hi] at h;cases hz:i.zero<;>grind [abK]
theorem rF {t:TypeId}{cs:B7}(h:(kn P t).bind dM=some cs): ∃i z,P.info? t=some i/\i.zero=some z/\Cs E z.cells cs:=by
 cases hz:kn P t with
 |none=>grind
 |some a=>
  rw[hz] at h;obtain ⟨i,z,h1,h2,h3⟩:=Gu (E:=E) hz;obtain ⟨c1,c2,c3⟩:=h3.cells h;exact ⟨i,z,h1,h2,⟨c1,c2,c3⟩⟩
end
section
variable {P:Program} {C:Ctx} {U:Nat->Prop} {hp:HF} {w:World} {S:Nat->Prop} {β:Nat->Place} {used:Nat->Nat->Prop} {g:Nat} {N:Nums} {ρ:Operand->Value} {ev:Opd->AV}
theorem Da (ρ:Operand->Value)(parts:Array (Nat×Operand)):(parts.map λ(i,x)=>(i,ρ x)).toList=(parts.toList.map (·.1)).zip ((parts.toList.map (·.2)).map ρ):=by
 grind [Array.toList_map]
theorem Xy (h:Sit P C U hp w S β used g N ρ ev){o:Oper}{t:TypeId}{parts:Array (Nat×Operand)}{pl:Nat->DG}{z:B7}{xs:Do}{ps:List (Nat×Nat)}(ho:o.op= .build t parts)(hpl:nD P t=some pl)(hz:(kn P t).bind dM=some z)(hx:dX (aQ N) (parts.toList.map (·.2))=some xs)(hps:dX pl (parts.toList.map (·.1))=some ps){key:Nat}{e:Eff}(he:aX (.build z ps xs) g key (xs.map ev) hp=some e):Out1 P C U hp w S β used g e ((execOp ρ o).run P w):=by
 obtain ⟨q1,q2⟩:=h.list _ _ hx;simp only[aX] at he;cases hf:sr z ps (xs.map ev) with
 |none=>grind
 |some cs=>
  rw[hf] at he;obtain rfl:=Ad he;obtain ⟨i,zv,h1,h2,h3⟩:=rF (E:=aP C S β used hp w) hz;obtain ⟨C',g1,g2⟩:=Og (pl:=pl) (parts.toList.map (·.1)) ps ((parts.toList.map (·.2)).map ρ) (xs.map ev) _ z cs hps (by grind) (λi hi=>q2 i (by grind)) h3 hf (by simp)
  have hb:P.built t (parts.map λ(i,x)=>(i,ρ x)).toList=some C':=by
   rw[Da];unfold nD at hpl;unfold Program.built;rw[h1];cases hu:P.underlying t with
   |none=>grind
   |some d=>
    rw[hu] at hpl;cases d<;>dsimp only at hpl⊢ <;>first|(cases hpl;done)|skip
    ·rename_i n el
     cases hs:fd P el with
     |none=>grind
     |some s=>
      rw[hs] at hpl;obtain rfl:=Ad hpl;obtain ⟨ie,hie,rfl⟩:=Tg hs
      grind
    ·rename_i fs
     cases hm:fs.toList.mapM (λf=>(P.info? f.type).map λi=>(f.offset,i.size))<;>simp_all
  have:=run_build (P:=P) w t _ C' hb;exact .val h.hi rfl (v:=.agg C') (by simp_all[execOp]) (.agg _ _ g2.len g2.one g2.at_)
theorem FD {E:Env}{w:World}{C:Array Value}{T:TypeId}{fr:Nat×Nat}{cs:B7}(h:Cs E C cs)(hf: ∀o,o<C.size-> ¬(fr.1<=o/\o<fr.2)):CellsOk E (w.alloc (.cells C T fr)) w.heap.size 0 cs:=λj hj=>by
 have hj':j<C.size:=by rw[h.len];exact hj
 refine ⟨C.getD j undef,?_,?_,h.one j hj,h.at_ j hj⟩
 ·have:(w.alloc (.cells C T fr)).heap[w.heap.size]? =some (.cells C T fr):=by show (w.heap.push _)[w.heap.size]? =_;simp
  simp_all[World.cell?]
 ·have:(w.alloc (.cells C T fr)).heap[w.heap.size]? =some (.cells C T fr):=by show (w.heap.push _)[w.heap.size]? =_;simp
  grind [World.frozen?]
theorem Cs.mono {E E':Env}(l:E.le E'){X:Array Value}{as:B7}(h:Cs E X as):Cs E' X as:=⟨h.len,h.one,λi hi=>(h.at_ i hi).mono l⟩
theorem IZ (h:HI C U hp w S β used)(hg: ¬U g)(hg0:g≠0){X:Array Value}{cs:B7}(hx:Cs (aP C S β used hp w) X cs)(T:TypeId)(key:Nat){r:Result Next}(hr:r= .ok (.value (.pointer (some ⟨w.heap.size,0,none⟩))) (w.alloc (.cells X T))):
  Out1 P C U hp w S β used g {res:=.ref key g 0,wr:=[(key,some (g,.cells cs))]} r:=by
 obtain ⟨S',β',used',q1,q2,q3,q4⟩:=h.new hg hg0 key (.cells X T) ⟨w.heap.size,0,0,0,false⟩ (λ_=>rfl) (.cells cs) (λE l=>⟨rfl,FD (hx.mono l) (by simp)⟩)
 refine ⟨_,_,.inl hr,S',β',used',q1,q2,.ref _ _ _ _ ⟨_,_,rfl⟩ q4 λp hp'=>?_⟩
 grind [fF]
section
variable (h:Sit P C U hp w S β used g N ρ ev){o:Oper}{t:TypeId}
include h
theorem aev {x:Operand}{x':Opd}(ho:o.op= .box t x)(hx:aQ N x=some x'){key:Nat}{e:Eff}(he:aX (.box x') g key [ev x'] hp=some e):Out1 P C U hp w S β used g e ((execOp ρ o).run P w):=by
 have v1:=h.at_ x x' hx;simp only[aX] at he;cases hc:dM (ev x') with
 |none=>grind
 |some cs=>
  rw[hc] at he;obtain rfl:=Ad he;obtain ⟨c1,c2,c3⟩:=v1.cells hc;exact IZ h.hi h.fresh h.g0 (X:=(ρ x).cells) ⟨c1,c2,c3⟩ t key (by simp[execOp,ho,Instr.box,newVar,newRow])
theorem Xz {z:AV}(ho:o.op= .alloc t)(hz:kn P t=some z){key:Nat}{e:Eff}(he:aX (.alloc z) g key [] hp=some e):Out1 P C U hp w S β used g e ((execOp ρ o).run P w):=by
 obtain ⟨i,zv,h1,h2,h3⟩:=Gu (E:=aP C S β used hp w) hz;simp only[aX] at he;cases hc:dM z with
 |none=>grind
 |some cs=>
  rw[hc] at he;obtain rfl:=Ad he;obtain ⟨c1,c2,c3⟩:=h3.cells hc;exact IZ h.hi h.fresh h.g0 (X:=zv.cells) ⟨c1,c2,c3⟩ t key (by simp_all[execOp,Instr.alloc,newVar,newRow,rg])
end
structure Rs (E:Env)(s:Nat)(X:List Value)(es:B6):Prop where
 len:X.length=es.length*s
 each: ∀i,i<es.length->(es.getD i []).length=s
 one: ∀i,i<es.length-> ∀j,j<s->(X.getD (i*s+j) undef).oneCell'=true
 at_: ∀i,i<es.length-> ∀j,j<s->V E (X.getD (i*s+j) undef) ((es.getD i []).getD j .any)
theorem Rs.mono {E E':Env}(l:E.le E'){s:Nat}{X:List Value}{es:B6}(h:Rs E s X es):Rs E' s X es:=⟨h.len,h.each,h.one,λi hi j hj=>(h.at_ i hi j hj).mono l⟩
theorem Rs.nil (E:Env)(s:Nat):Rs E s [] []:=⟨by simp,by simp,by simp,by simp⟩
theorem Rs.append {E:Env}{s:Nat}{X Y:List Value}{es fs:B6}(h:Rs E s X es)(k:Rs E s Y fs):Rs E s (X++Y) (es++fs):=by
 have key: ∀i,i<es.length+fs.length-> ∀j,j<s->(i<es.length/\(X++Y).getD (i*s+j) undef=X.getD (i*s+j) undef/\(es++fs).getD i []=es.getD i [])∨
   (es.length<=i/\(X++Y).getD (i*s+j) undef=Y.getD ((i-es.length)*s+j) undef/\(es++fs).getD i []=fs.getD (i-es.length) []):=by
  intro i hi j hj
  by_cases hlt:i<es.length
  ·left
   have:i*s+j<X.length:=by
    rw[h.len]
    calc i*s+j<i*s+s:=by omega
     _=(i+1)*s:=by grind
     _<=es.length*s:=A4 _ hlt
   grind
  ·right
   have hge:X.length<=i*s+j:=by
    rw[h.len];have:es.length*s<=i*s:=A4 _ (by omega)
    omega
   refine ⟨by omega,?_,by grind⟩
   simp only[Ai,Be hge,h.len]
   congr 2
   rw[Nat.sub_mul];have:es.length*s<=i*s:=A4 _ (by omega)
   omega
 refine ⟨by simp[h.len,k.len,Nat.add_mul],λi hi=>?_,λi hi j hj=>?_,λi hi j hj=>?_⟩
 ·simp only[Ao] at hi
  by_cases hs:s=0
  ·by_cases hlt:i<es.length
   ·simp[Ai,List.getElem?_append_left hlt];simpa[Ai] using h.each i hlt
   ·simp[Ai,Be (Nat.le_of_not_lt hlt)];simpa[Ai] using k.each (i-es.length) (by omega)
  ·rcases key i hi 0 (by omega) with ⟨q,_,e⟩|⟨q,_,e⟩
   ·rw[e];exact h.each i q
   ·rw[e];exact k.each _ (by omega)
 ·simp only[Ao] at hi
  rcases key i hi j hj with ⟨q,e,_⟩|⟨q,e,_⟩
  ·rw[e];exact h.one i q j hj
  ·rw[e];exact k.one _ (by omega) j hj
 ·simp only[Ao] at hi
  rcases key i hi j hj with ⟨q,e,e2⟩|⟨q,e,e2⟩
  ·rw[e,e2];exact h.at_ i q j hj
  ·rw[e,e2];exact k.at_ _ (by omega) j hj
theorem SX {E:Env}{w:World}{Y:Array Value}{T:TypeId}{fr:Nat×Nat}{s cap:Nat}{X:List Value}{es:B6}(h:Rs E s X es)(hcap:es.length<=cap)(hsz:cap*s<=Y.size)(hY: ∀i,i<X.length->Y.getD i undef=X.getD i undef)(hf: ∀o,o<Y.size-> ¬(fr.1<=o/\o<fr.2)):BlkOk E (w.alloc (.cells Y T fr)) ⟨w.heap.size,0,cap,s,false⟩ (.vec s es):=by
 have hb:(w.alloc (.cells Y T fr)).heap[w.heap.size]? =some (.cells Y T fr):=by show (w.heap.push _)[w.heap.size]? =_;simp
 have hcell: ∀j,j<Y.size->(w.alloc (.cells Y T fr)).cell? ⟨w.heap.size,j,none⟩=some (Y.getD j undef)/\(w.alloc (.cells Y T fr)).frozen? ⟨w.heap.size,j,none⟩=false:=λj hj=>by
  simp_all[World.cell?,World.frozen?]
 have hlt: ∀i,i<es.length-> ∀j,j<s->i*s+j<X.length/\i*s+j<Y.size:=λi hi j hj=>by
  have h1:i*s+j<(i+1)*s:=by grind
  have h2:(i+1)*s<=es.length*s:=A4 _ hi;have h3:es.length*s<=cap*s:=A4 _ hcap;exact ⟨by rw[h.len];omega,by omega⟩
 refine ⟨rfl,h.each,hcap,(λhn=>by cases hn),λj hj=>?_,λi hi j hj=>?_⟩
 ·grind
 ·rw[h.each i hi] at hj
  obtain ⟨k1,k2⟩:=hlt i hi j hj;obtain ⟨q1,q2⟩:=hcell _ k2;simp only[A3];refine ⟨_,q1,q2,?_,?_⟩
  ·rw[hY _ k1];exact h.one i hi j hj
  ·rw[hY _ k1];exact h.at_ i hi j hj
theorem ub (h:HI C U hp w S β used)(hg: ¬U g)(hg0:g≠0){s cap:Nat}{X:List Value}{es:B6}(hx:Rs (aP C S β used hp w) s X es)(Y:Array Value)(T:TypeId)(fr:Nat×Nat)(key:Nat)(hcap:es.length<=cap)(hsz:cap*s<=Y.size)(hY: ∀i,i<X.length->Y.getD i undef=X.getD i undef)(hf: ∀o,o<Y.size-> ¬(fr.1<=o/\o<fr.2)):
  ∃S' β' used',HI C (Or1 U g) (up hp key (some (g,.vec s es))) (w.alloc (.cells Y T fr)) S' β' used'/\(aP C S β used hp w).le (aP C S' β' used' (up hp key (some (g,.vec s es))) (w.alloc (.cells Y T fr)))/\
   V (aP C S' β' used' (up hp key (some (g,.vec s es))) (w.alloc (.cells Y T fr))) (.slice (some ⟨w.heap.size,0,none⟩) es.length cap) (.vs key g es.length):=by
 obtain ⟨S',β',used',q1,q2,q3,q4⟩:=h.new hg hg0 key (.cells Y T fr) ⟨w.heap.size,0,cap,s,false⟩ (λ_=>rfl) (.vec s es) (λE l=>SX (hx.mono l) hcap hsz hY hf)
 refine ⟨S',β',used',q1,q2,.vs _ _ _ _ ⟨_,_,rfl⟩ q4 λp hp'=>?_⟩
 grind [fF,Place.base]
theorem WE (E:Env)(l:B5):Rs E 1 (l.map λb=>Value.int .u8 b.toNat) (byteCells l):=by
 refine ⟨by simp[byteCells],λi hi=>?_,λi hi j hj=>?_,λi hi j hj=>?_⟩<;>simp only[byteCells,As] at hi
 ·simp[byteCells,Ai,hi]
 ·grind [Value.oneCell']
 ·obtain rfl:j=0:=by omega
  simp[byteCells,Ai,hi];exact .int _ _
theorem CQ {α:Type}(n:Nat)(a d:α)(i:Nat)(h:i<n):(iV n a).getD i d=a:=by grind [iV]
theorem Ah {E:Env}{z:Array Value}{cs:B7}(h:Cs E z cs)(hs:cs.length≠0)(n:Nat):Rs E cs.length (madeCells z (n*cs.length)).toList (iV n cs):=by
 have hg: ∀i,i<n-> ∀j,j<cs.length->(madeCells z (n*cs.length)).toList.getD (i*cs.length+j) undef=z.getD j undef:=λi hi j hj=>by
  have hlt:i*cs.length+j<n*cs.length:=by
   have:(i+1)*cs.length<=n*cs.length:=A4 _ hi
   grind
  have hm:(i*cs.length+j) % cs.length=j:=by rw[Nat.mul_comm,Nat.mul_add_mod,Nat.mod_eq_of_lt hj]
  have hz:j<z.size:=by rw[h.len];exact hj
  simp only[madeCells,Array.toList_map,Array.toList_range,Ai,B3,List.getElem?_range hlt,Option.map_some,Option.getD_some,h.len,hm];simp_all
 have hl:(iV n cs).length=n:=by simp[iV]
 refine ⟨by simp[madeCells,iV],λi hi=>?_,λi hi j hj=>?_,λi hi j hj=>?_⟩<;>rw[hl] at hi
 ·grind [CQ]
 ·rw[hg i hi j hj];exact h.one j hj
 ·rw[hg i hi j hj,CQ _ _ _ _ hi];exact h.at_ j hj
theorem acH (h:Sit P C U hp w S β used g N ρ ev){o:Oper}{t el:TypeId}{n c:Operand}{n' c':Opd}{i:TypeInfo}{z:B7}(ho:o.op= .makeSlice t n c)(hu:P.underlying t=some (.slice el))(hi:P.info? el=some i)(hi0:i.size≠0)(hz:(kn P el).bind dM=some z)(hn:aQ N n=some n')(hc:aQ N c=some c'){key:Nat}{e:Eff}(he:aX (.mksl i.size i.bytes z n' c') g key [ev n',ev c'] hp=some e):Out1 P C U hp w S β used g e ((execOp ρ o).run P w):=by
 have v1:=h.at_ n n' hn;have v2:=h.at_ c c' hc;simp only[aX] at he;split at he
 ·rename_i a b ea eb
  rw[ea] at v1;rw[eb] at v2
  split at he
  ·rename_i hq
   obtain ⟨h0,hab,hzl,hroom⟩:=hq;obtain rfl:=Ad he;obtain ⟨i',zv,q1,q2,q3⟩:=rF (E:=aP C S β used hp w) hz;obtain rfl:i'=i:=by grind
   have hr:b.toNat* (i'.bytes+1)<=140737488355328:=by grind [nQ]
   rw[Nat.mul_add,Nat.mul_one] at hr;have ha:b=(b.toNat:Int):=by omega
   have hb:(i'.bytes:Int)*b<=281474976710656:=by
    grind
   have hrun:=run_make (P:=P) w t el i' zv hu q1 q2 .i64 .i64 a b h0 hab hb (by omega)
   rw[<-hzl] at hrun⊢;have hz0:z.length≠0:=by omega
   have hx:=Ah q3 hz0 a.toNat;have hle:a.toNat*z.length<=b.toNat*z.length:=A4 _ (by omega)
   obtain ⟨S',β',used',k1,k2,k3⟩:=ub h.hi h.fresh h.g0 (cap:=b.toNat) hx (madeCells zv.cells (b.toNat*z.length)) el (0,0) key (by grind [iV]) (by simp[madeCells]) (λi hi=>by
    have hi':i<a.toNat*z.length:=by grind [madeCells]
    have hi2:i<b.toNat*z.length:=by omega
    simp[madeCells,Aj,Ai,hi',hi2]) (by simp)
   rw[show (iV a.toNat z).length=a.toNat from by simp[iV]] at k3
   exact ⟨_,_,.inl (by simp[execOp,ho,v1.int_inv,v2.int_inv,hrun]),S',β',used',k1,k2,k3⟩
  grind
 grind
end
open Go.RowKit
theorem i7 (D:Cc)(hp:HF):hov (bW D) hp=dK hp D:=by
 induction D with
 |nil=>funext k;simp[bW,hov,dK]
 |cons d r ih=>
  funext k
  simp only[bW,hov,ih,up,dK,List.contains_cons]
  grind
section
variable {P:Program} {w:World} {E:Env}
theorem ad5 {n s i j i' j':Nat}(hj:j<s)(hj':j'<s)(h:i*s+j=i'*s+j'):i=i'/\j=j':=by
 grind [Nat.mul_comm,Nat.mul_add_div,Nat.div_eq_of_lt]
theorem Rs.put {C X:Array Value}{s:Nat}{z:B6}{cs:B7}(h:Rs E s C.toList z)(x:Cs E X cs)(hs:cs.length=s)(i:Nat)(hi:i<z.length):
  Rs E s (X.zipIdx.foldl (λcs (x:Value×Nat)=>cs.setIfInBounds (i*s+x.2) x.1) C).toList (z.set i cs):=by
 have e:X.zipIdx.foldl (λcs (x:Value×Nat)=>cs.setIfInBounds (i*s+x.2) x.1) C=(X.toList.zipIdx 0).foldl (λcs (x:Value×Nat)=>cs.setIfInBounds (i*s+x.2) x.1) C:=by
  rw[<-Array.foldl_toList,Array.toList_zipIdx]
 rw[e];have hxl:X.toList.length=s:=by have:=x.len;grind
 have hC:C.size=z.length*s:=by simpa using h.len
 have hin:i*s+s<=C.size:=by
  rw[hC];have:(i+1)*s<=z.length*s:=A4 _ hi
  grind
 obtain ⟨h1,h2⟩:=Bw (i*s) X.toList 0 C (by omega)
 have hg: ∀(Y:Array Value) j,Y.toList.getD j undef=Y.getD j undef:=λY j=>by simp_all
 have key: ∀i',i'<z.length-> ∀j,j<s->((X.toList.zipIdx 0).foldl (λcs (x:Value×Nat)=>cs.setIfInBounds (i*s+x.2) x.1) C).toList.getD (i'*s+j) undef=if i'=i then X.getD j undef else C.toList.getD (i'*s+j) undef:=by
  intro i' hi' j hj;rw[hg,h2,hxl];simp only[Nat.add_zero]
  by_cases e:i'=i
  ·subst e
   rw[Ac ⟨by omega,by omega⟩,Ac rfl,hg]
   congr 1;omega
  ·have hni: ¬(i*s<=i'*s+j/\i'*s+j<i*s+s):=by
    rintro ⟨q1,q2⟩
    obtain ⟨j',hj',e2⟩: ∃j',j'<s/\i'*s+j=i*s+j':=⟨i'*s+j-i*s,by omega,by omega⟩
    exact e (ad5 (n:=0) hj hj' e2).1
   rw[Aa hni,Aa e,hg]
 have hset: ∀i',i'<z.length->(z.set i cs).getD i' []=if i'=i then cs else z.getD i' []:=λi' _=>sX z i cs i' [] hi
 refine ⟨by grind,λi' hi'=>?_,λi' hi' j hj=>?_,λi' hi' j hj=>?_⟩<;>simp only[List.length_set] at hi'
 ·rw[hset i' hi'];split
  ·exact hs
  ·exact h.each i' hi'
 ·rw[key i' hi' j hj];split
  ·exact x.one j (by omega)
  ·exact h.one i' hi' j hj
 ·rw[key i' hi' j hj,hset i' hi'];split
  ·exact x.at_ j (by omega)
  ·exact h.at_ i' hi' j hj
theorem xd {s:Nat}: ∀(is:Cc)(vs:List Value)(as:B7)(C:Array Value)(z r:B6),vs.length=as.length->(∀i,i<as.length->V E (vs.getD i undef) (as.getD i .any))->
  Rs E s C.toList z->l9 s z is as=some r->is.length=vs.length-> ∃C',Instr.fill (λi=>some (i*s,s)) C (is.zip vs)=some C'/\Rs E s C'.toList r/\r.length=z.length
 | [],vs,as,C,z,r,h2,h3,h4,h5,h6=>by
  obtain rfl:vs= []:=AD h6.symm;obtain rfl:as= []:=AD h2.symm;obtain rfl:z=r:=by grind [l9]
  exact ⟨C,rfl,h4,rfl⟩
 |i::is,v::vs,a::as,C,z,r,h2,h3,h4,h5,h6=>by
  simp only[l9] at h5;cases hc:dM a with
  |none=>grind
  |some cs=>
   rw[hc] at h5;dsimp only at h5;split at h5
   ·rename_i hl
    have v0:=h3 0 (by simp)
    simp only[List.getD_cons_zero] at v0;obtain ⟨c1,c2,c3⟩:=v0.cells hc;have hx:Cs E v.cells cs:=⟨c1,c2,c3⟩;have hp:=h4.put hx hl.1 i hl.2;obtain ⟨C',g1,g2,g3⟩:=xd is vs as _ _ r (by grind) (λi hi=>by simpa using h3 (i+1) (by grind)) hp h5 (by grind)
    refine ⟨C',?_,g2,by grind⟩
    have hC:C.size=z.length*s:=by simpa using h4.len
    have hin:i*s+s<=C.size:=by
     rw[hC];have:(i+1)*s<=z.length*s:=A4 _ hl.2
     grind
    grind [List.zip_cons_cons,Instr.fill]
   grind
 |_::_,[],_,_,_,_,_,_,_,_,h6=>by simp at h6
 |_::_,_::_,[],_,_,_,h2,_,_,_,_=>by simp at h2
end
section
variable {P:Program} {C:Ctx} {U:Nat->Prop} {hp:HF} {w:World} {S:Nat->Prop} {β:Nat->Place} {used:Nat->Nat->Prop} {g:Nat} {N:Nums} {ρ:Operand->Value} {ev:Opd->AV}
theorem HI.frz' (h:HI C U hp w S β used)(D:Cc): ∃S1,HI C U (dK hp D) w S1 β used/\(aP C S β used hp w).le (aP C S1 β used (dK hp D) w)/\RenOk (aP C S β used hp w) (aP C S1 β used (dK hp D) w) (j6 hp D):=
 ⟨_,(h.drop D).1,(h.drop D).2,h.frz D⟩
theorem aeu (h:Sit P C U hp w S β used g N ρ ev){o:Oper}{t el:TypeId}{n s:Nat}{parts:Array (Nat×Operand)}{z:B7}{xs:Do}(ho:o.op= .buildSlice t n parts)(hu:P.underlying t=some (.slice el))(hs:fd P el=some s)(hz:(kn P el).bind dM=some z)(hs0:s≠0)(hx:dX (aQ N) (parts.toList.map (·.2))=some xs){key:Nat}{e:Eff}(he:aX (.bsl s z n (parts.toList.map (·.1)) xs) g key (xs.map ev) hp=some e):Out1 P C U hp w S β used g e ((execOp ρ o).run P w):=by
 obtain ⟨q1,q2⟩:=h.list _ _ hx;obtain ⟨i,zv,z1,z2,_⟩:=rF (E:=aP C S β used hp w) hz
 have hzc: ∀E,Cs E zv.cells z:=λE=>by
  obtain ⟨i',zv',y1,y2,y3⟩:=rF (E:=E) hz
  grind
 have hrun: ∀C':Array Value,n*s<=2^24->Instr.fill (λi=>some (i*s,s)) (madeCells zv.cells (n*s)) ((parts.toList.map (·.1)).zip ((parts.toList.map (·.2)).map ρ))=some C'->
   (execOp ρ o).run P w= .ok (.value (.slice (some ⟨w.heap.size,0,none⟩) n n)) (w.alloc (.cells C' el)):=λC' hn hf=>by
  have hf':Instr.fill (λi=>some (i*s,s)) ((Array.range (n*s)).map (zv.cells[· % zv.cells.size]!)) (parts.map λ(i,x)=>(i,ρ x)).toList=some C':=by rw[Da];exact hf
  have hn': ¬(n*s>2^24):=by omega
  have hb:(Instr.buildSlice t n (parts.map λ(i,x)=>(i,ρ x))).run P w= .ok (.slice (some ⟨w.heap.size,0,none⟩) n n) (w.alloc (.cells C' el)):=by
   simp only[Instr.buildSlice,Sem.run_bind,run_underlying hu,Result.andThen_ok,fT hs,Aa hn',Sem.run_pure]
   by_cases h0:n*s=0
   ·have hm:(Array.range (n*s)).map ((#[]:Array Value)[· % (#[]:Array Value).size]!)=madeCells zv.cells (n*s):=by grind [madeCells]
    simp_all[madeCells,Array.range,newRow]
   simp_all[rg,newRow]
  simp_all[execOp]
 simp only[aX] at he;split at he
 case isFalse=>cases he
 rename_i hc;obtain ⟨hn,rfl⟩:=hc;have hrl:(iV n z).length=n:=by simp[iV]
 split at he
 ·cases hf:l9 z.length (iV n z) (parts.toList.map (·.1)) (xs.map ev) with
  |none=>grind
  |some es=>
   rw[hf] at he;obtain rfl:=Ad he;obtain ⟨C',g1,g2,g3⟩:=xd (E:=aP C S β used hp w) (parts.toList.map (·.1)) ((parts.toList.map (·.2)).map ρ) (xs.map ev) _ _ es (by grind) (λi hi=>q2 i (by grind)) (Ah (hzc _) hs0 n) hf (by simp)
   rw[hrl] at g3;have hC':C'.size=n*z.length:=by have:=g2.len;grind
   obtain ⟨S',β',used',k1,k2,k3⟩:=ub h.hi h.fresh h.g0 (cap:=n) g2 C' el (0,0) key (by omega) (by omega) (λi hi=>by simp_all) (by simp)
   rw[g3] at k3;exact ⟨_,_,.inl (hrun C' hn g1),S',β',used',k1,k2,k3⟩
 ·rename_i D hD
  cases hf:l9 z.length (iV n z) (parts.toList.map (·.1)) (dT (j6 hp (cm true (xs.map ev))) (xs.map ev)) with
  |none=>grind
  |some es=>
   rw[hf] at he;obtain rfl:=Ad he;obtain ⟨S1,d1,d2,dr⟩:=h.hi.frz' (cm true (xs.map ev))
   obtain ⟨C',g1,g2,g3⟩:=xd (parts.toList.map (·.1)) ((parts.toList.map (·.2)).map ρ) (dT (j6 hp (cm true (xs.map ev))) (xs.map ev)) _ _ es (by grind [bH])
    (λi hi=>by rw[gW];exact (q2 i (by grind [bH])).ren dr) (Ah (hzc _) hs0 n) hf (by simp)
   rw[hrl] at g3;have hC':C'.size=n*z.length:=by have:=g2.len;grind
   obtain ⟨S',β',used',k1,k2,k3⟩:=ub d1 h.fresh h.g0 (cap:=n) g2 C' el (0,0) key (by omega) (by omega) (λi hi=>by simp_all) (by simp)
   rw[g3] at k3;refine ⟨_,_,.inl (hrun C' hn g1),S',β',used',?_,?_,?_⟩
   ·grind [hov,i7]
   ·simp only[hov,i7];exact d2.trans k2
   grind [hov,i7]
theorem LX {t:TypeId}{s:Nat}(hs:fd P t=some s){x:Value}(hx:x.cells.size=s)(h1: ∀i,i<s->(x.cells.getD i undef).oneCell'=true){b o:Nat}(hc: ∀j,j<s->(w.cell? ⟨b,o+j,none⟩).isSome=true/\w.frozen? ⟨b,o+j,none⟩=false):
  (storeVar t ⟨b,o,none⟩ x).run P w= .ok () (w.setCells b o x.cells.toList):=by
 have hst:=run_storeCells_cells (P:=P) b o x.cells.toList 0 w (λj hj=>by grind) (λj hj=>by grind) (λv hv=>by
  obtain ⟨i,hi,rfl⟩:=List.getElem_of_mem hv;have:=h1 i (by grind)
  simpa[Array.getD,show i<x.cells.size by grind] using this)
 simp_all[storeVar,fT]
theorem vZ (b o:Nat)(vs:List Value)(hc: ∀j,j<vs.length->(w.cell? ⟨b,o+j,none⟩).isSome=true)(i:Nat):
  (w.setCells b o vs).cell? ⟨b,i,none⟩=if o<=i/\i<o+vs.length then some (vs.getD (i-o) undef) else w.cell? ⟨b,i,none⟩:=by
 grind [World.cell?_setCells_in,World.cell?_setCells_out]
theorem nj {E:Env}{b o:Nat}{old:B7}(h:CellsOk E w b o old){x:Array Value}{cs:B7}(hx:Cs E x cs)(off:Nat)(hl:off+cs.length<=old.length):
  CellsOk E (w.setCells b (o+off) x.toList) b o (dw old off cs):=λj hj=>by
 rw[jk _ _ _ hl] at hj;have hxl:x.toList.length=cs.length:=by simpa using hx.len
 have hc: ∀j,j<x.toList.length->(w.cell? ⟨b,o+off+j,none⟩).isSome=true:=λj hj=>by
  obtain ⟨u,h1,_⟩:=h (off+j) (by omega)
  grind
 obtain ⟨u,h1,h2,h3,h4⟩:=h j hj;rw[vZ b (o+off) x.toList hc,World.frozen?_setCells,vY _ _ _ hl,hxl]
 by_cases hin:off<=j/\j<off+cs.length
 ·rw[Ac (by omega),Ac hin]
  refine ⟨_,rfl,h2,?_,?_⟩<;>rw[show o+j- (o+off)=j-off from by omega]
  ·have:=hx.one (j-off) (by omega);simp_all
  ·have:=hx.at_ (j-off) (by omega);simp_all
 grind
theorem CellsOk.apart {E:Env}{b o o':Nat}{cs:B7}(h:CellsOk E w b o cs)(vs:List Value)(hap:o+cs.length<=o'∨o'+vs.length<=o):CellsOk E (w.setCells b o' vs) b o cs:=λj hj=>by
 obtain ⟨u,h1,h2,h3,h4⟩:=h j hj
 grind [World.frozen?_setCells,World.cell?_setCells_out]
theorem CellsOk.le' {E E':Env}(l:E.le E'){b o:Nat}{cs:B7}(h:CellsOk E w b o cs):CellsOk E' w b o cs:=h.mono l (.refl _ _)
theorem zT {E:Env}{p:Place}{s:Nat}{es:B6}(h:BlkOk E w p (.vec s es)){i off:Nat}{x:Array Value}{cs:B7}(hx:Cs E x cs)(hi:i<es.length)(hl:off+cs.length<=s):
  BlkOk E (w.setCells p.blk (p.off+i*s+off) x.toList) p (.vec s (es.set i (dw (es.getD i []) off cs))):=by
 obtain ⟨h1,h2,h3,h4,h5,h6⟩:=h;have hxl:x.toList.length=cs.length:=by simpa using hx.len
 have hei:(es.getD i []).length=s:=h2 i hi;refine ⟨h1,λj hj=>?_,by grind,λhn=>?_,λj hj=>?_,λj hj=>?_⟩
 ·grind [jk]
 ·grind
 ·grind [World.isSome_setCells,World.frozen?_setCells]
 ·rw[List.length_set] at hj
  rw[sX _ _ _ _ _ hi];split
  ·rename_i e;subst e
   exact nj (h6 j hi) hx off (by omega)
  ·rename_i hne
   refine (h6 j hj).apart _ ?_;rw[h2 j hj,hxl];rcases Nat.lt_or_gt_of_ne hne with q|q
   ·left
    have:(j+1)*s<=i*s:=A4 _ q
    grind
   ·right
    have:(i+1)*s<=j*s:=A4 _ q
    grind
theorem BlkOk.le' {E E':Env}(l:E.le E'){p:Place}{b:Blk}(h:BlkOk E w p b):BlkOk E' w p b:=h.mono l λ_=>.refl _ _
theorem Xp (h:Sit P C U hp w S β used g N ρ ev){o:Oper}{t:TypeId}{a x:Operand}{a' x':Opd}{s:Nat}(ho:o.op= .store t a x)(hs:fd P t=some s)(ha:aQ N a=some a')(hx:aQ N x=some x'){key:Nat}{e:Eff}(he:aX (.store s a' x') g key [ev a',ev x'] hp=some e):Out1 P C U hp w S β used g e ((execOp ρ o).run P w):=by
 have v1:=h.at_ a a' ha;have v2:=h.at_ x x' hx
 have hrun: ∀b q,ρ a= .pointer (some ⟨b,q,none⟩)->(ρ x).cells.size=s->(∀i,i<s->((ρ x).cells.getD i undef).oneCell'=true)->(∀j,j<s->(w.cell? ⟨b,q+j,none⟩).isSome=true/\w.frozen? ⟨b,q+j,none⟩=false)->
   (execOp ρ o).run P w= .ok .skip (w.setCells b q (ρ x).cells.toList):=λb q e1 e2 e3 e4=>by
  simp_all[execOp,Instr.storeAt,Instr.sureAddr,LX]
 simp only[aX] at he;cases hc:dM (ev x') with
 |none=>grind
 |some cs=>
  rw[hc] at he;dsimp only at he;obtain ⟨c1,c2,c3⟩:=v2.cells hc;have hcs:Cs (aP C S β used hp w) (ρ x).cells cs:=⟨c1,c2,c3⟩;split at he
  case isFalse=>cases he
  rename_i hlen;split at he
  ·rename_i k g' q hv
   rw[hv] at v1;cases hk:hp k with
   |none=>grind
   |some zz=>
    obtain ⟨g'',b⟩:=zz;rw[hk] at he;cases b with
    |vec=>cases he
    |mp=>cases he
    |cells old=>
     dsimp only at he;split at he
     case isFalse=>cases he
     rename_i hgg;subst hgg
     split at he
     case isFalse=>cases he
     rename_i hle;obtain rfl:=Ad he;obtain ⟨u1,u2,u3⟩:=h.hi.at_ k g'' _ hk;obtain ⟨_,_,hx'⟩:=v1.ref_inv;have e1:=hx' _ (bA hk);obtain ⟨hnn,hco⟩:=u3
     have hr:=hrun (β k).blk ((β k).off+q) e1 (by omega) (λi hi=>c2 i (by omega)) (λj hj=>by
      obtain ⟨u,y1,y2,_⟩:=hco (q+j) (by omega)
      grind)
     obtain ⟨used',k1,k2,k3⟩:=h.hi.write hk hnn ((β k).off+q) (ρ x).cells.toList g'' (.cells (dw old q cs)) (.inl rfl) (λE l=>⟨hnn,nj (hco.le' l) (hcs.mono l) q (by omega)⟩)
     exact ⟨undef,_,.inr ⟨hr,rfl⟩,S,β,used',k1.wide (λy hy=>hy.elim .inl λe=>.inl (e▸h.hi.us _ _ u1)),k2,.any _⟩
  ·rename_i k g' i q hv
   rw[hv] at v1;cases hk:hp k with
   |none=>grind
   |some zz=>
    obtain ⟨g'',b⟩:=zz;rw[hk] at he;cases b with
    |cells=>cases he
    |mp=>cases he
    |vec sz es=>
     dsimp only at he;split at he
     case isFalse=>cases he
     rename_i hgg;subst hgg
     split at he
     case isFalse=>cases he
     rename_i hle;obtain ⟨u1,u2,u3⟩:=h.hi.at_ k g'' _ hk;obtain ⟨_,_,hx'⟩:=v1.er_inv;have e1:=hx' _ (bA hk);obtain ⟨h1,h2,h3,h4,h5,h6⟩:=u3
     have hnn:(β k).isNil=false:=by
      grind
     have hr:=hrun (β k).blk ((β k).off+i*sz+q) (by grind) (by omega) (λi hi=>c2 i (by omega)) (λj hj=>by
      obtain ⟨u,y1,y2,_⟩:=h6 i hle.1 (q+j) (by rw[h2 i hle.1];omega)
      rw[show (β k).off+i*sz+q+j=(β k).off+i*sz+(q+j) from by omega,y1];exact ⟨rfl,y2⟩)
     split at he
     ·obtain rfl:=Ad he
      obtain ⟨used',k1,k2,k3⟩:=h.hi.write hk hnn ((β k).off+i*sz+q) (ρ x).cells.toList g'' (.vec sz (es.set i (dw (es.getD i []) q cs))) (.inl rfl)
       (λE l=>zT (BlkOk.le' l (b:=.vec sz es) ⟨h1,h2,h3,h4,h5,h6⟩) (hcs.mono l) hle.1 (by omega))
      exact ⟨undef,_,.inr ⟨hr,rfl⟩,S,β,used',k1.wide (λy hy=>hy.elim .inl λe=>.inl (e▸h.hi.us _ _ u1)),k2,.any _⟩
     ·cases hD:(cm true cs).contains k with
      |true=>grind
      |false=>
       rw[hD,cond_false] at he;cases hK:(rn hp (cm true cs)||w7 (((es.getD i []).drop q).take cs.length) (cm true cs)) with
       |true=>
        rw[hK,cond_true] at he;obtain rfl:=Ad he
        obtain ⟨used',k1,k2,k3⟩:=h.hi.write hk hnn ((β k).off+i*sz+q) (ρ x).cells.toList g'' (.vec sz (es.set i (dw (es.getD i []) q cs))) (.inl rfl)
                  (λE l=>zT (BlkOk.le' l (b:=.vec sz es) ⟨h1,h2,h3,h4,h5,h6⟩) (hcs.mono l) hle.1 (by omega))
        exact ⟨undef,_,.inr ⟨hr,rfl⟩,S,β,used',k1.wide (λy hy=>hy.elim .inl λe=>.inl (e▸h.hi.us _ _ u1)),k2,.any _⟩
       |false=>
       rw[hK,cond_false] at he;obtain rfl:=Ad he;obtain ⟨S1,d1,d2,dr⟩:=h.hi.frz' (cm true cs);have hk':dK hp (cm true cs) k=some (g'',.vec sz es):=by grind [dK]
       have hcs':=λ(j:Nat) (hj:j<(dT (j6 hp (cm true cs)) cs).length)=>(by rw[gW];exact (hcs.at_ j (by rwa [bH] at hj)).ren dr:V _ ((ρ x).cells.getD j undef) ((dT (j6 hp (cm true cs)) cs).getD j .any))
       obtain ⟨used',k1,k2,k3⟩:=d1.write hk' hnn ((β k).off+i*sz+q) (ρ x).cells.toList g'' (.vec sz (es.set i (dw (es.getD i []) q (dT (j6 hp (cm true cs)) cs)))) (.inl rfl)
        (λE l=>zT (BlkOk.le' (d2.trans l) (b:=.vec sz es) ⟨h1,h2,h3,h4,h5,h6⟩) (x:=(ρ x).cells) ⟨by rw[bH];exact c1,λi hi=>c2 i (by rwa [bH] at hi),λj hj=>(hcs' j hj).mono l⟩ hle.1 (by rw[bH];omega))
       refine ⟨undef,_,.inr ⟨hr,rfl⟩,S1,β,used',?_,?_,.any _⟩
       ·simp only[hov,i7]
        exact k1.wide (λy hy=>hy.elim .inl λe=>.inl (e▸h.hi.us _ _ u1))
       ·simp only[hov,i7];exact d2.trans k2
  grind
end
open Go.RowKit
section
variable {P:Program} {C:Ctx} {U:Nat->Prop} {hp:HF} {w:World} {S:Nat->Prop} {β:Nat->Place} {used:Nat->Nat->Prop} {g:Nat} {N:Nums} {ρ:Operand->Value} {ev:Opd->AV}
def RowAt (E:Env)(w:World)(b o s:Nat)(es:B6):Prop:=
 ∀i,i<es.length->(es.getD i []).length=s/\ ∀j,j<s-> ∃u,w.cell? ⟨b,o+i*s+j,none⟩=some u/\u.oneCell'=true/\V E u ((es.getD i []).getD j .any)
theorem RowAt.rs {E:Env}{b o s:Nat}{es:B6}(h:RowAt E w b o s es):
  ∃news:List Value,Rs E s news es/\ ∀m,m<es.length*s->w.cell? ⟨b,o+m,none⟩=some (news.getD m undef):=by
 let f:Nat->Value:=λm=>(w.cell? ⟨b,o+m,none⟩).getD undef
 have hf: ∀i,i<es.length-> ∀j,j<s->w.cell? ⟨b,o+(i*s+j),none⟩=some (f (i*s+j))/\(f (i*s+j)).oneCell'=true/\V E (f (i*s+j)) ((es.getD i []).getD j .any):=λi hi j hj=>by
  obtain ⟨u,q1,q2,q3⟩:=(h i hi).2 j hj
  grind
 have hlt: ∀i,i<es.length-> ∀j,j<s->i*s+j<es.length*s:=λi hi j hj=>by
  have:(i+1)*s<=es.length*s:=A4 _ hi
  grind
 have hg: ∀m,m<es.length*s->((List.range (es.length*s)).map f).getD m undef=f m:=λm hm=>by grind
 refine ⟨(List.range (es.length*s)).map f,⟨by simp,λi hi=>(h i hi).1,λi hi j hj=>?_,λi hi j hj=>?_⟩,λm hm=>?_⟩
 ·grind
 ·grind
 ·have hs:0<s:=by grind
  have h1:m/ s<es.length:=Nat.div_lt_of_lt_mul (by grind)
  have h2:m/ s*s+m % s=m:=by grind [Nat.div_add_mod]
  rw[hg m hm];have:=(hf (m/ s) h1 (m % s) (Nat.mod_lt _ hs)).1;rwa [h2] at this
theorem Rs.flat {E:Env}{s:Nat}{X:List Value}{es:B6}(h:Rs E s X es): ∀u∈X,u.oneCell'=true:=by
 intro u hu;obtain ⟨m,hm,rfl⟩:=List.getElem_of_mem hu;have hm':m<es.length*s:=by rw[<-h.len];exact hm
 have hs:0<s:=by grind
 have h1:m/ s<es.length:=Nat.div_lt_of_lt_mul (by grind)
 have h2:m/ s*s+m % s=m:=by grind [Nat.div_add_mod]
 have:=h.one (m/ s) h1 (m % s) (Nat.mod_lt _ hs)
 grind
section
variable {E:Env}{tx e':TypeId}(hk:P.underlying tx=some (.slice e'))
include hk
theorem Wy {b o s n c:Nat}{es:B6}(hn:n=es.length)(h:RowAt E w b o s es): ∃news,Rs E s news es/\Src P s tx (.slice (some ⟨b,o,none⟩) n c) n news w:=by
 obtain ⟨news,h1,h2⟩:=h.rs;refine ⟨news,h1,Src.ofSlice w hk ⟨b,o,none⟩ n c news (by rw[h1.len,hn]) (λj u hu=>?_) h1.flat⟩
 have hj:j<news.length:=by
  grind
 rw[Addr.add_lit,h2 j (by rw[<-h1.len];exact hj),Ai,hu];rfl
theorem Th (s:Nat)(ao:Option Addr)(c:Nat):Src P s tx (.slice ao 0 c) 0 [] w:=by
 cases ao<;>grind [Src.ofNil,Src.ofSlice]
end
theorem GC {tx:TypeId}(hk:(∃e',P.underlying tx=some (.slice e'))∨P.underlying tx=some .string){s:Nat}{x:Value}{n:Nat}{news:List Value}{t0:TypeId}(h:Src P s t0 x n news w):Src P s tx x n news w:=⟨hk,h.len,h.cells,h.cellsD,h.newsLen,h.one⟩
theorem VU (h:HI C U hp w S β used){v:Value}{a:AV}(hv:V (aP C S β used hp w) v a){s:Nat}{ys:B6}{r:Cc}(hc:aX.appSrc hp s a=some (ys,r)){tx:TypeId}(hk:(∃e',P.underlying tx=some (.slice e'))∨P.underlying tx=some .string)(hd: ∃t0 e',P.underlying t0=some (.slice e')): ∃news,Rs (aP C S β used hp w) s news ys/\Src P s tx v ys.length news w:=by
 obtain ⟨t0,e',hk0⟩:=hd
 have fin: ∀ao c,v= .slice ao ys.length c->(∀i,i<ys.length->(ys.getD i []).length=s)->(ys≠ []-> ∃b o,ao=some ⟨b,o,none⟩/\ ∀i,i<ys.length-> ∀j,j<s-> ∃u,w.cell? ⟨b,o+i*s+j,none⟩=some u/\u.oneCell'=true/\V (aP C S β used hp w) u ((ys.getD i []).getD j .any))->
   ∃news,Rs (aP C S β used hp w) s news ys/\Src P s tx v ys.length news w:=by
  intro ao c e1 hl hne;subst e1;cases hys:ys with
  |nil=>exact ⟨[],.nil _ _,GC hk (Th hk0 s ao c)⟩
  |cons y r=>
   rw[<-hys];obtain ⟨b,o,rfl,q⟩:=hne (by grind)
   obtain ⟨news,k1,k2⟩:=Wy (P:=P) hk0 (c:=c) rfl (λi hi=>⟨hl i hi,q i hi⟩:RowAt (aP C S β used hp w) w b o s ys)
   grind [GC]
 have viaElems:dH hp a=some (ys,r)->(∀i,i<ys.length->(ys.getD i []).length=s)-> ∃news,Rs (aP C S β used hp w) s news ys/\Src P s tx v ys.length news w:=λhe hl=>by
  obtain ⟨ao,c,s0,e1,hcap,hs0,hne⟩:=zo h hv he;refine fin ao c e1 hl λhys=>?_
  grind
 cases a with
 |str l=>
  simp only[aX.appSrc] at hc;split at hc
  ·rename_i h1
   obtain ⟨e0,_⟩:byteCells l=ys/\[]=r:=by grind
   rw[h1,<-e0];have e1:=hv.str_inv;subst e1;have hb:=Go.firstCells_string (P:=P) ⟨l.toArray⟩;have hsz:(⟨l.toArray⟩:ByteArray).size=l.length:=by show l.toArray.size=_;simp
   have hbl:(byteCells l).length=l.length:=by simp[byteCells]
   have hbc:Go.byteCells ⟨l.toArray⟩=l.map λb=>Value.int .u8 b.toNat:=rfl
   rw[hsz,hbc] at hb;have hrs:=WE (aP C S β used hp w) l;refine ⟨_,hrs,hk,λw'=>?_,?_,?_,by grind,hrs.flat⟩
   ·rw[hbl];simp[Builtin.lenOf,hsz]
   all_goals grind
  grind
 |sl s' es=>
  simp only[aX.appSrc] at hc;split at hc
  ·rename_i h1;subst h1
   obtain ⟨rfl,rfl⟩:es=ys/\[]=r:=by grind
   obtain ⟨_,_,_,_,_,hs',_⟩:=hv.sl_inv;exact viaElems rfl hs'
  grind
 |con x=>
  unfold aX.appSrc at hc;split at hc<;>first|(rename_i e2;cases e2;done)|cases hc|skip
  rename_i e2;cases e2
  exact viaElems rfl (by simp)
 |vs k g' n=>
  simp only[aX.appSrc] at hc;cases hkk:hp k with
  |none=>grind
  |some z=>
   obtain ⟨g'',b⟩:=z;rw[hkk] at hc;cases b with
   |cells=>cases hc
   |mp=>cases hc
   |vec s' es=>
    dsimp only at hc;split at hc
    ·rename_i hq
     obtain ⟨rfl,rfl⟩:=hq;split at hc
     ·rename_i hn
      obtain ⟨rfl,rfl⟩:es.take n=ys/\[k]=r:=by grind
      obtain ⟨_,h2,_⟩:=(h.at_ k g'' _ hkk).2.2
      grind [dH]
     grind
    grind
 |vw k g' o n=>
  simp only[aX.appSrc] at hc;cases hkk:hp k with
  |none=>grind
  |some z=>
   obtain ⟨g'',b⟩:=z;rw[hkk] at hc;cases b with
   |cells=>cases hc
   |mp=>cases hc
   |vec s' es=>
    dsimp only at hc;split at hc
    ·rename_i hq
     obtain ⟨rfl,rfl⟩:=hq;split at hc
     ·rename_i hn
      obtain ⟨rfl,rfl⟩:(es.drop o).take n=ys/\[k]=r:=by grind
      obtain ⟨_,h2,_⟩:=(h.at_ k g'' _ hkk).2.2
      grind [dH,qr,uw]
     grind
    grind
 |_=>grind [aX.appSrc]
theorem OQ {E:Env}{p:Place}{s:Nat}{es:B6}(h:BlkOk E w p (.vec s es)){news:List Value}{ys:B6}(hx:Rs E s news ys){n:Nat}(hn:n<=es.length)(hfit:n+ys.length<=p.cap)(hnn:p.isNil=false):
  BlkOk E (w.setCells p.blk (p.off+n*s) news) p (.vec s (es.take n++ys)):=by
 obtain ⟨h1,h2,h3,h4,h5,h6⟩:=h;have hl:(es.take n++ys).length=n+ys.length:=by grind
 have aY: ∀i,i<n+ys.length->(i<n/\(es.take n++ys).getD i []=es.getD i [])∨(n<=i/\(es.take n++ys).getD i []=ys.getD (i-n) []):=λi hi=>by
  grind
 have hin:(n+ys.length)*s<=p.cap*s:=A4 _ hfit;rw[Nat.add_mul] at hin
 have hc: ∀j,j<news.length->(w.cell? ⟨p.blk,p.off+n*s+j,none⟩).isSome=true:=λj hj=>by
  rw[hx.len] at hj;have:=(h5 (n*s+j) (by omega)).1
  grind
 refine ⟨h1,λi hi=>?_,by grind,(λq=>by grind),λj hj=>?_,λi hi=>?_⟩
 ·rw[hl] at hi
  rcases aY i hi with ⟨q,e⟩|⟨q,e⟩<;>rw[e]
  ·grind
  ·exact hx.each _ (by omega)
 ·grind [World.isSome_setCells,World.frozen?_setCells]
 ·rw[hl] at hi
  rcases aY i hi with ⟨q,e⟩|⟨q,e⟩<;>rw[e]
  ·refine (h6 i (by omega)).apart _ (.inl ?_)
   rw[h2 i (by omega)]
   have:(i+1)*s<=n*s:=A4 _ q
   grind
  ·intro j hj
   rw[hx.each _ (by omega)] at hj
   have hm:(i-n)*s+j<ys.length*s:=by
    have:(i-n+1)*s<=ys.length*s:=A4 _ (by omega)
    grind
   have hsub:i*s=n*s+(i-n)*s:=by rw[<-Nat.add_mul];grind
   have hfr:=(h5 (i*s+j) (by omega)).2
   refine ⟨news.getD ((i-n)*s+j) undef,?_,?_,hx.one _ (by omega) j hj,hx.at_ _ (by omega) j hj⟩
   ·rw[vZ _ _ _ hc,Ac (by rw[hx.len];omega)]
    congr 2;omega
   grind [World.frozen?_setCells]
theorem Ue (h:Sit P C U hp w S β used g N ρ ev){o:Oper}{c:Call}{t u el:TypeId}{x y:Operand}{x' y':Opd}{i:TypeInfo}(ho:o.op= .call c)(hc:c.callee= .builtin .append)(hargs:c.args= #[x,y])(hts:c.argTypes= #[t,u])(hu:P.underlying t=some (.slice el))(hi:P.info? el=some i)(hz:(i.zero.map (·.cells.size))=some i.size)(hi0:i.size≠0)(hk:(∃e',P.underlying u=some (.slice e'))∨P.underlying u=some .string)(hx:aQ N x=some x')(hy:aQ N y=some y'){key:Nat}{e:Eff}(he:aX (.app i.size i.bytes x' y') g key [ev x',ev y'] hp=some e):Out1 P C U hp w S β used g e ((execOp ρ o).run P w):=by
 have v1:=h.at_ x x' hx;have v2:=h.at_ y y' hy
 obtain ⟨z,hz,hzs⟩: ∃z,i.zero=some z/\z.cells.size=i.size:=by
  simp_all
 have hop: ∀w' v,(Builtin.append_ #[t,u] o.type #[ρ x,ρ y]).run P w= .ok v w'->(execOp ρ o).run P w= .ok (.value v) w':=λw' v hr=>by
  simp[execOp,ho,resolve,hc,hargs,hts,invoke,builtin,hr]
 simp only[aX] at he;cases hs:aX.appSrc hp i.size (ev y') with
 |none=>grind
 |some yr=>
  obtain ⟨ys,r⟩:=yr;rw[hs] at he;dsimp only at he;obtain ⟨news,n1,n2⟩:=VU h.hi v2 hs hk ⟨t,el,hu⟩
  have hroomOf: ∀n,nQ n i.bytes=true->n*i.bytes<=140737488355328/\n<=140737488355328:=λn hr=>by
   grind [nQ]
  split at he
  ·rename_i hv
   rw[hv] at v1;have e1:=v1.con_inv;split at he
   case isFalse=>cases he
   rename_i hroom;obtain rfl:=Ad he;obtain ⟨hb1,hb2⟩:=hroomOf _ hroom;cases hys:ys with
   |nil=>
    subst hys;have hn0:news= []:=AD (by rw[n1.len];simp)
    subst hn0;have hr:=run_append_nothing (P:=P) w t u o.type el i hu hi none 0 0 (A7 0) (ρ y) n2;obtain ⟨S',β',used',k1,k2,k3,k4⟩:=h.hi.newNil h.fresh h.g0 key i.size;refine ⟨_,_,.inl (hop _ _ (by rw[e1];exact hr)),S',β',used',k1,k2,.vs _ _ _ _ ⟨_,_,rfl⟩ k4 λp hp'=>?_⟩
    obtain ⟨b,_,rfl⟩:=fF hp';rw[k3];exact ⟨rfl,A7 _⟩
   |cons y0 yr'=>
    rw[<-hys];have hpos:0<ys.length:=by grind
    have hr:=run_append_grow_src (P:=P) w t u o.type el i z hu hi hz none 0 0 [] (by simp[Builtin.firstCells]) (ρ y) ys.length news n2 (by omega) (by omega) (growslice_fits (by omega) (by grind))
    simp only[A3,A9] at hr;generalize hcap:grownCap w ys.length 0 el=cap at hr;have hge:ys.length<=cap:=by grind [grownCap,Question.cut]
    have hYs:(news.toArray++Builtin.zeroCells z.cells (cap-ys.length)).size=ys.length*i.size+(cap-ys.length)*z.cells.size:=by simp[n1.len,size_zeroCells]
    obtain ⟨S',β',used',k1,k2,k3⟩:=ub h.hi.drew h.fresh h.g0 (cap:=cap) n1 (news.toArray++Builtin.zeroCells z.cells (cap-ys.length)) el (0,0) key hge
     (by rw[hYs,hzs,<-Nat.add_mul];grind) (λj hj=>by simp[Aj,Ai,Array.getElem?_append,hj]) (by simp)
    exact ⟨_,_,.inl (hop _ _ (by rw[e1];exact hr)),S',β',used',k1,k2,k3⟩
  ·rename_i k g' n hv
   rw[hv] at v1;cases hkk:hp k with
   |none=>grind
   |some zz=>
    obtain ⟨g'',b⟩:=zz;rw[hkk] at he;cases b with
    |cells=>cases he
    |mp=>cases he
    |vec s' es=>
     dsimp only at he;split at he
     case isFalse=>cases he
     rename_i hq;obtain ⟨rfl,rfl,hn,hroom⟩:=hq;obtain rfl:=Ad he;obtain ⟨hb1,hb2⟩:=hroomOf _ hroom;obtain ⟨u1,u2,u3⟩:=h.hi.at_ k g'' _ hkk;have u3':=u3;obtain ⟨h1,h2,h3,h4,h5,h6⟩:=u3;obtain ⟨_,_,hx'⟩:=v1.vs_inv;obtain ⟨e1,hcap⟩:=hx' _ (bA hkk);have hlen:(es.take n++ys).length=n+ys.length:=by grind
     by_cases hfit:n+ys.length<=(β k).cap
     ·cases hnn:(β k).isNil with
      |true=>
       obtain ⟨he0,hc0⟩:=h4 hnn;obtain rfl:n=0:=by omega
       obtain rfl:ys= []:=AD (by omega)
       have hn0:news= []:=AD (by rw[n1.len];simp)
       subst hn0;have hr:=run_append_nothing (P:=P) w t u o.type el i hu hi ((β k).base 0) 0 (β k).cap (Nat.zero_le _) (ρ y) n2;obtain ⟨S',β',used',k1,k2,k3,k4⟩:=h.hi.newNil h.fresh h.g0 k i.size;have hbase:(β k).base 0=none:=by grind [Place.base]
       rw[hbase,hc0] at hr;rw[hbase,hc0] at e1;refine ⟨_,_,.inl (hop _ _ (by rw[e1];exact hr)),S',β',used',k1,k2,.vs _ _ _ _ ⟨_,_,rfl⟩ k4 λp hp'=>?_⟩
       obtain ⟨b,_,rfl⟩:=fF hp';rw[k3];exact ⟨rfl,A7 _⟩
      |false=>
       have hbase:(β k).base 0=some ⟨(β k).blk,(β k).off,none⟩:=by grind [Place.base]
       have hin:(n+ys.length)*i.size<=(β k).cap*i.size:=A4 _ hfit;rw[Nat.add_mul] at hin
       have hcc : ∀j,j<news.length->(w.cell? ⟨(β k).blk,(β k).off+n*i.size+j,none⟩).isSome=true/\w.frozen? ⟨(β k).blk,(β k).off+n*i.size+j,none⟩=false:=λj hj=>by
                rw[n1.len] at hj;have:=h5 (n*i.size+j) (by omega)
                grind
       have hr:=run_append_room_src (P:=P) w t u o.type el i hu hi (β k).blk (β k).off n (β k).cap (ρ y) ys.length news n2 hfit (λj hj=>(hcc j hj).1) (λj hj=>(hcc j hj).2)
       obtain ⟨used',k1,k2,k3⟩:=h.hi.write hkk hnn ((β k).off+n*i.size) news g (.vec i.size (es.take n++ys)) (.inr ⟨h.fresh,h.g0⟩) (λE l=>OQ (BlkOk.le' l u3') (n1.mono l) hn hfit hnn)
       refine ⟨_,_,.inl (hop _ _ (by rw[e1,hbase];exact hr)),S,β,used',k1,k2,.vs _ _ _ _ ⟨_,_,rfl⟩ k3 λp hp'=>?_⟩
       grind [fF]
     ·obtain ⟨olds,o1,o2⟩: ∃olds,Rs (aP C S β used hp w) i.size olds (es.take n)/\(Builtin.firstCells i.size n (.slice ((β k).base 0) n (β k).cap)).run P w.drew= .ok olds.toArray w.drew:=by
       cases hnn:(β k).isNil with
       |true=>
                obtain ⟨he0,hc0⟩:=h4 hnn;obtain rfl:n=0:=by omega
                have hbase:(β k).base 0=none:=by grind [Place.base]
                rw[hbase];exact ⟨[],by rw[List.take_zero];exact .nil _ _,by simp[Builtin.firstCells]⟩
       |false=>
                have hbase:(β k).base 0=some ⟨(β k).blk,(β k).off,none⟩:=by grind [Place.base]
                have hra:RowAt (aP C S β used hp w) w (β k).blk (β k).off i.size (es.take n):=λm hm=>by
                 have hm':m<n/\m<es.length:=by grind
                 rw[qr _ _ _ _ hm'.1];refine ⟨h2 m hm'.2,λj hj=>?_⟩
                 obtain ⟨uu,y1,y2,y3,y4⟩:=h6 m hm'.2 j (by grind)
                 grind
                obtain ⟨olds,o1,o2⟩:=hra.rs;have htl:(es.take n).length=n:=by grind
                refine ⟨olds,o1,?_⟩;rw[hbase];refine run_firstCells_some w.drew i.size n _ n (β k).cap olds (by rw[o1.len,htl]) λj v hj=>?_
                have hjl:j<olds.length:=by
                 grind
                have:=o2 j (by rw[<-o1.len];exact hjl)
                rw[Addr.add_lit];show w.cell? _=_
                grind
      have hr:=run_append_grow_src (P:=P) w t u o.type el i z hu hi hz ((β k).base 0) n (β k).cap olds o2 (ρ y) ys.length news n2 (by omega) (by omega) (growslice_fits (by omega) hb1)
      generalize hcp:grownCap w (n+ys.length) (β k).cap el=cap at hr;have hge:n+ys.length<=cap:=by grind [grownCap,Question.cut]
      have hall:=o1.append n1
      have hYs:((olds++news).toArray++Builtin.zeroCells z.cells (cap- (n+ys.length))).size=(n+ys.length)*i.size+(cap- (n+ys.length))*z.cells.size:=by
       have:=hall.len
       grind [size_zeroCells]
      obtain ⟨S',β',used',k1,k2,k3⟩:=ub h.hi.drew h.fresh h.g0 (cap:=cap) hall ((olds++news).toArray++Builtin.zeroCells z.cells (cap- (n+ys.length))) el (0,0) k (by grind)
       (by rw[hYs,hzs,<-Nat.add_mul];grind) (λj hj=>by rw[Aj,Ai,Array.getElem?_append,Ac (by grind)];simp) (by simp)
      rw[hlen] at k3;exact ⟨_,_,.inl (hop _ _ (by rw[e1];exact hr)),S',β',used',k1,k2,k3⟩
  grind
end
section
variable {P:Program}{C:Ctx}{U:Nat->Prop}{hp:HF}{w:World}{S:Nat->Prop}{β:Nat->Place}{used:Nat->Nat->Prop}
theorem HI.arr (h:HI C U hp w S β used){g:Nat}(hg: ¬U g)(hg0:g≠0)(k k0 g0:Nat)(cs:B7)(hne:k0≠k)(hk0:hp k0=some (g0,.cells cs)):
  let p:Place:=⟨(β k0).blk,(β k0).off,cs.length,1,false⟩
  let hp':=up (up hp k0 (some (g,.vec 1 []))) k (some (g,.vec 1 (cs.map λc=>[c])))
  ∃β' used',HI C (λx=>U x∨x=g) hp' w S β' used'/\(aP C S β used hp w).le (aP C S β' used' hp' w)/\β' k=p/\used' k g:=by
 intro p hp';obtain ⟨u0,b0,c0⟩:=h.at_ k0 g0 _ hk0;obtain ⟨c1,c2⟩:=c0
 let pn:Place:=⟨0,0,0,1,true⟩
 let β':=up (up β k0 pn) k p
 let used':Nat->Nat->Prop:=λk' g'=>used k' g'∨((k'=k∨k'=k0)/\g'=g)
 have hnu: ∀k',¬used k' g:=λk' u=>hg (h.us _ _ u)
 have bk:β' k=p:=dY _ _ _;have bk0:β' k0=pn:=by grind [du,dY]
 have bo: ∀k',k'≠k->k'≠k0->β' k'=β k':=λk' e1 e2=>by grind [du]
 have pk:hp' k=some (g,.vec 1 (cs.map λc=>[c])):=dY _ _ _
 have pk0:hp' k0=some (g,.vec 1 []):=by grind [du,dY]
 have po: ∀k',k'≠k->k'≠k0->hp' k'=hp k':=λk' e1 e2=>by grind [du]
 have hlv: ∀k' g' b',hp' k'=some (g',b')->used k' g'->(∃b'',hp k'=some (g',b''))/\β' k'=β k':=λk' g' b' hk hu=>by
  grind
 have l:(aP C S β used hp w).le (aP C S β' used' hp' w):=kO (λ_ _ _ a b=>⟨a,b⟩) (λ_ _=>.inl) hlv
 have hpl: ∀k' b',hp' k'=some (0,b')->β' k'=C.π k':=λk' b' hk=>by
  by_cases e:k'=k
  ·grind
  ·by_cases e0:k'=k0
   ·grind
   ·rw[po k' e e0] at hk;rw[bo k' e e0];exact h.pl k' b' hk
 refine ⟨β',used',(h.change (U':=λx=>U x∨x=g) h.kept (λ_ _ _ a b=>⟨a,b⟩) (λ_ _=>.inl) hlv h.s h.keep ?_ ?_ ?_ hpl).1,l,bk,.inr ⟨.inl rfl,rfl⟩⟩
 ·rintro k' g' (hu|⟨_,rfl⟩)
  ·exact .inl (h.us _ _ hu)
  grind
 ·intro k' g' b' hk
  by_cases e:k'=k
  ·subst e;rw[pk] at hk;cases hk
   refine .inr ⟨.inr ⟨.inl rfl,rfl⟩,?_,?_⟩
   ·grind
   ·rw[bk]
    refine ⟨rfl,λi hi=>?_,by simp[p],(λhn=>by cases hn),λj hj=>?_,λi hi j hj=>?_⟩
    ·grind
    ·obtain ⟨u,q1,q2,_⟩:=c2 j (by grind)
     grind
    ·simp at hi
     have hj0:j=0:=by grind
     subst hj0;obtain ⟨u,q1,q2,q3,q4⟩:=c2 i hi;refine ⟨u,?_,?_,q3,?_⟩
     ·grind
     ·grind
     ·have:=q4.mono l
      grind
  ·by_cases e0:k'=k0
   ·subst e0;rw[pk0] at hk;cases hk
    refine .inr ⟨.inr ⟨.inr rfl,rfl⟩,?_,?_⟩
    ·grind
    ·rw[bk0]
     exact ⟨rfl,by simp,by simp,λ_=>⟨rfl,rfl⟩,λj hj=>by grind,by simp⟩
   ·rw[po k' e e0] at hk
    exact .inl ⟨hk,bo k' e e0,λhn=>⟨((h.at_ _ _ _ hk).2.1 hn).1,.refl _ _⟩⟩
 ·intro k1 k2 x x' h1 h2 n1 n2 hbk
  by_cases d1:k1=k0
  ·grind
  by_cases d2:k2=k0
  ·grind
  by_cases e1:k1=k
  ·by_cases e2:k2=k
   ·grind
   ·exfalso
    rw[po k2 e2 d2] at h2;rw[bo k2 e2 d2] at n2 hbk;rw[e1,bk] at hbk;exact d2 (h.inj k2 k0 _ _ h2 hk0 n2 c1 hbk.symm)
  ·rw[po k1 e1 d1] at h1
   rw[bo k1 e1 d1] at n1 hbk
   by_cases e2:k2=k
   ·exfalso
    rw[e2,bk] at hbk;exact d1 (h.inj k1 k0 _ _ h1 hk0 n1 c1 hbk)
   ·rw[po k2 e2 d2] at h2
    rw[bo k2 e2 d2] at n2 hbk;exact h.inj k1 k2 _ _ h1 h2 n1 n2 hbk
theorem Xu {g:Nat}{N:Nums}{ρ:Operand->Value}{ev:Opd->AV}(h:Sit P C U hp w S β used g N ρ ev){o:Oper}{t el:TypeId}{n s:Nat}{x:Operand}{x':Opd}(ho:o.op= .slice t x none none none)(hu:P.underlying t=some (.array n el))(hs:fd P el=some s)(hx:aQ N x=some x'){key:Nat}{e:Eff}(he:aX (.slarr n s x' none none none) g key [ev x'] hp=some e):Out1 P C U hp w S β used g e ((execOp ρ o).run P w):=by
 have v1:=h.at_ x x' hx;simp only[aX,tz] at he;split at he
 ·rename_i k gk off hv
  rw[hv] at v1;split at he
  ·rename_i g' cs hk
   split at he
   ·rename_i hc
    obtain ⟨-,rfl,rfl,rfl,rfl,hne⟩:=hc;obtain rfl:=Ad he;obtain ⟨β',used',q1,q2,q3,q4⟩:=h.hi.arr h.fresh h.g0 key k g' cs hne hk;have hx0:ρ x= .pointer (some ⟨(β k).blk,(β k).off+0,none⟩):=v1.ref_inv.2.2 (β k) (bA hk)
    have hrun:(execOp ρ o).run P w= .ok (.value (.slice (some ⟨(β k).blk,(β k).off,none⟩) cs.length cs.length)) w:=by
     simp_all[execOp,Instr.sliceAt,run_underlying,Instr.sureAddr,Instr.sliceBounds,fT,Addr.add_lit]
    refine ⟨_,w,.inl hrun,S,β',used',q1,q2,.vs _ _ _ _ ⟨_,_,rfl⟩ q4 λp hp'=>?_⟩
    grind [fF,Place.base]
   grind
  grind
 grind
end
section
variable {P:Program} {C:Ctx} {U:Nat->Prop} {hp:HF} {w:World} {S:Nat->Prop} {β:Nat->Place} {used:Nat->Nat->Prop} {g:Nat} {N:Nums} {ρ:Operand->Value} {ev:Opd->AV}
end
open Go.RowKit
theorem map_some {α β:Type}{f:α->β}{x:Option α}{y:β}(h:x.map f=some y): ∃a,x=some a/\f a=y:=by
 simp_all
section
variable {P:Program} {C:Ctx} {U:Nat->Prop} {hp:HF} {w:World} {S:Nat->Prop} {β:Nat->Place} {used:Nat->Nat->Prop} {g:Nat} {N:Nums} {ρ:Operand->Value} {ev:Opd->AV}
theorem agO (h:Sit P C U hp w S β used g N ρ ev){o:Oper}{ao:AOp}(hc:bF P N o=some ao)(hcall: ∀f args,ao≠ .call f args){key:Nat}{e:Eff}(he:aX ao g key (ao.opds.map ev) hp=some e):
  Out1 P C U hp w S β used g e ((execOp ρ o).run P w):=by
 cases ho:o.op with
 |move x|assign x=>
  simp only[bF,ho] at hc;obtain ⟨a,h1,rfl⟩:=map_some hc;exact agQ h (by rw[ho];simp) h1 he
 |pick c a b=>
  simp only[bF,ho] at hc;split at hc
  ·rename_i c' a' b' h1 h2 h3
   obtain rfl:=Ad hc;exact acG h ho h1 h2 h3 he
  ·cases hc
 |box t x=>
  simp only[bF,ho] at hc;obtain ⟨a,h1,rfl⟩:=map_some hc;exact aev h ho h1 he
 |alloc t=>
  simp only[bF,ho] at hc;obtain ⟨a,h1,rfl⟩:=map_some hc;exact Xz h ho h1 he
 |build t parts=>
  simp only[bF,ho] at hc;split at hc
  ·rename_i pl z xs h1 h2 h3
   obtain ⟨ps,h4,rfl⟩:=map_some hc;exact Xy h ho h1 h2 h3 h4 he
  ·cases hc
 |buildSlice t n parts=>
  simp only[bF,ho] at hc;split at hc
  ·rename_i el hu
   split at hc
   ·rename_i s z xs h1 h2 h3
    split at hc
    ·rename_i hz
     obtain rfl:=Ad hc;exact aeu h ho hu h1 h2 hz.2 h3 he
    ·cases hc
   ·cases hc
  ·cases hc
 |load t a=>
  simp only[bF,ho] at hc;split at hc
  ·rename_i sz a' h1 h2
   split at hc
   ·rename_i h0
    obtain rfl:=Ad hc;exact acJ h ho h1 h0 h2 he
   ·cases hc
  ·cases hc
 |store t a x=>
  simp only[bF,ho] at hc;split at hc
  ·rename_i s a' x' h1 h2 h3
   obtain rfl:=Ad hc;exact Xp h ho h1 h2 h3 he
  ·cases hc
 |fieldAddr t x f=>
  simp only[bF,ho] at hc;split at hc
  ·rename_i fs hu
   split at hc
   ·rename_i fl hf
    split at hc
    ·rename_i s x' h1 h2
     split at hc
     ·rename_i h0
      obtain rfl:=Ad hc;exact acO h ho hu hf h1 h0 h2 he
     ·cases hc
    ·cases hc
   ·cases hc
  ·cases hc
 |indexAddr t x i=>
  simp only[bF,ho] at hc;split at hc
  ·rename_i el hu
   split at hc
   ·rename_i s x' i' h1 h2 h3
    obtain rfl:=Ad hc;exact acN h ho hu h1 h2 h3 he
   ·cases hc
  ·rename_i n el hu
   split at hc
   ·rename_i s x' i' h1 h2 h3
    obtain rfl:=Ad hc;exact acM h ho hu h1 h2 h3 he
   ·cases hc
  ·cases hc
 |index t x i=>
  simp only[bF,ho] at hc;split at hc
  ·rename_i hu
   split at hc
   ·rename_i x' i' h1 h2
    obtain rfl:=Ad hc;exact acL h ho hu h1 h2 he
   ·cases hc
  ·rename_i n el hu
   split at hc
   ·rename_i s sz x' i' h1 h2 h3 h4
    obtain rfl:=Ad hc;exact acK h ho hu h1 h2 h3 h4 he
   ·cases hc
  ·cases hc
 |binOp op t x y t'=>
  simp only[bF,ho] at hc;split at hc
  case h_2=>cases hc
  rename_i a b h1 h2
  have eqc: ∀neg:Bool,op=(if neg=true then .neq else .eql)->rx P t neg x y a b=some ao->Out1 P C U hp w S β used g e ((execOp ρ o).run P w):=by
   intro neg hop hce;subst hop;unfold rx at hce;split at hce
   ·obtain rfl:=Ad hce;exact I6 h ho h1 h2 he
   ·obtain rfl:=Ad hce;exact I6 h ho h1 h2 he
   ·rename_i hu;obtain rfl:=Ad hce;exact aet h ho hu h1 h2 he
   ·rename_i el hu;obtain rfl:=Ad hce;exact uc h ho (k:=.ptr) ⟨_,hu⟩ (.inl ⟨⟨_,hu⟩,λms q=>by grind⟩) h1 h2 he
   ·rename_i el hu;obtain rfl:=Ad hce;exact uc h ho (k:=.slice) ⟨_,hu⟩ (.inl ⟨⟨_,hu⟩,λms q=>by grind⟩) h1 h2 he
   ·rename_i kt el hu;obtain rfl:=Ad hce;exact uc h ho (k:=.map) ⟨_,_,hu⟩ (.inl ⟨⟨_,_,hu⟩,λms q=>by grind⟩) h1 h2 he
   ·rename_i x1 x2 x3 hu;obtain rfl:=Ad hce;exact uc h ho (k:=.func) ⟨_,_,_,hu⟩ (.inl ⟨⟨_,_,_,hu⟩,λms q=>by grind⟩) h1 h2 he
   ·rename_i ms hu
    split at hce
    ·rename_i hcn
     obtain rfl:=Ad hce;exact uc h ho (k:=.iface) ⟨_,hu⟩ (.inr hcn) h1 h2 he
    ·cases hce
   ·rename_i fs hu
    split at hce
    ·rename_i hg
     obtain ⟨ks,h4,rfl⟩:=map_some hce;exact aes h ho hu hg h4 h1 h2 he
    ·cases hce
   ·cases hce
  cases op<;>dsimp only at hc
  case eql=>grind
  case neq=>grind
  all_goals (obtain rfl:=Ad hc;exact I6 h ho h1 h2 he)
 |unOp op t x=>
  simp only[bF,ho] at hc;obtain ⟨a,h1,rfl⟩:=map_some hc;exact agP h ho h1 he
 |convert s d x=>
  simp only[bF,ho] at hc;split at hc
  ·rename_i k0 k x' h1 h2 h3
   obtain rfl:=Ad hc;exact acP h ho h1 h2 h3 he
  ·rename_i el x' h1 h2 h3
   split at hc
   ·rename_i hel
    rw[Ac rfl] at hc;obtain rfl:=Ad hc;exact aew h ho h1 hel h2 h3 he
   grind
  ·cases hc
 |makeMap t r=>simp_all[bF]
 |lookup t x i ok=>simp_all[bF]
 |mapUpdate t x i v=>simp_all[bF]
 |makeFunc fn first cap=>
  simp only[bF,ho] at hc;cases fn with
  |func f=>
   dsimp only at hc;split at hc
   ·rename_i hf
    split at hc
    ·rename_i h0
     obtain ⟨xs,h1,rfl⟩:=map_some hc;exact acI h ho hf.1 hf.2 h0 h1 he
    ·split at hc
     ·rename_i h0
      obtain ⟨xs,h1,rfl⟩:=map_some hc;exact Xx h ho hf.1 h0.1 h1 h0.2 he
     ·cases hc
   ·cases hc
  |_=>cases hc
 |makeSlice t n c=>
  simp only[bF,ho] at hc;split at hc
  ·rename_i el hu
   split at hc
   ·rename_i i z n' c' h1 h2 h3 h4
    split at hc
    ·rename_i h0
     obtain rfl:=Ad hc;exact acH h ho hu h1 h0 h2 h3 h4 he
    ·cases hc
   ·cases hc
  ·cases hc
 |slice t x lo hi mx=>
  simp only[bF,ho] at hc;split at hc
  ·rename_i el hu
   split at hc
   ·rename_i s x' lo' hi' mx' h1 h2 h3 h4 h5
    obtain rfl:=Ad hc;exact aeq h ho hu h1 h2 h3 h4 h5 he
   ·cases hc
  ·rename_i hu
   split at hc
   ·rename_i x' lo' hi' h2 h3 h4
    obtain rfl:=Ad hc;exact Xq h ho hu h2 h3 h4 he
   ·cases hc
  ·rename_i n el hu
   split at hc
   ·rename_i s x' h1 h2
    obtain rfl:=Ad hc;exact Xu h ho hu h1 h2 he
   ·cases hc
  ·cases hc
 |extract x i=>
  simp only[bF,ho] at hc;obtain ⟨a,h1,rfl⟩:=map_some hc;exact aer h ho h1 he
 |makeInterface t x=>
  simp only[bF,ho] at hc;split at hc
  ·rename_i ht
   split at hc
   ·rename_i fs hu
    obtain ⟨a,h1,rfl⟩:=map_some hc;exact Xw h ho ht hu h1 he
   ·cases hc
  ·cases hc
 |panic x=>
  simp only[bF,ho] at hc;obtain ⟨a,h1,rfl⟩:=map_some hc;cases he
 |nilCheck x=>
  simp only[bF,ho] at hc;obtain ⟨a,h1,rfl⟩:=map_some hc;exact Xv h ho h1 he
 |call c=>
  obtain ⟨callee,args,argTypes⟩:=c;cases callee with
  |value f=>
   simp only[bF,ho] at hc
   grind
  |invoke r m=>simp_all[bF]
  |builtin b=>
   simp only[bF,ho] at hc;split at hc
   ·rename_i x t hx ht
    have hargs:args= #[x]:=by grind
    have hts:argTypes[0]? =some t:=by rw[<-Array.getElem?_toList,ht];rfl
    split at hc
    ·rename_i hu
     obtain ⟨a,h1,rfl⟩:=map_some hc;exact Ud h ho rfl hargs hts (.inl ⟨rfl,hu⟩) h1 he
    ·rename_i el hu
     obtain ⟨a,h1,rfl⟩:=map_some hc;exact Ud h ho rfl hargs hts (.inr ⟨rfl,_,hu⟩) h1 he
    ·cases hc
   ·rename_i x y t u hx ht
    have hargs:args= #[x,y]:=by grind
    have hts:argTypes= #[t,u]:=by grind
    split at hc
    ·rename_i el hu
     split at hc
     ·rename_i i x' y' h1 h2 h3
      split at hc
      ·rename_i e' hk
       split at hc
       ·rename_i hq
        obtain rfl:=Ad hc;exact Ue h ho rfl hargs hts hu h1 hq.1.1 hq.1.2 (.inl ⟨_,hk⟩) h2 h3 he
       ·cases hc
      ·rename_i hk
       split at hc
       ·rename_i hq
        obtain rfl:=Ad hc;exact Ue h ho rfl hargs hts hu h1 hq.1.1 hq.1.2 (.inr hk) h2 h3 he
       ·cases hc
      grind
     ·cases hc
    ·cases hc
   ·rename_i xs ts hx
    obtain ⟨a,h1,rfl⟩:=map_some hc;exact De (m:=false) h ho rfl h1 he
   ·rename_i xs ts hx
    obtain ⟨a,h1,rfl⟩:=map_some hc;exact De (m:=true) h ho rfl h1 he
   ·cases hc
 |_=>simp_all[bF]
end
open Go.RowKit
section
variable {hg hg':HF}{D:Cc}
theorem Fg (h: ∀k∈D,hg k=hg' k):rn hg D=rn hg' D:=by
 unfold rn
 grind
theorem yX (h: ∀k∈D,hg k=hg' k):j6 hg D=j6 hg' D:=by
 grind [j6]
theorem th {a:AV}{cs:B7}{r:Cc}(h:dI hg a=some (cs,r))(hr: ∀k∈r,hg k=hg' k):dI hg' a=some (cs,r):=by
 cases a with
 |rp=>exact h
 |ref k g o=>
  grind [dI]
 |er k g i o=>
  grind [dI]
 |_=>grind [dI]
theorem Nf (hg hg':HF)(x:Value):dH hg (.con x)=dH hg' (.con x):=by
 cases x<;>first|rfl|skip
 rename_i a n c;cases a<;>cases n<;>cases c<;>rfl
theorem Si (hg hg':HF)(s:Nat)(x:Value):aX.appSrc hg s (.con x)=aX.appSrc hg' s (.con x):=by
 cases x<;>first|rfl|skip
 rename_i a n c;cases a<;>cases n<;>cases c<;>rfl
section
variable {s:Nat}{a:AV}{es:B6}{r:Cc}
theorem FA (h:dH hg a=some (es,r))(hr: ∀k∈r,hg k=hg' k):dH hg' a=some (es,r):=by
 cases a with
 |sl=>exact h
 |con x=>grind [Nf]
 |vs k g n=>
  grind [dH]
 |vw k g o n=>
  grind [dH]
 |_=>grind [dH]
theorem uW (h:aX.appSrc hg s a=some (es,r))(hr: ∀k∈r,hg k=hg' k):aX.appSrc hg' s a=some (es,r):=by
 cases a with
 |sl=>exact h
 |str=>exact h
 |con x=>grind [Si]
 |vs k g n=>
  grind [aX.appSrc]
 |vw k g o n=>
  grind [aX.appSrc]
 |_=>grind [aX.appSrc]
end
end
theorem Sj {ao:AOp}{g key:Nat}{vals:B7}{hg hg':HF}{e:Eff}(h:aX ao g key vals hg=some e)(hr: ∀k∈e.rd,hg k=hg' k):aX ao g key vals hg'=some e:=by
 unfold aX at h;split at h
 all_goals (first|exact h|skip)
 ·
  simp only[aX];split at h
  ·rename_i hc
   rw[Ac hc];generalize cm true vals=D at h⊢;cases D with
   |nil=>exact h
   |cons d r=>
    dsimp only at h⊢;obtain ⟨es,h1,rfl⟩:=map_some h
    grind [yX]
  ·cases h
 ·
  simp only[aX];split at h
  ·rename_i cs r hc
   obtain ⟨v,h1,rfl⟩:=map_some h
   grind [th]
  ·cases h
 ·
  rename_i sz a' x' a x;simp only[aX];cases hc:dM x with
  |none=>grind
  |some cs=>
   rw[hc] at h;dsimp only at h⊢;split at h
   case isFalse=>cases h
   rename_i hl;rw[Ac hl];cases a with
   |ref k g' o=>
    grind
   |er k g' i o=>
    dsimp only at h⊢
    have hk:k∈e.rd/\(∀d∈cm true cs,d∈e.rd):=by
     grind
    rw[<-hr k hk.1];generalize cm true cs=D at h hk⊢;cases D with
    |nil=>exact h
    |cons d r=>dsimp only at h⊢;rw[<-Fg (D:=d::r) (hg:=hg) (hg':=hg') (λd hd=>hr d (hk.2 d hd)),<-yX (D:=d::r) (hg:=hg) (hg':=hg') (λd hd=>hr d (hk.2 d hd))];exact h
   |_=>cases h
 ·
  simp only[aX];split at h
  ·split at h
   all_goals grind
  ·cases h
 ·
  simp only[aX];split at h
  ·rename_i es r hc
   obtain ⟨v,h1,rfl⟩:=map_some h
   grind [FA]
  ·cases h
 ·
  rename_i s x' lo hi mx x bs;simp only[aX];cases hl:lY x with
  |none=>grind
  |some n=>
   rw[hl] at h;dsimp only at h⊢;cases hb:aX.slBounds lo.isSome hi.isSome mx.isSome n bs with
   |none=>grind
   |some lh=>
    rw[hb] at h;dsimp only at h⊢;split at h
    all_goals grind
 ·
  simp only[aX];unfold tz at h⊢;split at h
  all_goals grind
 ·
  rename_i s bytes x' y' x y;simp only[aX];split at h
  ·cases h
  ·rename_i ys r hs
   split at h
   ·grind [uW]
   ·rename_i k g' n
    have hk:k∈e.rd/\ ∀d∈r,d∈e.rd:=by
     grind
    grind [uW]
   ·cases h
 ·cases h
def Sft (sf:Dd)(k:Nat)(y:Cl):Prop:= ∃g o l,(k,g,o,l)∈sf/\ ∃cs,y=some (g,.cells cs)/\(cs.drop o).take l.length=l
theorem Sft.nil {k:Nat}{y:Cl}(h:Sft [] k y):False:=by
 obtain ⟨g,o,l,h,_⟩:=h;cases h
section
variable {ao:AOp}{g key:Nat}{vals:B7}
theorem adM {hg:HF}{e:Eff}(h:aX ao g key vals hg=some e):e.sf= []∨ ∃sz x a,ao= .load sz x/\vals= [a]:=by
 unfold aX at h;split at h
 all_goals first
  |(right;exact ⟨_,_,_,rfl,rfl⟩)
  |(left;split at h<;>first|(obtain rfl:=Ad h;rfl)|(cases h;done))
  |(left;(repeat' split at h)<;>first|(cases h;done)|(obtain rfl:=Ad h;rfl)|(obtain ⟨_,_,rfl⟩:=map_some h;rfl)|(simp only[Bool.cond_eq_ite] at h;grind)|(unfold tz at h;grind))
theorem VY {hg hg':HF}{e:Eff}(h:aX ao g key vals hg=some e)(hr: ∀k∈e.rd,hg' k=hg k∨Sft e.sf k (hg' k)):aX ao g key vals hg'=some e:=by
 rcases adM h with hs|⟨sz,x,a,rfl,rfl⟩
 ·refine Sj h λk hk=>?_
  rcases hr k hk with q|q
  ·exact q.symm
  ·rw[hs] at q;exact q.nil.elim
 ·simp only[aX] at h⊢
  cases hc:dI hg a with
  |none=>grind
  |some x=>
   obtain ⟨cs,r⟩:=x;rw[hc] at h;obtain ⟨v,hv,rfl⟩:=map_some h;dsimp only at hr
   by_cases hall: ∀k∈r,hg' k=hg k
   ·grind [th]
   ·cases a with
    |ref k g' o=>
     have hgk: ∃cs0,hg k=some (g',.cells cs0)/\cs=cs0.drop o/\r= [k]:=by
      grind [dI]
     obtain ⟨cs0,h1,rfl,rfl⟩:=hgk;have hk:=(hr k (by simp)).resolve_left (λq=>hall (by simpa using q))
     obtain ⟨g2,o2,l,hm,cs',hy,hl⟩:=hk;simp only[tw,BO,Prod.mk.injEq] at hm;obtain ⟨_,rfl,rfl,rfl⟩:=hm
     have hlen:((cs0.drop o2).take (sz.getD 1)).length=sz.getD 1:=by
      rw[List.length_take];refine Nat.min_eq_left ?_;unfold fD at hv
      grind
     rw[hlen] at hl
     have hp:fD sz (cs'.drop o2)=some v:=by
      unfold fD at hv⊢;cases sz with
      |none=>
       grind
      |some n=>
       grind
     grind [dI,tw]
    |rp cs0=>
     grind [dI]
    |er k g' i o=>
     exfalso;apply hall;intro k' hk';rcases hr k' hk' with q|q
     ·exact q
     ·simp only[tw] at q;exact q.nil.elim
    |_=>grind [dI]
end
open Go.RowKit
def dt:C6->Cc
 |some e=>wks e.wr
 |none=>[]
def rdO:C6->Cc
 |some e=>e.rd
 |none=>[]
section
variable (F:FSt)(d:CV)
def FSt.appO:C6->FSt
 |some e=>F.app d e
 |none=>F.put d iP
theorem Oa {l:az}{f:HF}{k:Nat}(h:k∉wks l):hov l f k=f k:=by
 induction l with
 |nil=>rfl
 |cons x r ih=>
  simp_all[wks,hov,up]
theorem Br {l:az}{f f':HF}{k:Nat}(h:k∈wks l):hov l f k=hov l f' k:=by
 induction l with
 |nil=>grind [wks]
 |cons x r ih=>
  obtain ⟨t,v⟩:=x;simp only[wks,AI] at h;simp only[hov,up]
  grind
theorem Yq {l l':az}{f:HF}(h: ∀k∈wks l,k∉wks l'):hov l' (hov l f)=hov l (hov l' f):=by
 funext k
 by_cases h1:k∈wks l
 all_goals grind [Oa,Br]
theorem FSt.ext' {F G:FSt}(h1: ∀t,F.tm t=G.tm t)(h2: ∀k,F.hp k=G.hp k):F=G:=by
 cases F;cases G;grind [FSt.mk.injEq]
theorem vL (e:C6)(k:Nat)(h:k∉dt e):(F.appO d e).hp k=F.hp k:=by
 cases e with
 |none=>rfl
 |some e=>exact Oa h
theorem rA (e:C6)(t:Nat)(h:d≠some t):(F.appO d e).tm t=F.tm t:=by
 cases e<;>simp[FSt.appO,FSt.put,FSt.app,h]
theorem VX {d d':CV}{e e':C6}(hd: ∀t,d=some t->d'≠some t)(hw: ∀k∈dt e,k∉dt e'):(F.appO d e).appO d' e'=(F.appO d' e').appO d e:=by
 refine FSt.ext' (λt=>?_) λk=>?_
 ·by_cases h1:d=some t
  ·rw[rA _ _ _ _ (hd t h1)]
   cases e<;>simp[FSt.appO,FSt.put,FSt.app,h1]
  ·rw[rA (F.appO d' e') _ _ _ h1]
   by_cases h2:d'=some t
   ·cases e'<;>simp[FSt.appO,FSt.put,FSt.app,h2]
   grind [rA]
 ·cases e<;>cases e'<;>simp only[FSt.appO,FSt.put,FSt.app]
  exact congrFun (Yq hw) k
end
abbrev nl:=DF
def FL:nl->(Nat->Bool)->Nat->FSt->FSt
 | [],_,_,F=>F
 |(d,e)::r,L,k,F=>FL r L (k+1) (bif L k then F.appO d e else F)
theorem zE (t:Nat): ∀(es:nl)(L L':Nat->Bool)(k:Nat)(F F':FSt),(∀j x,es[j]? =some x->L (k+j)≠L' (k+j)->x.1≠some t)->F.tm t=F'.tm t->(FL es L k F).tm t=(FL es L' k F').tm t
 | [],_,_,_,_,_,_,h=>h
 |(d,e)::r,L,L',k,F,F',hj,h=>by
  refine zE t r L L' (k+1) _ _ (λj x hx hne=>hj (j+1) x (by grind) (by grind)) ?_
  by_cases hl:L k=L' k
  ·rw[<-hl]
   cases L k with
   |false=>exact h
   |true=>
    dsimp only[cond]
    by_cases hd:d=some t
    ·cases e<;>simp[FSt.appO,FSt.put,FSt.app,hd]
    grind [rA]
  ·have:=hj 0 (d,e) (by simp) (by grind)
   grind [rA]
theorem SC (t:Nat): ∀(es:nl)(L L':Nat->Bool)(k:Nat)(F F':FSt),(∀j x,es[j]? =some x->L (k+j)≠L' (k+j)->t∉dt x.2)->F.hp t=F'.hp t->(FL es L k F).hp t=(FL es L' k F').hp t
 | [],_,_,_,_,_,_,h=>h
 |(d,e)::r,L,L',k,F,F',hj,h=>by
  refine SC t r L L' (k+1) _ _ (λj x hx hne=>hj (j+1) x (by grind) (by grind)) ?_
  by_cases hl:L k=L' k
  ·rw[<-hl]
   cases L k with
   |false=>exact h
   |true=>
    dsimp only[cond]
    by_cases hd:t∈dt e
    ·cases e with
     |none=>grind [dt]
     |some e=>exact Br hd
    grind [vL]
  ·have:=hj 0 (d,e) (by simp) (by grind)
   grind [vL]
theorem ve: ∀(es:nl)(L:Nat->Bool)(k i:Nat)(d:CV)(e:C6)(F:FSt),es[i]? =some (d,e)->L (k+i)=false->
  (∀j x,es[j]? =some x->i<j->L (k+j)=true->(∀t,d=some t->x.1≠some t)/\ ∀t∈dt e,t∉dt x.2)->
  FL es (λx=>L x||x==k+i) k F=(FL es L k F).appO d e
 | [],_,_,_,_,_,_,h,_,_=>by simp at h
 |(d0,e0)::r,L,k,0,d,e,F,h,hL,hj=>by
  obtain ⟨rfl,rfl⟩:d0=d/\e0=e:=by grind
  simp only[Nat.add_zero] at hL
  have push: ∀(r:nl)(k':Nat)(G:FSt),k<k'->(∀j x,r[j]? =some x->L (k'+j)=true->(∀t,d0=some t->x.1≠some t)/\ ∀t∈dt e0,t∉dt x.2)->
    FL r (λx=>L x||x==k) k' (G.appO d0 e0)=(FL r L k' G).appO d0 e0:=by
   intro r
   induction r with
   |nil=>intro k' G _ _;rfl
   |cons x r ih=>
    obtain ⟨d',e'⟩:=x;intro k' G hk hr;simp only[FL];have hne:(k'==k)=false:=by grind
    rw[hne,Bool.or_false];have hr':=λj x (hx:r[j]? =some x) (hl:L (k'+1+j)=true)=>hr (j+1) x (by grind) (by grind)
    cases hl:L k' with
    |false=>grind
    |true=>
     dsimp only[cond];obtain ⟨q1,q2⟩:=hr 0 (d',e') (by simp) (by grind)
     rw[VX G q1 q2]
     grind
  simp only[FL,Nat.add_zero,hL,beq_self_eq_true,Bool.false_or,cond_true,cond_false];refine push r (k+1) F (by omega) λj x hx hl=>hj (j+1) x (by grind) (by omega) (by grind)
 |(d0,e0)::r,L,k,i+1,d,e,F,h,hL,hj=>by
  simp only[FL];have hne:(k==k+(i+1))=false:=by simp
  rw[hne,Bool.or_false]
  have:=ve r L (k+1) i d e (bif L k then F.appO d0 e0 else F) (by grind) (by grind)
   (λj x hx hij hl=>hj (j+1) x (by grind) (by omega) (by grind))
  grind
def dZ (F:FSt):Dn->Option Bool
 |none=>some true
 |some (t,w)=>match F.tm t with
  | .bool b=>some (b==w)
  | .con (.tuple _)=>some false
  |_=>none
theorem fa (A:AS)(g:Dn):dZ A.fs g=bL A.tm g:=by cases g<;>rfl
def looks (o:AOper):Cc:=(o.op.opds.filterMap fun| .t n=>some n|_=>none)++(o.guard.map (·.1)).toList
def evF (F:FSt):Opd->AV
 | .t n=>F.tm n
 | .c v=>v
theorem zh (A:AS):evF A.fs=evo A.tm:=by funext x;cases x<;>rfl
structure OpRel (P:Program)(N:Nums)(n:Nat)(ops:Array Oper)(i:Nat)(o:Oper)(ao:AOper):Prop where
 op:bF P N o=some ao.op
 dst:ao.dst=o.dst
 bd: ∀d,o.dst=some d->d<n
 guard:match o.guard,ao.guard with
  |none,none=>True
  |some (j,w),some (t,w')=>w=w'/\t<D0/\(ops[j]?).bind (·.dst)=some t
  |_,_=>False
 after: ∀e∈o.after,Region.binds .any e=true->e.on∈ao.after
 after': ∀j∈ao.after,j<i/\ ∃e∈o.after,Region.binds .any e=true/\e.on=j
def iB (x y:AOper):Prop:=(∀t,x.dst=some t->t∉looks y/\y.dst≠some t)/\ ∀t,y.dst=some t->t∉looks x
def wrO:C6->az
 |some e=>e.wr
 |none=>[]
def sfO:C6->Dd
 |some e=>e.sf
 |none=>[]
def sn (e e':C6):Prop:= ∀k,(k∈dt e->k∉rdO e'/\k∉dt e')/\(k∈dt e'->k∉rdO e∨ ∀f,Sft (sfO e) k (hov (wrO e') f k))
theorem Lz (t:Nat)(P:Cl->Prop): ∀(es:nl)(L L':Nat->Bool)(k:Nat)(F F':FSt),(∀j x,es[j]? =some x->L (k+j)≠L' (k+j)->t∉dt x.2∨(L (k+j)=true/\ ∀f,P (hov (wrO x.2) f t)))->(F.hp t=F'.hp t∨P (F.hp t))->((FL es L k F).hp t=(FL es L' k F').hp t∨P ((FL es L k F).hp t))
 | [],_,_,_,_,_,_,h=>h
 |(d,e)::r,L,L',k,F,F',hj,h=>by
  refine Lz t P r L L' (k+1) _ _ (λj x hx hne=>?_) ?_
  ·have:=hj (j+1) x (by grind) (by grind)
   grind
  ·by_cases hl:L k=L' k
   ·rw[<-hl]
    cases L k with
    |false=>exact h
    |true=>
     dsimp only[cond]
     by_cases hd:t∈dt e
     ·left
      cases e with
      |none=>grind [dt]
      |some e=>exact Br hd
     grind [vL]
   ·have hq:=hj 0 (d,e) (by simp) (by grind)
    rw[Nat.add_zero] at hq
    by_cases hd:t∈dt e
    ·obtain ⟨h1,h2⟩:=hq.resolve_left (λq=>q hd)
     right
     rw[h1];dsimp only[cond];cases e with
     |none=>grind [dt]
     |some e=>exact h2 _
    grind [vL]
section
variable {P:Program} {C:Ctx} {N:Nums}
section
variable (P:Program)(C:Ctx)(o:Oper)(g:Nat)(d:CV)(e:Eff)(F:FSt)
def LC:Prop:=
 ∀U a w (K:Act->World->Prop) (Q:Exit->Act->World->Prop),¬U g->Rel C U F a w->(∀a' w',Rel C (Or1 U g) (F.app d e) a' w'->K a' w')->o.wp P a w K Q
def vO:Prop:=
 ∀U a w (K:Act->World->Prop) (Q:Exit->Act->World->Prop),¬U g->Rel C U F a w->(∀v w' S β used,RelC C (Or1 U g) {F with hp:=hov e.wr F.hp} a w' S β used->V (aP C S β used (hov e.wr F.hp) w') v e.res->Q (.panic [{v:=v,recovered:=false}]) a w')->o.wp P a w K Q
end
structure OneOk (P:Program)(C:Ctx)(N:Nums)(ops:Array Oper)(c0:Nat)(i:Nat)(o:Oper)(ao:AOper)(e:C6)(F:FSt):Prop where
 rel:OpRel P N C.n ops i o ao
 none_:e=none->dZ F ao.guard=some false
 some_: ∀x,e=some x->dZ F ao.guard=some true/\ ∀F',(∀t∈looks ao,F'.tm t=F.tm t)->(∀k∈x.rd,F'.hp k=F.hp k∨Sft x.sf k (F'.hp k))->LC P C o (c0+i) ao.dst x F'
section
variable {C:Ctx}{U:Nat->Prop}{F:FSt}{a:Act}{w:World}
theorem dQ (hR:Rel C U F a w){ops:Array Oper}{n i:Nat}{o:Oper}{ao:AOper}(hr:OpRel P N n ops i o ao){b:Bool}(h:dZ F ao.guard=some b):Region.wanted o (yielded ops a.tmps)=b:=by
 have hg:=hr.guard;unfold Region.wanted;cases ho:o.guard with
 |none=>
  grind [dZ]
 |some x=>
  obtain ⟨j,wv⟩:=x;rw[ho] at hg;cases hag:ao.guard with
  |none=>grind
  |some y=>
   obtain ⟨t,w'⟩:=y;rw[hag] at hg h;obtain ⟨rfl,ht0,ht⟩:=hg;obtain ⟨S,β,used,hRC⟩:=hR;have hv:=hRC.tm t;rw[xY ht0] at hv;simp only[dZ] at h;split at h
   ·rename_i b' hb
    rw[hb] at hv;have:=hv.bool_inv;obtain rfl:=Ad h
    have hy:yielded ops a.tmps j=some b':=by
     unfold yielded;rw[ht,Option.bind_some]
     have:a.tmps[t]? =some (.bool b'):=by
      rw[Aj] at this
      grind [undef]
     rw[this]
    grind
   ·rename_i v hb
    rw[hb] at hv;have hv':=hv.con_inv;obtain rfl:=Ad h
    have hy:yielded ops a.tmps j=none:=by
     unfold yielded;rw[ht,Option.bind_some];rw[Aj] at hv'
     grind
    grind
   ·cases h
def fj (c0:Nat)(L:Nat->Bool):Nat->Prop:=λg=>g<c0∨ ∃j,L j=true/\g=c0+j
theorem Rel.wide {U U':Nat->Prop}{F:FSt}{a:Act}{w:World}(h:Rel C U F a w)(hU: ∀x,U x->U' x):Rel C U' F a w:=
 let ⟨S,β,used,hi,b,c,d⟩:=h
 ⟨S,β,used,hi.wide hU,b,c,d⟩
theorem Rel.put (h:Rel C U F a w)(d:CV)(hd: ∀t,d=some t->t<C.n):Rel C U (F.put d iP) (a.put d undef) w:=
 let ⟨S,β,used,hr⟩:=h
 ⟨S,β,used,hr.step hr.hi (.refl _) d hd (show V _ undef iP from .con _)⟩
end
section
variable {ops:Array Oper}{aos:Cb}{es:nl}{F0:FSt}{c0:Nat}{Q:Exit->Act->World->Prop}(clo:Nat->Cc)
theorem agp (hclo: ∀i ao,aos[i]? =some ao-> ∀j∈clo i,j∈ao.after∨ ∃k∈ao.after,j∈clo k)(hl:aos.length=ops.size)(hl2:es.length=ops.size)(hone: ∀i o ao x,ops[i]? =some o->aos[i]? =some ao->es[i]? =some x->x.1=ao.dst/\OneOk P C N ops c0 i o ao x.2 (FL es (λj=>decide (j<i)) 0 F0))(hpair: ∀i j ai aj xi xj,i<j->aos[i]? =some ai->aos[j]? =some aj->es[i]? =some xi->es[j]? =some xj->i∈clo j∨(iB ai aj/\sn xi.2 xj.2))(hQ: ∀a w,Rel C (fj c0 λj=>decide (j<ops.size)) (FL es (λ_=>true) 0 F0) a w->Q .normal a w):
  ∀(fuel:Nat)(listed:Array Bool)(a:Act)(w:World),listed.size=ops.size->((List.range ops.size).countP λi=> !listed.getD i false)<=fuel->
   (∀i,listed.getD i false=true-> ∀j∈clo i,listed.getD j false=true)->
   Rel C (fj c0 λi=>listed.getD i false) (FL es (λi=>listed.getD i false) 0 F0) a w->wpAny P .any ops Q fuel listed a w:=by
 have get: ∀i,i<ops.size-> ∃o ao x,ops[i]? =some o/\aos[i]? =some ao/\es[i]? =some x:=λi hi=>
  ⟨ops[i],aos[i]'(by omega),es[i]'(by omega),by simp[hi],by grind,by grind⟩
 -- all listed: the end
 have fin: ∀(listed:Array Bool)(a:Act)(w:World),listed.size=ops.size->(∀i,i<ops.size->listed.getD i false=true)->Rel C (fj c0 λi=>listed.getD i false) (FL es (λi=>listed.getD i false) 0 F0) a w->Q .normal a w:=λlisted a w hsz hall hR=>by
  refine hQ a w ?_
  have:FL es (λi=>listed.getD i false) 0 F0=FL es (λ_=>true) 0 F0:=FSt.ext'
   (λt=>zE t es _ _ 0 F0 F0 (λj x hx hne=>absurd (by
    grind) hne) rfl)
   (λt=>SC t es _ _ 0 F0 F0 (λj x hx hne=>absurd (by
    grind) hne) rfl)
  grind
 have ready_all: ∀(listed:Array Bool),listed.size=ops.size->Region.ready .any ops listed= []-> ∀i,i<ops.size->listed.getD i false=true:=by
  intro listed hsz hr i
  induction i using Nat.strongRecOn with
  |_ i ih=>
   intro hi;cases hq:listed.getD i false with
   |true=>rfl
   |false=>
    exfalso;obtain ⟨o,ao,x,h1,h2,h3⟩:=get i hi;have hrel:=(hone i o ao x h1 h2 h3).2.rel
    have:i∈Region.ready .any ops listed:=by
     rw[mem_ready];refine ⟨?_,o,h1,λe he hb=>?_⟩
     ·have:i<listed.size:=by omega
      simpa[Array.getD,this] using hq
     ·have hlt:=(hrel.after' e.on (hrel.after e he hb)).1
      exact ih e.on hlt (by omega)
    rw[hr] at this;cases this
 intro fuel
 induction fuel with
 |zero=>
  intro listed a w hsz hcnt _ hR
  have hall: ∀i,i<ops.size->listed.getD i false=true:=λi hi=>by
   have:=List.countP_eq_zero.1 (Nat.le_zero.1 hcnt) i (by simpa using hi)
   simpa using this
  refine ⟨?_,fin listed a w hsz hall hR⟩;rw[List.eq_nil_iff_forall_not_mem];intro i hi;rw[mem_ready] at hi
  grind
 |succ fuel ih=>
  intro listed a w hsz hcnt hdown hR;refine ⟨λhr=>fin listed a w hsz (ready_all listed hsz hr) hR,λi hi=>?_⟩
  rw[mem_ready] at hi;obtain ⟨h0,o,ho,hall⟩:=hi
  have hlt:i<ops.size:=by
   rcases AO i ops.size with q|q
   ·exact q
   ·rw[Array.getElem?_eq_none q] at ho;cases ho
  have hil:i<listed.size:=by omega
  have hLi:listed.getD i false=false:=by simp[Array.getD,hil] at h0⊢;exact h0
  obtain ⟨o',ao,x,h1,h2,h3⟩:=get i hlt;obtain rfl:o'=o:=by rw[ho] at h1;exact (Ad h1).symm
  obtain ⟨hx1,hok⟩:=hone i o' ao x h1 h2 h3
  have hdeps: ∀j∈clo i,listed.getD j false=true:=λj hj=>by
   have hdir: ∀j∈ao.after,listed.getD j false=true:=λj hj=>by
    obtain ⟨_,e,he,hb,rfl⟩:=hok.rel.after' j hj;exact hall e he hb
   rcases hclo i ao h2 j hj with q|⟨k,q,q'⟩
   ·exact hdir j q
   ·exact hdown k (hdir k q) j q'
  -- where the listed set and the text's prefix part, nothing that matters is written
  have part: ∀j xj,es[j]? =some xj->listed.getD j false≠decide (j<i)->(∃aj,aos[j]? =some aj/\((j<i/\iB aj ao/\sn xj.2 x.2)∨(i<j/\iB ao aj/\sn x.2 xj.2))):=λj xj hxj hne=>by
   have hj:j<es.length:=by
    rcases AO j es.length with q|q
    ·exact q
    ·rw[AA q] at hxj;cases hxj
   obtain ⟨oj,aj,xj',g1,g2,g3⟩:=get j (by omega)
   obtain rfl:xj'=xj:=by rw[g3] at hxj;exact Ad hxj
   refine ⟨aj,g2,?_⟩;rcases Nat.lt_trichotomy j i with q|q|q
   ·left
    have hu:listed.getD j false=false:=by
     grind
    rcases hpair j i aj ao xj' x q g2 h2 g3 h3 with hd|⟨p1,p2⟩
    ·rw[hdeps j hd] at hu;cases hu
    ·exact ⟨q,p1,p2⟩
   ·exfalso;subst q;rw[hLi] at hne;grind
   ·right
    have hu:listed.getD j false=true:=by
     grind
    rcases hpair i j ao aj x xj' q h2 g2 h3 g3 with hd|⟨p1,p2⟩
    ·rw[hdown j hu i hd] at hLi;cases hLi
    ·exact ⟨q,p1,p2⟩
  have htm: ∀t∈looks ao,(FL es (λi=>listed.getD i false) 0 F0).tm t=(FL es (λj=>decide (j<i)) 0 F0).tm t:=λt ht=>
   zE t es _ _ 0 F0 F0 (λj xj hxj hne=>by
    rw[A3] at hne;obtain ⟨aj,g2,hp⟩:=part j xj hxj hne
    obtain ⟨oj,aj',xj',y1,y2,y3⟩:=get j (by
     rcases AO j es.length with q|q
     ·omega
     ·rw[AA q] at hxj;cases hxj)
    obtain rfl:aj'=aj:=by rw[y2] at g2;exact Ad g2
    obtain rfl:xj'=xj:=by rw[y3] at hxj;exact Ad hxj
    have hdj:=(hone j oj aj' xj' y1 y2 y3).1;rw[hdj];intro e;rcases hp with ⟨_,p1,_⟩|⟨_,p1,_⟩
    ·exact (p1.1 t e).1 ht
    ·exact p1.2 t e ht) rfl
  have hhp: ∀k∈rdO x.2,(FL es (λi=>listed.getD i false) 0 F0).hp k=(FL es (λj=>decide (j<i)) 0 F0).hp k∨Sft (sfO x.2) k ((FL es (λi=>listed.getD i false) 0 F0).hp k):=λk hk=>
   Lz k (Sft (sfO x.2) k) es _ _ 0 F0 F0 (λj xj hxj hne=>by
    rw[A3] at hne;obtain ⟨aj,g2,hp⟩:=part j xj hxj hne;rcases hp with ⟨_,_,p2⟩|⟨hij,_,p2⟩
    ·exact .inl λhw=>((p2 k).1 hw).1 hk
    ·by_cases hw:k∈dt xj.2
     ·right
      refine ⟨?_,((p2 k).2 hw).resolve_left (λq=>q hk)⟩
      rw[A3]
      grind
     ·grind) (.inl rfl)
  have hwant:dZ (FL es (λi=>listed.getD i false) 0 F0) ao.guard=dZ (FL es (λj=>decide (j<i)) 0 F0) ao.guard:=by
   cases hg:ao.guard with
   |none=>rfl
   |some y=>
    obtain ⟨t,wv⟩:=y;simp only[dZ];rw[htm t (by simp[looks,hg])]
  have hins:FL es (λy=>(listed.setIfInBounds i true).getD y false) 0 F0=(FL es (λi=>listed.getD i false) 0 F0).appO ao.dst x.2:=by
   have e1:(λy=>(listed.setIfInBounds i true).getD y false)=λy=>listed.getD y false||y==0+i:=by
    funext y
    by_cases hy:y=i
    ·subst hy;simp[Array.getD,hil]
    ·rw[getD_set_ne false (Ne.symm hy)];simp[hy]
   rw[e1];refine ve es _ 0 i ao.dst x.2 F0 (by rw[h3,<-hx1]) (by simpa using hLi) λj xj hxj hij hlj=>?_
   rw[A3] at hlj;obtain ⟨aj,g2,hp⟩:=part j xj hxj (by simp only[hlj];grind)
   obtain ⟨oj,aj',xj',y1,y2,y3⟩:=get j (by
    rcases AO j es.length with q|q
    ·omega
    ·rw[AA q] at hxj;cases hxj)
   obtain rfl:aj'=aj:=by rw[y2] at g2;exact Ad g2
   obtain rfl:xj'=xj:=by rw[y3] at hxj;exact Ad hxj
   have hdj:=(hone j oj aj' xj' y1 y2 y3).1;rcases hp with ⟨q,_⟩|⟨_,p1,p2⟩
   ·omega
   ·exact ⟨λt ht=>by rw[hdj];exact (p1.1 t ht).2,λk hk=>((p2 k).1 hk).2⟩
  have hU: ∀g,Or1 (fj c0 λi=>listed.getD i false) (c0+i) g->fj c0 (λy=>(listed.setIfInBounds i true).getD y false) g:=by
   rintro g ((hg|⟨j,hj,rfl⟩)|rfl)
   ·exact .inl hg
   ·exact .inr ⟨j,getD_set_true hj,rfl⟩
   ·exact .inr ⟨i,by simp[Array.getD,hil],rfl⟩
  have hsz':(listed.setIfInBounds i true).size=ops.size:=by simpa using hsz
  have hdown': ∀i',(listed.setIfInBounds i true).getD i' false=true-> ∀j∈clo i',(listed.setIfInBounds i true).getD j false=true:=λi' hl' j hj=>by
   by_cases e:i'=i
   ·subst e
    exact getD_set_true (hdeps j hj)
   ·rw[getD_set_ne false (Ne.symm e)] at hl'
    exact getD_set_true (hdown i' hl' j hj)
  have hcnt':((List.range ops.size).countP λy=> !(listed.setIfInBounds i true).getD y false)<=fuel:=by
   have key: ∀l:Cc,l.Nodup->i∈l->(l.countP λy=> !(listed.setIfInBounds i true).getD y false)+1=l.countP λy=> !listed.getD y false:=by
    intro l
    induction l with
    |nil=>intro _ h;cases h
    |cons y l ihl=>
     intro hnd hm;rw[List.nodup_cons] at hnd
     by_cases e:y=i
     ·subst e
      have hsame:(l.countP λz=> !(listed.setIfInBounds y true).getD z false)=l.countP λz=> !listed.getD z false:=by
       apply List.countP_congr;intro z hz;rw[getD_set_ne false (λ(q:y=z)=>hnd.1 (q▸hz))]
      have t1:(listed.setIfInBounds y true).getD y false=true:=by simp[Array.getD,hil]
      rw[List.countP_cons_of_neg (by simp only[t1];simp),List.countP_cons_of_pos (by simp only[hLi];simp),hsame]
     ·have hm':i∈l:=by simpa[Ne.symm e] using hm
      have:=ihl hnd.2 hm';have hy:(listed.setIfInBounds i true).getD y false=listed.getD y false:=getD_set_ne false (Ne.symm e);cases hq:listed.getD y false with
      |true=>rw[List.countP_cons_of_neg (by simp only[hy,hq];simp),List.countP_cons_of_neg (by simp only[hq];simp)];exact this
      |false=>rw[List.countP_cons_of_pos (by simp only[hy,hq];simp),List.countP_cons_of_pos (by simp only[hq];simp)];omega
   have:=key (List.range ops.size) List.nodup_range (by simpa using hlt)
   omega
  unfold wpOp;simp only[ho];cases hx2:x.2 with
  |none=>
   have hw:=hok.none_ hx2;rw[<-hwant] at hw;rw[dQ hR hok.rel hw];simp only[AR,if_false];refine ih _ _ _ hsz' hcnt' hdown' ?_;rw[hins,hx2,<-hok.rel.dst];exact (hR.put ao.dst (λd hd=>hok.rel.bd d (by rw[<-hok.rel.dst];exact hd))).wide λy hy=>hU y (.inl hy)
  |some e=>
   obtain ⟨hw,hdo⟩:=hok.some_ e hx2;rw[<-hwant] at hw;rw[dQ hR hok.rel hw];simp only[if_true];refine .inl (hdo _ htm (λk hk=>by have:=hhp k (by rw[hx2];exact hk);rw[hx2] at this;exact this) _ a w _ Q ?_ hR λa' w' hR'=>?_)
   ·rintro (hg|⟨j,hj,hg⟩)
    ·omega
    ·obtain rfl:j=i:=by omega
     have hj':listed.getD j false=true:=hj;rw[hLi] at hj';cases hj'
   ·refine ih _ _ _ hsz' hcnt' hdown' ?_
    rw[hins,hx2];exact hR'.wide hU
theorem Rel.drop {C:Ctx}{U:Nat->Prop}{F:FSt}{a:Act}{w:World}(h:Rel C U F a w)(D:Cc):Rel C U {F with hp:=dK F.hp D} a w:=by
 obtain ⟨S,β,used,hi,hs,hd,htm⟩:=h;obtain ⟨q1,q2⟩:=hi.drop D;exact ⟨_,β,used,q1,hs,hd,λt=>(htm t).mono q2⟩
theorem adN (hclo: ∀i ao,aos[i]? =some ao-> ∀j∈clo i,j∈ao.after∨ ∃k∈ao.after,j∈clo k)(hl:aos.length=ops.size)(hl2:es.length=ops.size){p:Nat}(hps:p<ops.size)(W:Nat->Bool)(hW: ∀j,W j=true->es[j]? =some (none,none)/\p∈clo j)(hPn:es[p]? =some (none,none))(hrelA: ∀i o ao,ops[i]? =some o->aos[i]? =some ao->OpRel P N C.n ops i o ao)(hone: ∀i o ao x,i≠p->W i=false->ops[i]? =some o->aos[i]? =some ao->es[i]? =some x->x.1=ao.dst/\OneOk P C N ops c0 i o ao x.2 (FL es (λj=>decide (j<i)) 0 F0)){e:Eff}(K:Cc)(hterm: ∀o ao,ops[p]? =some o->aos[p]? =some ao->dZ (FL es (λj=>decide (j<p)) 0 F0) ao.guard=some true/\(∀j aj xj,j≠p->W j=false->aos[j]? =some aj->es[j]? =some xj->(j<p/\j∈clo p)∨(p<j/\p∈clo j)∨((∀t,xj.1=some t->t∉looks ao)/\ ∀k∈dt xj.2,k∈K))/\ ∀F',(∀t∈looks ao,F'.tm t=(FL es (λj=>decide (j<p)) 0 F0).tm t)->F'.hp=dK (FL es (λj=>decide (j<p)) 0 F0).hp K->vO P C o (c0+p) e F')(hpair: ∀i j ai aj xi xj,i<j->i≠p->j≠p->W i=false->W j=false->aos[i]? =some ai->aos[j]? =some aj->es[i]? =some xi->es[j]? =some xj->i∈clo j∨(iB ai aj/\sn xi.2 xj.2))(hQ: ∀a w v S β used U (F':FSt),RelC C U {F' with hp:=hov e.wr (dK (FL es (λj=>decide (j<p)) 0 F0).hp K)} a w S β used->V (aP C S β used (hov e.wr (dK (FL es (λj=>decide (j<p)) 0 F0).hp K)) w) v e.res->Q (.panic [{v:=v,recovered:=false}]) a w):
  ∀(fuel:Nat)(listed:Array Bool)(a:Act)(w:World),listed.size=ops.size->((List.range ops.size).countP λi=> !listed.getD i false)<=fuel->
   (∀i,listed.getD i false=true-> ∀j∈clo i,listed.getD j false=true)->listed.getD p false=false->
   Rel C (fj c0 λi=>listed.getD i false) (FL es (λi=>listed.getD i false) 0 F0) a w->wpAny P .any ops Q fuel listed a w:=by
 have get: ∀i,i<ops.size-> ∃o ao x,ops[i]? =some o/\aos[i]? =some ao/\es[i]? =some x:=λi hi=>
  ⟨ops[i],aos[i]'(by omega),es[i]'(by omega),by simp[hi],by rw[AF],by rw[AF]⟩
 have ready_all: ∀(listed:Array Bool),listed.size=ops.size->Region.ready .any ops listed= []-> ∀i,i<ops.size->listed.getD i false=true:=by
  intro listed hsz hr i
  induction i using Nat.strongRecOn with
  |_ i ih=>
   intro hi;cases hq:listed.getD i false with
   |true=>rfl
   |false=>
    exfalso;obtain ⟨o,ao,x,h1,h2,h3⟩:=get i hi;have hrel:=hrelA i o ao h1 h2
    have:i∈Region.ready .any ops listed:=by
     rw[mem_ready];refine ⟨?_,o,h1,λe he hb=>?_⟩
     ·have:i<listed.size:=by omega
      simpa[Array.getD,this] using hq
     ·have hlt:=(hrel.after' e.on (hrel.after e he hb)).1
      exact ih e.on hlt (by omega)
    rw[hr] at this;cases this
 intro fuel
 induction fuel with
 |zero=>
  intro listed a w hsz hcnt _ hlp hR;exfalso
  have hall: ∀i,i<ops.size->listed.getD i false=true:=λi hi=>by
   have:=List.countP_eq_zero.1 (Nat.le_zero.1 hcnt) i (by simpa using hi)
   simpa using this
  have:=hall p (by omega)
  rw[hlp] at this;cases this
 |succ fuel ih=>
  intro listed a w hsz hcnt hdown hlp hR;refine ⟨λhr=>absurd (ready_all listed hsz hr p (by omega)) (by rw[hlp];simp),λi hi=>?_⟩
  rw[mem_ready] at hi;obtain ⟨h0,o,ho,hall⟩:=hi
  have hlt:i<ops.size:=by
   rcases AO i ops.size with q|q
   ·exact q
   ·rw[Array.getElem?_eq_none q] at ho;cases ho
  have hil:i<listed.size:=by omega
  have hLi:listed.getD i false=false:=by simp[Array.getD,hil] at h0⊢;exact h0
  obtain ⟨o',ao,x,h1,h2,h3⟩:=get i hlt;obtain rfl:o'=o:=by rw[ho] at h1;exact (Ad h1).symm
  have hrel:=hrelA i o' ao h1 h2
  have hdeps: ∀j∈clo i,listed.getD j false=true:=λj hj=>by
   have hdir: ∀j∈ao.after,listed.getD j false=true:=λj hj=>by
    obtain ⟨_,e,he,hb,rfl⟩:=hrel.after' j hj;exact hall e he hb
   rcases hclo i ao h2 j hj with q|⟨k,q,q'⟩
   ·exact hdir j q
   ·exact hdown k (hdir k q) j q'
  by_cases hip:i=p
  ·subst hip
   obtain ⟨t1,t2,t3⟩:=hterm o' ao ho h2
   have part: ∀j xj,es[j]? =some xj->listed.getD j false≠decide (j<i)->xj=(none,none)∨((∀t,xj.1=some t->t∉looks ao)/\ ∀k∈dt xj.2,k∈K):=λj xj hxj hne=>by
    have hj:j<es.length:=by
     rcases AO j es.length with q|q
     ·exact q
     ·rw[AA q] at hxj;cases hxj
    obtain ⟨oj,aj,xj',g1,g2,g3⟩:=get j (by omega)
    obtain rfl:xj'=xj:=by rw[g3] at hxj;exact Ad hxj
    by_cases hji:j=i
    ·exfalso;subst hji;rw[hLi] at hne;simp at hne
    cases hWj:W j with
    |true=>left;have:=(hW j hWj).1;rw[g3] at this;exact Ad this
    |false=>
     right
     rcases t2 j aj xj' hji hWj g2 g3 with ⟨q,hd⟩|⟨q,hd⟩|h
     ·exfalso;rw[hdeps j hd] at hne;simp[q] at hne
     ·exfalso
      have hlj:listed.getD j false=true:=by
       cases hq:listed.getD j false with
       |true=>rfl
       |false=>rw[hq] at hne;exfalso;apply hne;simp;omega
      rw[hdown j hlj i hd] at hLi;cases hLi
     ·exact h
   have htm: ∀t∈looks ao,(FL es (λi=>listed.getD i false) 0 F0).tm t=(FL es (λj=>decide (j<i)) 0 F0).tm t:=λt ht=>
    zE t es _ _ 0 F0 F0 (λj xj hxj hne=>by
     rw[A3] at hne;rcases part j xj hxj hne with rfl|⟨p1,_⟩
     ·simp
     ·intro e;exact p1 t e ht) rfl
   have hhp:dK (FL es (λi=>listed.getD i false) 0 F0).hp K=dK (FL es (λj=>decide (j<i)) 0 F0).hp K:=funext λk=>by
    unfold dK
    by_cases hk:K.contains k=true
    ·rw[Ac hk,Ac hk]
    ·rw[Aa hk,Aa hk]
     exact SC k es _ _ 0 F0 F0 (λj xj hxj hne=>by
      rw[A3] at hne;rcases part j xj hxj hne with rfl|⟨_,p2⟩
      ·simp[dt]
      ·exact λq=>hk (by simpa using p2 k q)) rfl
   have hwant:dZ (FL es (λi=>listed.getD i false) 0 F0) ao.guard=dZ (FL es (λj=>decide (j<i)) 0 F0) ao.guard:=by
    cases hg:ao.guard with
    |none=>rfl
    |some y=>
     obtain ⟨t,wv⟩:=y;simp only[dZ];rw[htm t (by simp[looks,hg])]
   unfold wpOp;simp only[ho];rw[<-hwant] at t1;rw[dQ hR hrel t1];simp only[if_true];refine .inl (t3 {FL es (λi=>listed.getD i false) 0 F0 with hp:=dK (FL es (λi=>listed.getD i false) 0 F0).hp K} htm hhp _ a w _ Q ?_ (hR.drop K) λv w' S β used hR' hv=>?_)
   ·rintro (hg|⟨j,hj,hg⟩)
    ·omega
    ·obtain rfl:j=i:=by omega
     grind
   ·dsimp only at hR' hv
    rw[hhp] at hR' hv;exact hQ a w' v S β used _ (FL es (λi=>listed.getD i false) 0 F0) hR' hv
  have hWi:W i=false:=by
   cases hq:W i with
   |false=>rfl
   |true=>rw[hdeps p (hW i hq).2] at hlp;cases hlp
  obtain ⟨hx1,hok⟩:=hone i o' ao x hip hWi h1 h2 h3
  -- where the listed set and the text's prefix part, nothing that matters is written
  have part: ∀j xj,es[j]? =some xj->listed.getD j false≠decide (j<i)->xj=(none,none)∨(∃aj,aos[j]? =some aj/\xj.1=aj.dst/\((j<i/\iB aj ao/\sn xj.2 x.2)∨(i<j/\iB ao aj/\sn x.2 xj.2))):=λj xj hxj hne=>by
   have hj:j<es.length:=by
    rcases AO j es.length with q|q
    ·exact q
    ·rw[AA q] at hxj;cases hxj
   obtain ⟨oj,aj,xj',g1,g2,g3⟩:=get j (by omega)
   obtain rfl:xj'=xj:=by rw[g3] at hxj;exact Ad hxj
   by_cases hjp:j=p
   ·left;subst hjp;rw[g3] at hPn;exact Ad hPn
   cases hWj:W j with
   |true=>left;have:=(hW j hWj).1;rw[g3] at this;exact Ad this
   |false=>
   right
   refine ⟨aj,g2,(hone j oj aj xj' hjp hWj g1 g2 g3).1,?_⟩;rcases Nat.lt_trichotomy j i with q|q|q
   ·left
    have hu:listed.getD j false=false:=by
     cases hq:listed.getD j false with
     |false=>rfl
     |true=>rw[hq] at hne;simp[q] at hne
    rcases hpair j i aj ao xj' x q hjp hip hWj hWi g2 h2 g3 h3 with hd|⟨p1,p2⟩
    ·rw[hdeps j hd] at hu;cases hu
    ·exact ⟨q,p1,p2⟩
   ·exfalso;subst q;rw[hLi] at hne;simp at hne
   ·right
    have hu:listed.getD j false=true:=by
     cases hq:listed.getD j false with
     |true=>rfl
     |false=>rw[hq] at hne;exfalso;apply hne;simp;omega
    rcases hpair i j ao aj x xj' q hip hjp hWi hWj h2 g2 h3 g3 with hd|⟨p1,p2⟩
    ·rw[hdown j hu i hd] at hLi;cases hLi
    ·exact ⟨q,p1,p2⟩
  have htm: ∀t∈looks ao,(FL es (λi=>listed.getD i false) 0 F0).tm t=(FL es (λj=>decide (j<i)) 0 F0).tm t:=λt ht=>
   zE t es _ _ 0 F0 F0 (λj xj hxj hne=>by
    rw[A3] at hne;rcases part j xj hxj hne with rfl|⟨aj,g2,hdj,hp⟩
    ·simp
    rw[hdj];intro e;rcases hp with ⟨_,p1,_⟩|⟨_,p1,_⟩
    ·exact (p1.1 t e).1 ht
    ·exact p1.2 t e ht) rfl
  have hhp: ∀k∈rdO x.2,(FL es (λi=>listed.getD i false) 0 F0).hp k=(FL es (λj=>decide (j<i)) 0 F0).hp k∨Sft (sfO x.2) k ((FL es (λi=>listed.getD i false) 0 F0).hp k):=λk hk=>
   Lz k (Sft (sfO x.2) k) es _ _ 0 F0 F0 (λj xj hxj hne=>by
    rw[A3] at hne;rcases part j xj hxj hne with rfl|⟨aj,g2,_,hp⟩
    ·exact .inl (by simp[dt])
    rcases hp with ⟨_,_,p2⟩|⟨hij,_,p2⟩
    ·exact .inl λhw=>((p2 k).1 hw).1 hk
    ·by_cases hw:k∈dt xj.2
     ·right
      refine ⟨?_,((p2 k).2 hw).resolve_left (λq=>q hk)⟩
      rw[A3];cases hq:listed.getD j false with
      |true=>rfl
      |false=>rw[hq] at hne;exfalso;apply hne;simp;omega
     ·exact .inl hw) (.inl rfl)
  have hwant:dZ (FL es (λi=>listed.getD i false) 0 F0) ao.guard=dZ (FL es (λj=>decide (j<i)) 0 F0) ao.guard:=by
   cases hg:ao.guard with
   |none=>rfl
   |some y=>
    obtain ⟨t,wv⟩:=y;simp only[dZ];rw[htm t (by simp[looks,hg])]
  have hins:FL es (λy=>(listed.setIfInBounds i true).getD y false) 0 F0=(FL es (λi=>listed.getD i false) 0 F0).appO ao.dst x.2:=by
   have e1:(λy=>(listed.setIfInBounds i true).getD y false)=λy=>listed.getD y false||y==0+i:=by
    funext y
    by_cases hy:y=i
    ·subst hy;simp[Array.getD,hil]
    ·rw[getD_set_ne false (Ne.symm hy)];simp[hy]
   rw[e1];refine ve es _ 0 i ao.dst x.2 F0 (by rw[h3,<-hx1]) (by simpa using hLi) λj xj hxj hij hlj=>?_
   rw[A3] at hlj;rcases part j xj hxj (by simp only[hlj];simp;omega) with rfl|⟨aj,g2,hdj,hp⟩
   ·exact ⟨λt _=>by simp,λk _=>by simp[dt]⟩
   rcases hp with ⟨q,_⟩|⟨_,p1,p2⟩
   ·omega
   ·exact ⟨λt ht=>by rw[hdj];exact (p1.1 t ht).2,λk hk=>((p2 k).1 hk).2⟩
  have hU: ∀g,Or1 (fj c0 λi=>listed.getD i false) (c0+i) g->fj c0 (λy=>(listed.setIfInBounds i true).getD y false) g:=by
   rintro g ((hg|⟨j,hj,rfl⟩)|rfl)
   ·exact .inl hg
   ·exact .inr ⟨j,getD_set_true hj,rfl⟩
   ·exact .inr ⟨i,by simp[Array.getD,hil],rfl⟩
  have hsz':(listed.setIfInBounds i true).size=ops.size:=by simpa using hsz
  have hdown': ∀i',(listed.setIfInBounds i true).getD i' false=true-> ∀j∈clo i',(listed.setIfInBounds i true).getD j false=true:=λi' hl' j hj=>by
   by_cases e:i'=i
   ·subst e
    exact getD_set_true (hdeps j hj)
   ·rw[getD_set_ne false (Ne.symm e)] at hl'
    exact getD_set_true (hdown i' hl' j hj)
  have hcnt':((List.range ops.size).countP λy=> !(listed.setIfInBounds i true).getD y false)<=fuel:=by
   have key: ∀l:Cc,l.Nodup->i∈l->(l.countP λy=> !(listed.setIfInBounds i true).getD y false)+1=l.countP λy=> !listed.getD y false:=by
    intro l
    induction l with
    |nil=>intro _ h;cases h
    |cons y l ihl=>
     intro hnd hm;rw[List.nodup_cons] at hnd
     by_cases e:y=i
     ·subst e
      have hsame:(l.countP λz=> !(listed.setIfInBounds y true).getD z false)=l.countP λz=> !listed.getD z false:=by
       apply List.countP_congr;intro z hz;rw[getD_set_ne false (λ(q:y=z)=>hnd.1 (q▸hz))]
      have t1:(listed.setIfInBounds y true).getD y false=true:=by simp[Array.getD,hil]
      rw[List.countP_cons_of_neg (by simp only[t1];simp),List.countP_cons_of_pos (by simp only[hLi];simp),hsame]
     ·have hm':i∈l:=by simpa[Ne.symm e] using hm
      have:=ihl hnd.2 hm';have hy:(listed.setIfInBounds i true).getD y false=listed.getD y false:=getD_set_ne false (Ne.symm e);cases hq:listed.getD y false with
      |true=>rw[List.countP_cons_of_neg (by simp only[hy,hq];simp),List.countP_cons_of_neg (by simp only[hq];simp)];exact this
      |false=>rw[List.countP_cons_of_pos (by simp only[hy,hq];simp),List.countP_cons_of_pos (by simp only[hq];simp)];omega
   have:=key (List.range ops.size) List.nodup_range (by simpa using hlt)
   omega
  unfold wpOp;simp only[ho];cases hx2:x.2 with
  |none=>
   have hw:=hok.none_ hx2;rw[<-hwant] at hw;rw[dQ hR hok.rel hw];simp only[AR,if_false];refine ih _ _ _ hsz' hcnt' hdown' (by rw[getD_set_ne false hip];exact hlp) ?_
   rw[hins,hx2,<-hok.rel.dst];exact (hR.put ao.dst (λd hd=>hok.rel.bd d (by rw[<-hok.rel.dst];exact hd))).wide λy hy=>hU y (.inl hy)
  |some e1=>
   obtain ⟨hw,hdo⟩:=hok.some_ e1 hx2;rw[<-hwant] at hw;rw[dQ hR hok.rel hw];simp only[if_true];refine .inl (hdo _ htm (λk hk=>by have:=hhp k (by rw[hx2];exact hk);rw[hx2] at this;exact this) _ a w _ Q ?_ hR λa' w' hR'=>?_)
   ·rintro (hg|⟨j,hj,hg⟩)
    ·omega
    ·obtain rfl:j=i:=by omega
     have hj':listed.getD j false=true:=hj;rw[hLi] at hj';cases hj'
   ·refine ih _ _ _ hsz' hcnt' hdown' (by rw[getD_set_ne false hip];exact hlp) ?_
    rw[hins,hx2];exact hR'.wide hU
end
end
open Go.RowKit
mutual
theorem AV.pure_of_keys: ∀a:AV,a.keys true= []->a.pure=true
 | .any,_| .int _ _,_| .bool _,_| .str _,_| .con _,_=>rfl
 | .agg cs,h| .rp cs,h| .fn _ cs,h| .tup cs,h=>by simp only[AV.pure];exact kx cs (by simpa[AV.keys] using h)
 | .sl _ es,h=>by simp only[AV.pure];exact ri es (by simpa[AV.keys] using h)
 | .ref _ _ _,h| .er _ _ _ _,h| .vs _ _ _,h| .vw _ _ _ _,h| .mp _ _,h=>by simp[AV.keys] at h
 | .ifc _ v,h=>by simp only[AV.pure];exact AV.pure_of_keys v (by simpa[AV.keys] using h)
theorem kx: ∀l:B7,cm true l= []->aM l=true
 | [],_=>rfl
 |a::r,h=>by
  simp only[cm,List.append_eq_nil_iff] at h;simp only[aM,AV.pure_of_keys a h.1,kx r h.2,Bool.and_self]
theorem ri: ∀l:B6,iy true l= []->ab l=true
 | [],_=>rfl
 |a::r,h=>by
  simp only[iy,List.append_eq_nil_iff] at h;simp only[ab,kx a h.1,ri r h.2,Bool.and_self]
end
section
variable {E E':Env}{φ:Nat->Nat->Tgt}
theorem V.pure_env (hro: ∀b o u,E.ro b o u->E'.ro b o u)(hn:E'.num=E.num)(ht:E'.tnum=E.tnum){v:Value}{a:AV}(h:V E v a)(hp:a.pure=true):V E' v a:=by
 have:=h.ren (E':=E') (φ:=λ_ _=>.dead) ⟨hro,hn,ht,λ_ _ _=>trivial⟩
 grind [AV.ren_pure]
theorem qu: ∀(l:B7)(i:Nat),uE l=true->i<l.length->(l.getD i .any).dry=true
 | [],_,_,h=>by simp at h
 |a::r,0,h,_=>by grind [uE]
 |a::r,i+1,h,hi=>by simp only[uE,At] at h;simpa using qu r i h.2 (by grind)
theorem V.dry_env (hn:E'.num=E.num)(ht:E'.tnum=E.tnum){v:Value}{a:AV}(h:V E v a)(hd:a.dry=true):V E' v a:=by
 induction h with
 |any v=>exact .any v
 |int k n=>exact .int k n
 |bool b=>exact .bool b
 |str s=>exact .str s
 |con v=>exact .con v
 |agg cs as hl hf _ ih=>exact .agg cs as hl hf λi hi=>ih i hi (qu as i (by grind [AV.dry]) hi)
 |sl s es a n c hn' hs hc u hb _ ih=>
  cases es with
  |nil=>exact .sl s [] a n c hn' hs hc u (λq=>absurd rfl q) (λi hi=>by simp at hi)
  |cons=>grind [AV.dry]
 |rp=>grind [AV.dry]
 |ref=>grind [AV.dry]
 |er=>grind [AV.dry]
 |vs=>grind [AV.dry]
 |vw=>grind [AV.dry]
 |mp=>grind [AV.dry]
 |fn f cs as hl _ ih=>rw[<-hn];exact .fn f cs as hl λi hi=>ih i hi (qu as i (by grind [AV.dry]) hi)
 |tup cs as hl _ ih=>exact .tup cs as hl λi hi=>ih i hi (qu as i (by grind [AV.dry]) hi)
 |ifc t v a _ ih=>rw[<-ht];exact .ifc t v a (ih (by grind [AV.dry]))
theorem CellsOk.ren (r:RenOk E E' φ){w:World}{b o:Nat}{cs:B7}(h:CellsOk E w b o cs):CellsOk E' w b o (dT φ cs):=λj hj=>by
 rw[bH] at hj;obtain ⟨u,h1,h2,h3,h4⟩:=h j hj;exact ⟨u,h1,h2,h3,by rw[gW];exact h4.ren r⟩
theorem BlkOk.ren (r:RenOk E E' φ){w:World}{p:Place}{b:Blk}(h:BlkOk E w p b):BlkOk E' w p (b.ren φ):=by
 cases b with
 |mp es=>
  obtain ⟨h1,ents,cl,h2,h3,h4⟩:=h;refine ⟨h1,ents,cl,h2,h3,λi hi e he=>?_⟩
  obtain ⟨a,b,c,d⟩:=h4 i hi e he;exact ⟨a,b,by have:=c.ren r;grind [AV.ren_pure],by have:=d.ren r;grind [AV.ren_pure]⟩
 |cells cs=>exact ⟨h.1,h.2.ren r⟩
 |vec s es=>
  obtain ⟨h1,h2,h3,h4,h5,h6⟩:=h;refine ⟨h1,λi hi=>?_,by grind [f9],λhn=>?_,h5,λi hi=>?_⟩
  ·grind [f9,lI,bH]
  ·obtain ⟨q1,q2⟩:=h4 hn;subst q1;exact ⟨rfl,q2⟩
  ·rw[f9] at hi;rw[lI];exact (h6 i hi).ren r
theorem FM {w:World}{p:Place}{b:Blk}(h:BlkOk E w p b)(hp:b.pure=true)(hro: ∀b o u,E.ro b o u->E'.ro b o u)(hn:E'.num=E.num)(ht:E'.tnum=E.tnum)(hb: ∀o u,w.cell? ⟨p.blk,o,none⟩=some u->u.oneCell'=true->p.isNil=false->E'.ro p.blk o u):SG E' p b:=by
 have r:RenOk E E' (λ_ _=>.dead):=⟨hro,hn,ht,λ_ _ _=>trivial⟩
 have h':=BlkOk.ren r h
 have e:b.ren (λ_ _=>.dead)=b:=by
  cases b with
  |mp es=>rfl
  |cells cs=>simp only[Blk.ren];rw[gV _ cs hp]
  |vec s es=>simp only[Blk.ren];rw[dh _ es hp]
 rw[e] at h';exact LF (S':=λ_=>True) h' (λbk o u hc h1 hbk hnn=>by grind) (.refl E')
end
def hpB (bs:C5):HF:=λk=>(bs[k]?).map λb=>(0,b)
def hpR (bs:Co):HF:=λk=>(bs[k]?).map λx=>(0,x.2)
def ij (n:Nat):Nat->Nat->Prop:=λk g=>k<n/\g=0
structure RetC (C:Ctx)(m:Nat)(w':World)(v:Value)(t:Ret)(S1:Nat->Prop)(β1:Nat->Place):Prop where
 kept:Kept C.X C.W0 w'
 s: ∀b,S1 b->b<w'.heap.size/\(C.W0.heap.size<=b∨C.S0 b)
 keep: ∀b,C.S0 b-> ¬C.X b->S1 b
 val:V (aP C S1 β1 (ij t.bs.length) (hpR t.bs) w') v t.r
 at_: ∀k x,t.bs[k]? =some x->((β1 k).isNil=false->S1 (β1 k).blk/\(C.W0.heap.size<=(β1 k).blk∨C.X (β1 k).blk))/\BlkOk (aP C S1 β1 (ij t.bs.length) (hpR t.bs) w') w' (β1 k) x.2
 inj: ∀k k',k<t.bs.length->k'<t.bs.length->(β1 k).isNil=false->(β1 k').isNil=false->(β1 k).blk=(β1 k').blk->k=k'
 pl: ∀k x,k<m->t.bs[k]? =some x->x.1=true->β1 k=C.π k
 len:m<=t.bs.length
section
variable (N:Nums)(C:Ctx)
def E0:Env where
 ro b o u:=b<C.W0.heap.size/\ ¬C.X b/\ ¬C.S0 b/\C.W0.cell? ⟨b,o,none⟩=some u/\u.oneCell'=true
 lv _ _:=none
 used _ _:=False
 num:=C.num
 tnum:=C.tnum
def GlC:Prop:= ∀g cs,N.gl g=some cs->aM cs=true->V (E0 C) (.pointer (some ⟨g,0,none⟩)) (.rp cs)
def GoC:Prop:= ∀g o,N.go g=some o->g<C.W0.heap.size/\ ¬C.X g/\ ¬C.S0 g/\C.W0.heap[g]? =some o
def ew:Prop:=C.num=N.num/\GlC N C/\GoC N C
end
theorem GlC.at_hi {C:Ctx}{U:Nat->Prop}{hp:HF}{w:World}{S:Nat->Prop}{β:Nat->Place}{used:Nat->Nat->Prop}{N:Nums}(h:HI C U hp w S β used)(hg:GlC N C){g:Nat}{cs:B7}(h1:N.gl g=some cs)(h2:aM cs=true):
  V (aP C S β used hp w) (.pointer (some ⟨g,0,none⟩)) (.rp cs):=by
 refine V.pure_env (E:=E0 C) (E':=aP C S β used hp w) (λb o u q=>?_) rfl rfl (hg g cs h1 h2) (by grind [AV.pure])
 obtain ⟨q1,q2,q3,q4,q5⟩:=q;refine ⟨λhs=>?_,?_,q5⟩
 ·rcases (h.s b hs).2 with z|z
  all_goals grind
 ·rw[World.cell?_of_block (h.kept.block b q1 q2)];exact q4
structure Entry (C:Ctx)(N:Nums)(vs:Array Value)(args:B7)(bs:C5):Prop where
 num:ew N C
 tnum:C.tnum=N.tnum
 hi:HI C (λg=>g=0) (hpB bs) C.W0 C.S0 C.π (ij bs.length)
 size:vs.size=args.length
 at_: ∀i,i<args.length->V (aP C C.S0 C.π (ij bs.length) (hpB bs) C.W0) (vs.getD i undef) (args.getD i .any)
def iA (r:AV)(v:Value):Ending:=match dv r with
 |none=>.returned v
 |some _=>.panicked [{v:=v,recovered:=false}]
def unR (t:Ret):Ret:=match dv t.r with
 |none=>t
 |some a=>⟨a,t.bs⟩
theorem sy {r:AV}(h:dv r=none)(v:Value):iA r v= .returned v:=by grind [iA]
theorem xX {t:Ret}(h:dv t.r=none):unR t=t:=by grind [unR]
theorem adu {r a:AV}(h:dv r=some a)(v:Value):iA r v= .panicked [{v:=v,recovered:=false}]:=by grind [iA]
theorem agJ {t:Ret}{a:AV}(h:dv t.r=some a):unR t=⟨a,t.bs⟩:=by grind [unR]
def fq (P:Program)(N:Nums)(f:Nat)(args:B7)(bs:C5)(t:Ret):Prop:=
 ∀(C:Ctx)(vs:Array Value),Entry C N vs args bs->Calls P (N.num f) vs C.W0 λe w'=> ∃v,e=iA t.r v/\ ∃S1 β1,RetC C bs.length w' v (unR t) S1 β1
theorem fH {k:Nat}: ∀{D:Cc}{i:Nat},idx k D=some i->D[i]? =some k
 | [],_,h=>by cases h
 |x::r,i,h=>by
  simp only[idx] at h;split at h
  ·grind
  ·obtain ⟨j,h1,rfl⟩:=map_some h
   simpa using fH h1
theorem idx_at {k:Nat}: ∀{D:Cc},k∈D-> ∃i,idx k D=some i
 |x::r,h=>by
  simp only[idx];split
  ·grind
  ·rename_i e
   obtain ⟨i,hi⟩:=idx_at (D:=r) (by simpa[Ne.symm e] using h)
   grind
theorem wo: ∀l:Cc,(fy l).Nodup:=by
 intro z0;induction z0<;>grind [fy]
theorem eF {k:Nat}: ∀{l:Cc},k∈fy l↔k∈l
 | []=>by simp[fy]
 |x::r=>by
  simp only[fy];cases h:(fy r).contains x with
  |true=>
   have hx:x∈r:=eF.1 (by grind)
   simp only[cond_true,AI];rw[eF]
   grind
  |false=>simp only[cond_false,AI,eF]
theorem we: ∀{l:Cc},d9 l=true->l.Nodup:=by
 intro z0;induction z0<;>simp_all[d9]
theorem qk: ∀{l:Cc},l.Nodup-> ∀{i j k:Nat},l[i]? =some k->l[j]? =some k->i=j:=by
 intro z0;induction z0<;>grind
theorem yt: ∀(l:B7)(i:Nat),aM l=true->(l.getD i .any).pure=true
 | [],_,_=>rfl
 |a::r,0,h=>by grind [aM]
 |a::r,i+1,h=>by simp only[aM,At] at h;simpa using yt r i h.2
theorem ze {hg:HF}{φ:Nat->Nat->Tgt}: ∀{D:Cc}{bs:C5},jo hg φ D=some bs->bs.length=D.length/\ ∀(i k:Nat),D[i]? =some k-> ∃g b,hg k=some (g,b)/\bs[i]? =some (b.ren φ)
 | [],bs,h=>by grind [jo]
 |k::r,bs,h=>by
  simp only[jo] at h;split at h
  ·rename_i g b bs' h1 h2
   obtain rfl:=Ad h;obtain ⟨q1,q2⟩:=ze h2
   grind
  ·cases h
section
variable {P:Program} {C:Ctx} {U:Nat->Prop} {hp:HF} {w:World} {S:Nat->Prop} {β:Nat->Place} {used:Nat->Nat->Prop} {g:Nat} {N:Nums}
def dP (C:Ctx)(hp:HF)(w:World)(S:Nat->Prop)(β:Nat->Place)(D fz:Cc):Ctx where
 num:=C.num
 tnum:=C.tnum
 W0:=w
 X b:= ∃k∈D,(β k).isNil=false/\(β k).blk=b
 S0 b:=S b/\ ¬ ∃k∈fz,∃x,hp k=some x/\(β k).isNil=false/\(β k).blk=b
 π i:=β (D.getD i 0)
 n:=0
section
variable (h:HI C U hp w S β used)(hn:ew N C)
include h hn
theorem yV (D fz:Cc)(hD: ∀k∈D,∃x,hp k=some x):ew N (dP C hp w S β D fz):=by
 have nS0: ∀b,b<C.W0.heap.size-> ¬C.S0 b-> ¬S b:=λb q1 q3 hs=>by
  rcases (h.s b hs).2 with z|z
  all_goals grind
 have nX: ∀b,¬S b-> ¬(dP C hp w S β D fz).X b:=by
  rintro b nS ⟨k,hk,hnn,rfl⟩
  obtain ⟨⟨g',b'⟩,hx⟩:=hD k hk;exact nS ((h.at_ k g' b' hx).2.1 hnn).1
 refine ⟨hn.1,λg cs h1 h2=>?_,λg o hg=>?_⟩
 rotate_left
 ·obtain ⟨q1,q2,q3,q4⟩:=hn.2.2 g o hg
  have nS:=nS0 g q1 q3;exact ⟨BS q1 h.kept.size,nX g nS,λz=>nS z.1,(h.kept.block g q1 q2).trans q4⟩
 refine V.pure_env (E:=E0 C) (E':=E0 (dP C hp w S β D fz)) (λb o u q=>?_) rfl rfl (hn.2.1 g cs h1 h2) (by grind [AV.pure])
 obtain ⟨q1,q2,q3,q4,q5⟩:=q
 have nS: ¬S b:=λhs=>by
  grind
 refine ⟨BS q1 h.kept.size,?_,λz=>nS z.1,?_,q5⟩
 ·grind
 ·rw[show (dP C hp w S β D fz).W0=w from rfl,World.cell?_of_block (h.kept.block b q1 q2)];exact q4
theorem VN (ht:C.tnum=N.tnum){raw:Bool}{args:B7}{vs:Array Value}(hsz:vs.size=args.length)(hv: ∀i,i<args.length->V (aP C S β used hp w) (vs.getD i undef) (args.getD i .any)){c:CIn}(hc:fg hp raw args=some c):
  Entry (dP C hp w S β c.D c.fz) N vs c.args c.bs/\c.D.Nodup/\(∀k∈c.D,∃x,hp k=some x)/\(∀k∈c.fz,k∉c.D)/\c.bs.length=c.D.length:=by
 unfold fg at hc;split at hc
 ·rename_i hk
  obtain rfl:=Ad hc;refine ⟨⟨yV h hn [] [] (by simp),ht,⟨.refl _ _,λb hb=>⟨(h.s b hb.1).1,.inr hb⟩,λb hb=>(h.s b hb.1).1,λb hb _=>hb,λk g hu=>hu.2,λk g b q=>by grind [hpB],λk k' x x' q=>by grind [hpB],λk b q=>by grind⟩,hsz,λi hi=>?_⟩,List.nodup_nil,by simp,by simp,rfl⟩
  have hpur:=kx args hk;have hpu:(args.getD i .any).pure=true:=yt args i hpur;exact V.pure_env (E:=aP C S β used hp w) (E':=aP (dP C hp w S β [] []) (dP C hp w S β [] []).S0 (dP C hp w S β [] []).π (ij 0) (hpB []) w) (λb o u q=>⟨λq'=>q.1 q'.1,q.2⟩) rfl rfl (hv i hi) hpu
 ·rename_i K hK
  obtain ⟨bs,hb,rfl⟩:=map_some hc;generalize hD:gZ hp raw args=D at hb⊢
  have hnd:D.Nodup:=by
   rw[<-hD];unfold gZ
   split
   all_goals grind [ru,wo,eF]
  generalize hfz:(cm true args).filter (λk=> !D.contains k)=fz at hb⊢
  have hfzD: ∀k∈fz,k∉D:=λk hk=>by grind
  obtain ⟨e1,e2⟩:=ze hb
  have hlive: ∀k∈D,∃x,hp k=some x:=λk hk=>by
   obtain ⟨i,hi⟩:=idx_at hk;obtain ⟨g,b,q,_⟩:=e2 i k (fH hi)
   grind
  have hπ: ∀i k,D[i]? =some k->(dP C hp w S β D fz).π i=β k:=λi k hi=>by
   show β (D.getD i 0)=_
   grind
  have hr:RenOk (aP C S β used hp w) (aP (dP C hp w S β D fz) (dP C hp w S β D fz).S0 (dP C hp w S β D fz).π (ij bs.length) (hpB bs) w) (sC hp D fz):=by
   refine ⟨λb o u q=>⟨λq'=>q.1 q'.1,q.2⟩,rfl,rfl,λk g hu=>?_⟩
   unfold sC;cases hk:hp k with
   |none=>trivial
   |some x=>
    obtain ⟨g',b⟩:=x;dsimp only
    by_cases eg:g'=g
    ·subst eg
     rw[Ac rfl];cases hi:idx k D with
     |some i=>
      have hDi:=fH hi;obtain ⟨g2,b2,q1,q2⟩:=e2 i k hDi
      have hlt:i<bs.length:=by
       grind
      refine ⟨⟨hlt,rfl⟩,λp hp'=>?_⟩
      grind [fF,bA]
     |none=>
      dsimp only;cases hq:(fz.contains k&&b.pure) with
      |false=>trivial
      |true=>
       simp only[At] at hq;refine ⟨β k,bA hk,?_⟩;refine FM (h.at_ k g' b hk).2.2 hq.2 (λb o u q=>⟨λq'=>q.1 q'.1,q.2⟩) rfl rfl λo u hc1 h1 hnn=>⟨λq=>q.2 ⟨k,by grind,_,hk,hnn,rfl⟩,hc1,h1⟩
    grind
  refine ⟨⟨yV h hn D fz hlive,ht,⟨.refl _ _,λb hb=>⟨(h.s b hb.1).1,.inr hb⟩,λb hb=>(h.s b hb.1).1,λb hb _=>hb,λk g hu=>hu.2,λi g b q=>?_,λi i' x x' q q' n1 n2 hbk=>?_,λk b q=>rfl⟩,by grind [bH],λi hi=>?_⟩,hnd,hlive,hfzD,e1⟩
  ·obtain ⟨b',q1,q2⟩:=map_some q
   have hlt:i<bs.length:=by
    grind
   obtain ⟨rfl,rfl⟩:=Prod.mk.inj q2;have hDi:D[i]? =some (D[i]'(by omega)):=by grind
   obtain ⟨g2,b2,y1,y2⟩:=e2 i _ hDi;rw[q1] at y2;obtain rfl:=Ad y2;obtain ⟨z1,z2,z3⟩:=h.at_ _ g2 b2 y1;rw[hπ i _ hDi];refine ⟨⟨hlt,rfl⟩,λhnn=>⟨⟨(z2 hnn).1,?_⟩,.inr ⟨_,List.getElem_mem _,hnn,rfl⟩⟩,z3.ren hr⟩
   rintro ⟨k',hk',x',hx',hn',hb'⟩
   have:=h.inj k' _ _ _ hx' y1 hn' hnn hb'
   grind
  ·have at1: ∀i x,hpB bs i=some x-> ∃k,D[i]? =some k/\ ∃y,hp k=some y:=λi x q=>by
    obtain ⟨b',q1,_⟩:=map_some q
    have hlt:i<bs.length:=by
     grind
    have hDi:D[i]? =some (D[i]'(by omega)):=by grind
    grind
   obtain ⟨k,d1,y,l1⟩:=at1 i x q;obtain ⟨k',d2,y',l2⟩:=at1 i' x' q';rw[hπ i k d1] at n1 hbk;rw[hπ i' k' d2] at n2 hbk;have:=h.inj k k' _ _ l1 l2 n1 n2 hbk
   grind [qk]
  ·rw[bH] at hi
   rw[gW];exact (hv i hi).ren hr
end
end
end Go.AM
