/- An abstract machine for programs of this language: its functions give what the calls of the program give (theorem gives_fsem). -/
import Derived.Test.YtekpmkbdjkoooaaGreatDoorMachineA
set_option linter.unusedVariables false
set_option linter.unusedSimpArgs false
namespace Go.AM
open Go.RowKit
theorem map_some {α β:Type}{f:α→β}{x:Option α}{y:β}(h:x.map f=some y): ∃a,x=some a∧f a=y:=by
 cases x with
 |none=>cases h
 |some a=>exact ⟨a,rfl,by simpa using h⟩
section
variable {P:Program} {C:Ctx} {U:Nat→Prop} {hp:HF} {w:World} {S:Nat→Prop} {β:Nat→Place} {used:Nat→Nat→Prop} {g:Nat} {N:Nums} {ρ:Operand→Value} {ev:Opd→AV}
theorem ahK (h:Sit P C U hp w S β used g N ρ ev){o:Oper}{ao:AOp}(hc:bn P N o=some ao)(hcall: ∀f args,ao≠ .call f args){key:Nat}{e:Eff}(he:aH ao g key (ao.opds.map ev) hp=some e):
  Out1 P C U hp w S β used g e ((execOp ρ o).run P w):=by
 cases ho:o.op with
 |move x|assign x=>
  simp only[bn,ho] at hc;obtain ⟨a,h1,rfl⟩:=map_some hc;exact ahM h (by rw[ho];simp) h1 he
 |pick c a b=>
  simp only[bn,ho] at hc;split at hc
  ·rename_i c' a' b' h1 h2 h3
   obtain rfl:=Ai hc;exact aeS h ho h1 h2 h3 he
  ·cases hc
 |box t x=>
  simp only[bn,ho] at hc;obtain ⟨a,h1,rfl⟩:=map_some hc;exact aga h ho h1 he
 |alloc t=>
  simp only[bn,ho] at hc;obtain ⟨a,h1,rfl⟩:=map_some hc;exact abD h ho h1 he
 |build t parts=>
  simp only[bn,ho] at hc;split at hc
  ·rename_i pl z xs h1 h2 h3
   obtain ⟨ps,h4,rfl⟩:=map_some hc;exact abC h ho h1 h2 h3 h4 he
  ·cases hc
 |buildSlice t n parts=>
  simp only[bn,ho] at hc;split at hc
  ·rename_i el hu
   split at hc
   ·rename_i s z xs h1 h2 h3
    split at hc
    ·rename_i hz
     obtain rfl:=Ai hc;exact af9 h ho hu h1 h2 hz.2 h3 he
    ·cases hc
   ·cases hc
  ·cases hc
 |load t a=>
  simp only[bn,ho] at hc;split at hc
  ·rename_i sz a' h1 h2
   split at hc
   ·rename_i h0
    obtain rfl:=Ai hc;exact aeW h ho h1 h0 h2 he
   ·cases hc
  ·cases hc
 |store t a x=>
  simp only[bn,ho] at hc;split at hc
  ·rename_i s a' x' h1 h2 h3
   obtain rfl:=Ai hc;exact abu h ho h1 h2 h3 he
  ·cases hc
 |fieldAddr t x f=>
  simp only[bn,ho] at hc;split at hc
  ·rename_i fs hu
   split at hc
   ·rename_i fl hf
    split at hc
    ·rename_i s x' h1 h2
     split at hc
     ·rename_i h0
      obtain rfl:=Ai hc;exact ae3 h ho hu hf h1 h0 h2 he
     ·cases hc
    ·cases hc
   ·cases hc
  ·cases hc
 |field t x f=>
  simp only[bn,ho] at hc;split at hc
  ·rename_i fs hu
   split at hc
   ·rename_i fl hf
    split at hc
    ·rename_i s x' h1 h2
     obtain rfl:=Ai hc;exact ae2 h ho hu hf h1 h2 he
    ·cases hc
   ·cases hc
  ·cases hc
 |indexAddr t x i=>
  simp only[bn,ho] at hc;split at hc
  ·rename_i el hu
   split at hc
   ·rename_i s x' i' h1 h2 h3
    obtain rfl:=Ai hc;exact ae1 h ho hu h1 h2 h3 he
   ·cases hc
  ·rename_i n el hu
   split at hc
   ·rename_i s x' i' h1 h2 h3
    obtain rfl:=Ai hc;exact ae0 h ho hu h1 h2 h3 he
   ·cases hc
  ·cases hc
 |index t x i=>
  simp only[bn,ho] at hc;split at hc
  ·rename_i hu
   split at hc
   ·rename_i x' i' h1 h2
    obtain rfl:=Ai hc;exact aeZ h ho hu h1 h2 he
   ·cases hc
  ·rename_i n el hu
   split at hc
   ·rename_i s sz x' i' h1 h2 h3 h4
    obtain rfl:=Ai hc;exact aeY h ho hu h1 h2 h3 h4 he
   ·cases hc
  ·cases hc
 |binOp op t x y t'=>
  simp only[bn,ho] at hc;split at hc
  case h_2=>cases hc
  rename_i a b h1 h2
  have eqc: ∀neg:Bool,op=(if neg=true then .neq else .eql)→ra P t neg x y a b=some ao→Out1 P C U hp w S β used g e ((execOp ρ o).run P w):=by
   intro neg hop hce;subst hop;unfold ra at hce;split at hce
   ·obtain rfl:=Ai hce;exact LW h ho h1 h2 he
   ·obtain rfl:=Ai hce;exact LW h ho h1 h2 he
   ·rename_i hu;obtain rfl:=Ai hce;exact af7 h ho hu h1 h2 he
   ·rename_i el hu;obtain rfl:=Ai hce;exact tq h ho (k:=.ptr) ⟨_,hu⟩ (.inl ⟨⟨_,hu⟩,fun ms q=>by rw[hu] at q;cases q⟩) h1 h2 he
   ·rename_i el hu;obtain rfl:=Ai hce;exact tq h ho (k:=.slice) ⟨_,hu⟩ (.inl ⟨⟨_,hu⟩,fun ms q=>by rw[hu] at q;cases q⟩) h1 h2 he
   ·rename_i kt el hu;obtain rfl:=Ai hce;exact tq h ho (k:=.map) ⟨_,_,hu⟩ (.inl ⟨⟨_,_,hu⟩,fun ms q=>by rw[hu] at q;cases q⟩) h1 h2 he
   ·rename_i x1 x2 x3 hu;obtain rfl:=Ai hce;exact tq h ho (k:=.func) ⟨_,_,_,hu⟩ (.inl ⟨⟨_,_,_,hu⟩,fun ms q=>by rw[hu] at q;cases q⟩) h1 h2 he
   ·rename_i ms hu
    split at hce
    ·rename_i hcn
     obtain rfl:=Ai hce;exact tq h ho (k:=.iface) ⟨_,hu⟩ (.inr hcn) h1 h2 he
    ·cases hce
   ·rename_i fs hu
    split at hce
    ·rename_i hg
     obtain ⟨ks,h4,rfl⟩:=map_some hce;exact af6 h ho hu hg h4 h1 h2 he
    ·cases hce
   ·cases hce
  cases op<;>dsimp only at hc
  case eql=>exact eqc false rfl hc
  case neq=>exact eqc true rfl hc
  all_goals (obtain rfl:=Ai hc;exact LW h ho h1 h2 he)
 |unOp op t x=>
  simp only[bn,ho] at hc;obtain ⟨a,h1,rfl⟩:=map_some hc;exact ahL h ho h1 he
 |convert s d x=>
  simp only[bn,ho] at hc;split at hc
  ·rename_i k0 k x' h1 h2 h3
   obtain rfl:=Ai hc;exact ae4 h ho h1 h2 h3 he
  ·rename_i x' h1 h2 h3
   obtain rfl:=Ai hc;exact af3 h ho h1 h2 h3 he
  ·rename_i el x' h1 h2 h3
   split at hc
   ·rename_i hel
    rw[Ad rfl] at hc;obtain rfl:=Ai hc;exact af4 h ho h1 h2 hel h3 he
   ·rw[Ac (by simp)] at hc;cases hc
  ·rename_i el x' h1 h2 h3
   split at hc
   ·rename_i hel
    rw[Ad rfl] at hc;obtain rfl:=Ai hc;exact agb h ho h1 hel h2 h3 he
   ·rw[Ac (by simp)] at hc;cases hc
  ·cases hc
 |makeMap t r=>
  cases r with
  |some r=>simp[bn,ho] at hc
  |none=>
   simp only[bn,ho] at hc;split at hc
   ·obtain rfl:=Ai hc
    exact abz h ho he
   ·cases hc
 |lookup t x i ok=>
  cases ok with
  |true=>simp[bn,ho] at hc
  |false=>
   simp only[bn,ho] at hc;split at hc
   ·rename_i kt et hu
    split at hc
    ·rename_i st ks z x' i' h1 h2 h3 h4
     obtain rfl:=Ai hc;exact aby h ho hu h1 h2 h3 h4 he
    ·cases hc
   ·cases hc
 |mapUpdate t x i v=>
  simp only[bn,ho] at hc;split at hc
  ·rename_i kt et hu
   split at hc
   ·rename_i st ks x' i' v' h1 h2 h3 h4
    obtain rfl:=Ai hc;exact aeT h ho hu h1 h2 h3 h4 he
   ·cases hc
  ·cases hc
 |makeFunc fn first cap=>
  simp only[bn,ho] at hc;cases fn with
  |func f=>
   dsimp only at hc;split at hc
   ·rename_i hf
    split at hc
    ·rename_i h0
     obtain ⟨xs,h1,rfl⟩:=map_some hc;exact aeV h ho hf.1 hf.2 h0 h1 he
    ·split at hc
     ·rename_i h0
      obtain ⟨xs,h1,rfl⟩:=map_some hc;exact abB h ho hf.1 h0.1 h1 h0.2 he
     ·cases hc
   ·cases hc
  |_=>cases hc
 |makeSlice t n c=>
  simp only[bn,ho] at hc;split at hc
  ·rename_i el hu
   split at hc
   ·rename_i i z n' c' h1 h2 h3 h4
    split at hc
    ·rename_i h0
     obtain rfl:=Ai hc;exact aeU h ho hu h1 h0 h2 h3 h4 he
    ·cases hc
   ·cases hc
  ·cases hc
 |slice t x lo hi mx=>
  simp only[bn,ho] at hc;split at hc
  ·rename_i el hu
   split at hc
   ·rename_i s x' lo' hi' mx' h1 h2 h3 h4 h5
    obtain rfl:=Ai hc;exact af2 h ho hu h1 h2 h3 h4 h5 he
   ·cases hc
  ·rename_i hu
   split at hc
   ·rename_i x' lo' hi' h2 h3 h4
    obtain rfl:=Ai hc;exact abv h ho hu h2 h3 h4 he
   ·cases hc
  ·rename_i n el hu
   split at hc
   ·rename_i s x' h1 h2
    obtain rfl:=Ai hc;exact abw h ho hu h1 h2 he
   ·cases hc
  ·cases hc
 |extract x i=>
  simp only[bn,ho] at hc;obtain ⟨a,h1,rfl⟩:=map_some hc;exact af5 h ho h1 he
 |makeInterface t x=>
  simp only[bn,ho] at hc;split at hc
  ·rename_i ht
   split at hc
   ·rename_i fs hu
    obtain ⟨a,h1,rfl⟩:=map_some hc;exact abA h ho ht hu h1 he
   ·cases hc
  ·cases hc
 |panic x=>
  simp only[bn,ho] at hc;obtain ⟨a,h1,rfl⟩:=map_some hc;cases he
 |nilCheck x=>
  simp only[bn,ho] at hc;obtain ⟨a,h1,rfl⟩:=map_some hc;exact abx h ho h1 he
 |call c=>
  obtain ⟨callee,args,argTypes⟩:=c;cases callee with
  |value f=>
   simp only[bn,ho] at hc;split at hc
   ·obtain rfl:=Ai hc
    exact absurd rfl (hcall _ _)
   ·cases hc
  |invoke r m=>simp[bn,ho] at hc
  |builtin b=>
   simp only[bn,ho] at hc;split at hc
   ·rename_i x t hx ht
    have hargs:args= #[x]:=by rw[←Array.toArray_toList (xs:=args),hx]
    have hts:argTypes[0]? =some t:=by rw[←Array.getElem?_toList,ht];rfl
    split at hc
    ·rename_i hu
     obtain ⟨a,h1,rfl⟩:=map_some hc;exact Ye h ho rfl hargs hts (.inl ⟨rfl,hu⟩) h1 he
    ·rename_i el hu
     obtain ⟨a,h1,rfl⟩:=map_some hc;exact Ye h ho rfl hargs hts (.inr ⟨rfl,_,hu⟩) h1 he
    ·rename_i n el hu
     obtain ⟨a,h1,rfl⟩:=map_some hc;exact aeX h ho rfl hargs hts hu he
    ·cases hc
   ·rename_i x y t u hx ht
    have hargs:args= #[x,y]:=by rw[←Array.toArray_toList (xs:=args),hx]
    have hts:argTypes= #[t,u]:=by rw[←Array.toArray_toList (xs:=argTypes),ht]
    split at hc
    ·rename_i el hu
     split at hc
     ·rename_i i x' y' h1 h2 h3
      split at hc
      ·rename_i e' hk
       split at hc
       ·rename_i hq
        obtain rfl:=Ai hc;exact Yf h ho rfl hargs hts hu h1 hq.1.1 hq.1.2 (.inl ⟨_,hk⟩) h2 h3 he
       ·cases hc
      ·rename_i hk
       split at hc
       ·rename_i hq
        obtain rfl:=Ai hc;exact Yf h ho rfl hargs hts hu h1 hq.1.1 hq.1.2 (.inr hk) h2 h3 he
       ·cases hc
      ·rw[Ac (by simp)] at hc;cases hc
     ·cases hc
    ·cases hc
   ·rename_i x t hx ht
    have hargs:args= #[x]:=by rw[←Array.toArray_toList (xs:=args),hx]
    have hts:argTypes= #[t]:=by rw[←Array.toArray_toList (xs:=argTypes),ht]
    split at hc
    ·rename_i el hu
     split at hc
     ·rename_i i z x' h1 h2 h3
      split at hc
      ·rename_i h0
       obtain rfl:=Ai hc;exact af8 h ho rfl hargs hts hu h1 h2 h0 h3 he
      ·cases hc
     ·cases hc
    ·cases hc
   ·rename_i xs ts hx
    obtain ⟨a,h1,rfl⟩:=map_some hc;exact Fp (m:=false) h ho rfl h1 he
   ·rename_i xs ts hx
    obtain ⟨a,h1,rfl⟩:=map_some hc;exact Fp (m:=true) h ho rfl h1 he
   ·cases hc
 |_=>simp[bn,ho] at hc
end
end Go.AM
namespace Go.AM
open Go.RowKit
theorem Jl {hg hg':HF}{D:List Nat}(h: ∀k∈D,hg k=hg' k):oc hg D=oc hg' D:=by
 unfold oc
 induction D with
 |nil=>rfl
 |cons d r ih=>rw[List.all_cons,List.all_cons,h d (by simp),ih fun k hk=>h k (by simp[hk])]
theorem zH {hg hg':HF}{D:List Nat}(h: ∀k∈D,hg k=hg' k):iR hg D=iR hg' D:=by
 funext k g
 unfold iR;cases hD:D.contains k with
 |false=>rfl
 |true=>rw[h k (by simpa using hD)]
theorem sM {hg hg':HF}{a:AV}{cs:List AV}{r:List Nat}(h:cI hg a=some (cs,r))(hr: ∀k∈r,hg k=hg' k):cI hg' a=some (cs,r):=by
 cases a with
 |rp=>exact h
 |ref k g o=>
  have hk:r= [k]:=by
   simp only[cI] at h;split at h
   ·split at h
    ·exact (Prod.mk.inj (Ai h)).2.symm
    ·cases h
   ·cases h
  subst hk;simp only[cI] at h⊢;rw[←hr k (by simp)];exact h
 |er k g i o=>
  have hk:r= [k]:=by
   simp only[cI] at h;split at h
   ·split at h
    ·split at h
     ·exact (Prod.mk.inj (Ai h)).2.symm
     ·cases h
    ·cases h
   ·cases h
  subst hk;simp only[cI] at h⊢;rw[←hr k (by simp)];exact h
 |_=>simp[cI] at h
theorem Rq (hg hg':HF)(x:Value):cG hg (.con x)=cG hg' (.con x):=by
 cases x<;>first|rfl|skip
 rename_i a n c;cases a<;>cases n<;>cases c<;>rfl
theorem WZ (hg hg':HF)(s:Nat)(x:Value):aH.appSrc hg s (.con x)=aH.appSrc hg' s (.con x):=by
 cases x<;>first|rfl|skip
 rename_i a n c;cases a<;>cases n<;>cases c<;>rfl
theorem JC {hg hg':HF}{a:AV}{es:List (List AV)}{r:List Nat}(h:cG hg a=some (es,r))(hr: ∀k∈r,hg k=hg' k):cG hg' a=some (es,r):=by
 cases a with
 |sl=>exact h
 |con x=>rw[Rq hg' hg];exact h
 |vs k g n=>
  have hk:r= [k]:=by
   simp only[cG] at h;split at h
   ·split at h
    ·split at h
     ·exact (Prod.mk.inj (Ai h)).2.symm
     ·cases h
    ·cases h
   ·cases h
  subst hk;simp only[cG] at h⊢;rw[←hr k (by simp)];exact h
 |vw k g o n=>
  have hk:r= [k]:=by
   simp only[cG] at h;split at h
   ·split at h
    ·split at h
     ·exact (Prod.mk.inj (Ai h)).2.symm
     ·cases h
    ·cases h
   ·cases h
  subst hk;simp only[cG] at h⊢;rw[←hr k (by simp)];exact h
 |_=>simp[cG] at h
theorem uy {hg hg':HF}{s:Nat}{a:AV}{es:List (List AV)}{r:List Nat}(h:aH.appSrc hg s a=some (es,r))(hr: ∀k∈r,hg k=hg' k):aH.appSrc hg' s a=some (es,r):=by
 cases a with
 |sl=>exact h
 |str=>exact h
 |con x=>rw[WZ hg' hg];exact h
 |vs k g n=>
  have hk:r= [k]:=by
   simp only[aH.appSrc] at h;split at h
   ·split at h
    ·split at h
     ·exact (Prod.mk.inj (Ai h)).2.symm
     ·cases h
    ·cases h
   ·cases h
  subst hk;simp only[aH.appSrc] at h⊢;rw[←hr k (by simp)];exact h
 |vw k g o n=>
  have hk:r= [k]:=by
   simp only[aH.appSrc] at h;split at h
   ·split at h
    ·split at h
     ·exact (Prod.mk.inj (Ai h)).2.symm
     ·cases h
    ·cases h
   ·cases h
  subst hk;simp only[aH.appSrc] at h⊢;rw[←hr k (by simp)];exact h
 |_=>simp[aH.appSrc] at h
theorem OD {s:Nat}{z:List AV}{k g' o n:Nat}{hg:HF}{e:Eff}(h:pw s z k g' o n hg=some e):e.sf= []∧k∈e.rd:=by
 unfold pw at h;split at h
 ·split at h
  ·obtain rfl:=Ai h;exact ⟨rfl,by simp⟩
  ·cases h
 ·cases h
theorem AG {s:Nat}{z:List AV}{k g' o n:Nat}{hg hg':HF}{e:Eff}(h:pw s z k g' o n hg=some e)(hr: ∀k∈e.rd,hg k=hg' k):pw s z k g' o n hg'=some e:=by
 have hk:=hr k (OD h).2;unfold pw at h⊢;rw[←hk];exact h
theorem zf {st:Bool}{ks:List LK}{z:AV}{k g':Nat}{i:AV}{hg:HF}{e:Eff}(h:mZ st ks z k g' i hg=some e):e.sf= []∧k∈e.rd:=by
 unfold mZ at h;split at h
 ·split at h
  ·obtain rfl:=Ai h;exact ⟨rfl,by simp⟩
  ·cases h
 ·cases h
theorem Mj {st:Bool}{ks:List LK}{z:AV}{k g':Nat}{i:AV}{hg hg':HF}{e:Eff}(h:mZ st ks z k g' i hg=some e)(hr: ∀k∈e.rd,hg k=hg' k):mZ st ks z k g' i hg'=some e:=by
 have hk:=hr k (zf h).2;unfold mZ at h⊢;rw[←hk];exact h
theorem Fw {st:Bool}{ks:List LK}{k g':Nat}{i v:AV}{hg:HF}{e:Eff}(h:pY st ks k g' i v hg=some e):e.sf= []∧k∈e.rd:=by
 unfold pY at h;split at h
 ·split at h
  ·obtain rfl:=Ai h;exact ⟨rfl,by simp⟩
  ·cases h
 ·cases h
theorem QP {st:Bool}{ks:List LK}{k g':Nat}{i v:AV}{hg hg':HF}{e:Eff}(h:pY st ks k g' i v hg=some e)(hr: ∀k∈e.rd,hg k=hg' k):pY st ks k g' i v hg'=some e:=by
 have hk:=hr k (Fw h).2;unfold pY at h⊢;rw[←hk];exact h
theorem Xa {ao:AOp}{g key:Nat}{vals:List AV}{hg hg':HF}{e:Eff}(h:aH ao g key vals hg=some e)(hr: ∀k∈e.rd,hg k=hg' k):aH ao g key vals hg'=some e:=by
 unfold aH at h;split at h
 all_goals (first|exact h|skip)
 ·
  simp only[aH];split at h
  ·rename_i hc
   rw[Ad hc];generalize ce true vals=D at h⊢;cases D with
   |nil=>exact h
   |cons d r=>
    dsimp only at h⊢;obtain ⟨es,h1,rfl⟩:=map_some h;rw[←zH (D:=d::r) (hg:=hg) (hg':=hg') (fun k hk=>hr k hk)]
    exact h
  ·cases h
 ·
  simp only[aH];split at h
  ·rename_i cs r hc
   obtain ⟨v,h1,rfl⟩:=map_some h;rw[sM hc hr];simp only[h1];rfl
  ·cases h
 ·
  rename_i sz a' x' a x;simp only[aH];cases hc:cQ x with
  |none=>rw[hc] at h;cases h
  |some cs=>
   rw[hc] at h;dsimp only at h⊢;split at h
   case isFalse=>cases h
   rename_i hl;rw[Ad hl];cases a with
   |ref k g' o=>
    dsimp only at h⊢
    have hk:k∈e.rd:=by
     split at h
     ·split at h
      ·split at h
       ·obtain rfl:=Ai h;simp
       ·cases h
      ·cases h
     ·cases h
    rw[←hr k hk];exact h
   |er k g' i o=>
    dsimp only at h⊢
    have hk:k∈e.rd∧(∀d∈ce true cs,d∈e.rd):=by
     split at h
     ·split at h
      ·split at h
       ·split at h
        ·rename_i hD;obtain rfl:=Ai h;simp[hD]
        ·rename_i D hD
         cases hb:(ce true cs).contains k with
         |true=>rw[hb] at h;cases h
         |false=>
          rw[hb,cond_false] at h;cases hK:oc hg (ce true cs) with
          |true=>rw[hK,cond_true] at h;obtain rfl:=Ai h;simp;intro d hd;exact .inr hd
          |false=>rw[hK,cond_false] at h;obtain rfl:=Ai h;simp;intro d hd;exact .inr hd
       ·cases h
      ·cases h
     ·cases h
    rw[←hr k hk.1];generalize ce true cs=D at h hk⊢;cases D with
    |nil=>exact h
    |cons d r=>dsimp only at h⊢;rw[←Jl (D:=d::r) (hg:=hg) (hg':=hg') (fun d hd=>hr d (hk.2 d hd)),←zH (D:=d::r) (hg:=hg) (hg':=hg') (fun d hd=>hr d (hk.2 d hd))];exact h
   |_=>cases h
 ·
  simp only[aH];split at h
  ·split at h
   ·exact h
   ·rename_i k g' n
    have hk:k∈e.rd:=by
     split at h
     ·split at h
      ·split at h
       ·obtain rfl:=Ai h;simp
       ·cases h
      ·cases h
     ·cases h
    rw[←hr k hk];exact h
   ·rename_i k g' o n
    have hk:k∈e.rd:=by
     split at h
     ·split at h
      ·split at h
       ·obtain rfl:=Ai h;simp
       ·cases h
      ·cases h
     ·cases h
    rw[←hr k hk];exact h
   ·cases h
  ·cases h
 ·
  simp only[aH];split at h
  ·rename_i es r hc
   obtain ⟨v,h1,rfl⟩:=map_some h;rw[JC hc hr];simp only[h1];rfl
  ·cases h
 ·
  rename_i s x' lo hi mx x bs;simp only[aH];cases hl:kP x with
  |none=>rw[hl] at h;cases h
  |some n=>
   rw[hl] at h;dsimp only at h⊢;cases hb:aH.slBounds lo.isSome hi.isSome mx.isSome n bs with
   |none=>rw[hb] at h;cases h
   |some lh=>
    rw[hb] at h;dsimp only at h⊢;split at h
    ·exact h
    ·exact h
    ·rename_i k g' n'
     have hk:k∈e.rd:=by
      split at h
      ·split at h
       ·split at h<;>(obtain rfl:=Ai h;simp)
       ·cases h
      ·cases h
     rw[←hr k hk];exact h
    ·rename_i k g' o n'
     have hk:k∈e.rd:=by
      split at h
      ·split at h
       ·obtain rfl:=Ai h;simp
       ·cases h
      ·cases h
     rw[←hr k hk];exact h
    ·cases h
 ·
  simp only[aH];unfold s9 at h⊢;split at h
  ·rename_i k gk off
   have hk:k∈e.rd:=by
    split at h
    ·split at h
     ·obtain rfl:=Ai h;simp
     ·cases h
    ·cases h
   rw[←hr k hk];exact h
  ·cases h
 ·
  rename_i s bytes x' y' x y;simp only[aH];split at h
  ·cases h
  ·rename_i ys r hs
   split at h
   ·split at h
    ·rename_i hroom
     obtain rfl:=Ai h;rw[uy hs hr];dsimp only;rw[Ad hroom]
    ·cases h
   ·rename_i k g' n
    have hk:k∈e.rd∧ ∀d∈r,d∈e.rd:=by
     split at h
     ·split at h
      ·obtain rfl:=Ai h;simp;intro d hd;exact .inr hd
      ·cases h
     ·cases h
    rw[uy hs (fun d hd=>hr d (hk.2 d hd))]
    dsimp only;rw[←hr k hk.1];exact h
   ·cases h
 ·
  simp only[aH];split at h
  ·exact Mj h hr
  ·cases h
 ·
  simp only[aH];split at h
  ·exact QP h hr
  ·cases h
 ·
  simp only[aH];split at h
  ·exact h
  ·exact AG h hr
  ·exact AG h hr
  ·cases h
 ·cases h
def Sft (sf:List (Nat×Nat×Nat×List AV))(k:Nat)(y:Option (Nat×Blk)):Prop:= ∃g o l,(k,g,o,l)∈sf∧ ∃cs,y=some (g,.cells cs)∧(cs.drop o).take l.length=l
theorem Sft.nil {k:Nat}{y:Option (Nat×Blk)}(h:Sft [] k y):False:=by
 obtain ⟨g,o,l,h,_⟩:=h;cases h
theorem afw {ao:AOp}{g key:Nat}{vals:List AV}{hg:HF}{e:Eff}(h:aH ao g key vals hg=some e):e.sf= []∨ ∃sz x a,ao= .load sz x∧vals= [a]:=by
 unfold aH at h;split at h
 all_goals first
  |(right;exact ⟨_,_,_,rfl,rfl⟩)
  |(left;split at h<;>first|exact (zf h).1|exact (Fw h).1|(cases h;done))
  |(left;split at h<;>first|exact (OD h).1|(obtain rfl:=Ai h;rfl)|(cases h;done))
  |(left;(repeat' split at h)<;>first|(cases h;done)|(obtain rfl:=Ai h;rfl)|(obtain ⟨_,_,rfl⟩:=map_some h;rfl)|(simp only[Bool.cond_eq_ite] at h;(repeat' split at h)<;>first|(cases h;done)|(obtain rfl:=Ai h;rfl))|(unfold s9 at h;(repeat' split at h)<;>first|(cases h;done)|(obtain rfl:=Ai h;rfl)))
theorem aaK {ao:AOp}{g key:Nat}{vals:List AV}{hg hg':HF}{e:Eff}(h:aH ao g key vals hg=some e)(hr: ∀k∈e.rd,hg' k=hg k∨Sft e.sf k (hg' k)):aH ao g key vals hg'=some e:=by
 rcases afw h with hs|⟨sz,x,a,rfl,rfl⟩
 ·refine Xa h fun k hk=>?_
  rcases hr k hk with q|q
  ·exact q.symm
  ·rw[hs] at q;exact q.nil.elim
 ·simp only[aH] at h⊢
  cases hc:cI hg a with
  |none=>rw[hc] at h;cases h
  |some x=>
   obtain ⟨cs,r⟩:=x;rw[hc] at h;obtain ⟨v,hv,rfl⟩:=map_some h;dsimp only at hr
   by_cases hall: ∀k∈r,hg' k=hg k
   ·rw[sM hc fun k hk=>(hall k hk).symm]
    simp only[hv];rfl
   ·cases a with
    |ref k g' o=>
     have hgk: ∃cs0,hg k=some (g',.cells cs0)∧cs=cs0.drop o∧r= [k]:=by
      simp only[cI] at hc;split at hc
      ·rename_i g'' cs0 hk
       split at hc
       ·rename_i hg2
        obtain ⟨rfl,rfl⟩:=Prod.mk.inj (Ai hc);exact ⟨cs0,by rw[hk,hg2],rfl,rfl⟩
       ·cases hc
      ·cases hc
     obtain ⟨cs0,h1,rfl,rfl⟩:=hgk;have hk:=(hr k (by simp)).resolve_left (fun q=>hall (by simpa using q))
     obtain ⟨g2,o2,l,hm,cs',hy,hl⟩:=hk;simp only[s8,B5,Prod.mk.injEq] at hm;obtain ⟨_,rfl,rfl,rfl⟩:=hm
     have hlen:((cs0.drop o2).take (sz.getD 1)).length=sz.getD 1:=by
      rw[List.length_take];refine Nat.min_eq_left ?_;unfold d9 at hv;cases sz with
      |none=>
       cases hq:cs0.drop o2 with
       |nil=>rw[hq] at hv;cases hv
       |cons c q=>simp
      |some n=>
       dsimp only at hv;split at hv
       ·assumption
       ·cases hv
     rw[hlen] at hl
     have hp:d9 sz (cs'.drop o2)=some v:=by
      unfold d9 at hv⊢;cases sz with
      |none=>
       simp only[Option.getD_none] at hl hlen;cases hq:cs0.drop o2 with
       |nil=>rw[hq] at hv;cases hv
       |cons c q=>
        rw[hq] at hv hl;cases hq':cs'.drop o2 with
        |nil=>rw[hq'] at hl;simp at hl
        |cons c' q'=>
         rw[hq'] at hl;simp at hl;rw[hl];exact hv
      |some n=>
       simp only[Option.getD_some] at hl hlen;dsimp only at hv⊢;split at hv
       ·rename_i hn
        have hn':n≤(cs'.drop o2).length:=by
         have:=congrArg List.length hl;rw[List.length_take,List.length_take] at this;omega
        rw[Ad hn',hl];exact hv
       ·cases hv
     simp only[cI,hy,if_true];rw[hp];simp only[Option.map_some,s8,hl]
    |rp cs0=>
     exfalso;simp only[cI] at hc;obtain ⟨rfl,rfl⟩:=Prod.mk.inj (Ai hc);exact hall (by simp)
    |er k g' i o=>
     exfalso;apply hall;intro k' hk';rcases hr k' hk' with q|q
     ·exact q
     ·simp only[s8] at q;exact q.nil.elim
    |_=>simp[cI] at hc
end Go.AM
namespace Go.AM
open Go.RowKit
def fy:Option Eff→List Nat
 |some e=>wks e.wr
 |none=>[]
def rdO:Option Eff→List Nat
 |some e=>e.rd
 |none=>[]
def FSt.appO (F:FSt)(d:Option Nat):Option Eff→FSt
 |some e=>F.app d e
 |none=>F.put d gR
theorem od {l:aw}{f:HF}{k:Nat}(h:k∉wks l):hov l f k=f k:=by
 induction l with
 |nil=>rfl
 |cons x r ih=>
  obtain ⟨t,v⟩:=x;simp only[wks,AK,not_or] at h;simp only[hov,up];rw[Ac h.1];exact ih h.2
theorem uY {l:aw}{f f':HF}{k:Nat}(h:k∈wks l):hov l f k=hov l f' k:=by
 induction l with
 |nil=>simp[wks] at h
 |cons x r ih=>
  obtain ⟨t,v⟩:=x;simp only[wks,AK] at h;simp only[hov,up];split
  ·rfl
  ·rename_i hne;exact ih (h.resolve_left hne)
theorem abZ {l l':aw}{f:HF}(h: ∀k∈wks l,k∉wks l'):hov l' (hov l f)=hov l (hov l' f):=by
 funext k
 by_cases h1:k∈wks l
 ·rw[od (h k h1),uY h1]
 ·rw[od (l:=l) h1]
  by_cases h2:k∈wks l'
  ·exact uY h2
  ·rw[od h2,od h2,od h1]
theorem FSt.ext' {F G:FSt}(h1: ∀t,F.tm t=G.tm t)(h2: ∀k,F.hp k=G.hp k):F=G:=by
 cases F;cases G;simp only[FSt.mk.injEq];exact ⟨funext h1,funext h2⟩
theorem og (F:FSt)(d:Option Nat)(e:Option Eff)(k:Nat)(h:k∉fy e):(F.appO d e).hp k=F.hp k:=by
 cases e with
 |none=>rfl
 |some e=>exact od h
theorem kw (F:FSt)(d:Option Nat)(e:Option Eff)(t:Nat)(h:d≠some t):(F.appO d e).tm t=F.tm t:=by
 cases e<;>simp[FSt.appO,FSt.put,FSt.app,h]
theorem aaJ (F:FSt){d d':Option Nat}{e e':Option Eff}(hd: ∀t,d=some t→d'≠some t)(hw: ∀k∈fy e,k∉fy e'):(F.appO d e).appO d' e'=(F.appO d' e').appO d e:=by
 refine FSt.ext' (fun t=>?_) fun k=>?_
 ·by_cases h1:d=some t
  ·rw[kw _ _ _ _ (hd t h1)]
   cases e<;>simp[FSt.appO,FSt.put,FSt.app,h1]
  ·rw[kw (F.appO d' e') _ _ _ h1]
   by_cases h2:d'=some t
   ·cases e'<;>simp[FSt.appO,FSt.put,FSt.app,h2]
   ·rw[kw _ _ _ _ h2,kw _ _ _ _ h1,kw _ _ _ _ h2]
 ·cases e<;>cases e'<;>simp only[FSt.appO,FSt.put,FSt.app]
  exact congrFun (abZ hw) k
abbrev mt:=List (Option Nat×Option Eff)
def FL:mt→(Nat→Bool)→Nat→FSt→FSt
 | [],_,_,F=>F
 |(d,e)::r,L,k,F=>FL r L (k+1) (bif L k then F.appO d e else F)
theorem Bb (t:Nat): ∀(es:mt)(L L':Nat→Bool)(k:Nat)(F F':FSt),(∀j x,es[j]? =some x→L (k+j)≠L' (k+j)→x.1≠some t)→F.tm t=F'.tm t→(FL es L k F).tm t=(FL es L' k F').tm t
 | [],_,_,_,_,_,_,h=>h
 |(d,e)::r,L,L',k,F,F',hj,h=>by
  refine Bb t r L L' (k+1) _ _ (fun j x hx hne=>hj (j+1) x (by simpa using hx) (by rwa [show k+(j+1)=k+1+j from by omega])) ?_
  by_cases hl:L k=L' k
  ·rw[←hl]
   cases L k with
   |false=>exact h
   |true=>
    dsimp only[cond]
    by_cases hd:d=some t
    ·cases e<;>simp[FSt.appO,FSt.put,FSt.app,hd]
    ·rw[kw _ _ _ _ hd,kw _ _ _ _ hd];exact h
  ·have:=hj 0 (d,e) (by simp) (by simpa using hl)
   have q: ∀(b:Bool)(G:FSt),(bif b then G.appO d e else G).tm t=G.tm t:=fun b G=>by cases b;rfl;exact kw _ _ _ _ this
   rw[q,q];exact h
theorem Xm (t:Nat): ∀(es:mt)(L L':Nat→Bool)(k:Nat)(F F':FSt),(∀j x,es[j]? =some x→L (k+j)≠L' (k+j)→t∉fy x.2)→F.hp t=F'.hp t→(FL es L k F).hp t=(FL es L' k F').hp t
 | [],_,_,_,_,_,_,h=>h
 |(d,e)::r,L,L',k,F,F',hj,h=>by
  refine Xm t r L L' (k+1) _ _ (fun j x hx hne=>hj (j+1) x (by simpa using hx) (by rwa [show k+(j+1)=k+1+j from by omega])) ?_
  by_cases hl:L k=L' k
  ·rw[←hl]
   cases L k with
   |false=>exact h
   |true=>
    dsimp only[cond]
    by_cases hd:t∈fy e
    ·cases e with
     |none=>simp[fy] at hd
     |some e=>exact uY hd
    ·rw[og _ _ _ _ hd,og _ _ _ _ hd];exact h
  ·have:=hj 0 (d,e) (by simp) (by simpa using hl)
   have q: ∀(b:Bool)(G:FSt),(bif b then G.appO d e else G).hp t=G.hp t:=fun b G=>by cases b;rfl;exact og _ _ _ _ this
   rw[q,q];exact h
theorem uF: ∀(es:mt)(L:Nat→Bool)(k i:Nat)(d:Option Nat)(e:Option Eff)(F:FSt),es[i]? =some (d,e)→L (k+i)=false→
  (∀j x,es[j]? =some x→i<j→L (k+j)=true→(∀t,d=some t→x.1≠some t)∧ ∀t∈fy e,t∉fy x.2)→
  FL es (fun x=>L x||x==k+i) k F=(FL es L k F).appO d e
 | [],_,_,_,_,_,_,h,_,_=>by simp at h
 |(d0,e0)::r,L,k,0,d,e,F,h,hL,hj=>by
  obtain ⟨rfl,rfl⟩:d0=d∧e0=e:=by simpa using h
  simp only[Nat.add_zero] at hL
  have push: ∀(r:mt)(k':Nat)(G:FSt),k<k'→(∀j x,r[j]? =some x→L (k'+j)=true→(∀t,d0=some t→x.1≠some t)∧ ∀t∈fy e0,t∉fy x.2)→
    FL r (fun x=>L x||x==k) k' (G.appO d0 e0)=(FL r L k' G).appO d0 e0:=by
   intro r
   induction r with
   |nil=>intro k' G _ _;rfl
   |cons x r ih=>
    obtain ⟨d',e'⟩:=x;intro k' G hk hr;simp only[FL];have hne:(k'==k)=false:=by simp;omega
    rw[hne,Bool.or_false];have hr':=fun j x (hx:r[j]? =some x) (hl:L (k'+1+j)=true)=>hr (j+1) x (by simpa using hx) (by rwa [show k'+(j+1)=k'+1+j from by omega])
    cases hl:L k' with
    |false=>exact ih (k'+1) G (by omega) hr'
    |true=>
     dsimp only[cond];obtain ⟨q1,q2⟩:=hr 0 (d',e') (by simp) (by simpa using hl)
     rw[aaJ G q1 q2];exact ih (k'+1) (G.appO d' e') (by omega) hr'
  simp only[FL,Nat.add_zero,hL,beq_self_eq_true,BS,cond_true,cond_false];refine push r (k+1) F (by omega) fun j x hx hl=>hj (j+1) x (by simpa using hx) (by omega) (by rwa [show k+(j+1)=k+1+j from by omega])
 |(d0,e0)::r,L,k,i+1,d,e,F,h,hL,hj=>by
  simp only[FL];have hne:(k==k+(i+1))=false:=by simp
  rw[hne,Bool.or_false]
  have:=uF r L (k+1) i d e (bif L k then F.appO d0 e0 else F) (by simpa using h) (by rwa [show k+1+i=k+(i+1) from by omega])
   (fun j x hx hij hl=>hj (j+1) x (by simpa using hx) (by omega) (by rwa [show k+(j+1)=k+1+j from by omega]))
  rw[show k+(i+1)=k+1+i from by omega]
  exact this
def dM (F:FSt):Option (Nat×Bool)→Option Bool
 |none=>some true
 |some (t,w)=>match F.tm t with
  | .bool b=>some (b==w)
  | .con (.tuple _)=>some false
  |_=>none
theorem ft (A:AS)(g:Option (Nat×Bool)):dM A.fs g=cj A.tm g:=by cases g<;>rfl
def looks (o:AOper):List Nat:=(o.op.opds.filterMap fun| .t n=>some n|_=>none)++(o.guard.map (·.1)).toList
def evF (F:FSt):Opd→AV
 | .t n=>F.tm n
 | .c v=>v
theorem Aa (A:AS):evF A.fs=evo A.tm:=by funext x;cases x<;>rfl
structure OpRel (P:Program)(N:Nums)(n:Nat)(ops:Array Oper)(i:Nat)(o:Oper)(ao:AOper):Prop where
 op:bn P N o=some ao.op
 dst:ao.dst=o.dst
 bd: ∀d,o.dst=some d→d<n
 guard:match o.guard,ao.guard with
  |none,none=>True
  |some (j,w),some (t,w')=>w=w'∧t<D0∧(ops[j]?).bind (·.dst)=some t
  |_,_=>False
 after: ∀e∈o.after,Region.binds .any e=true→e.on∈ao.after
 after': ∀j∈ao.after,j<i∧ ∃e∈o.after,Region.binds .any e=true∧e.on=j
def gY (x y:AOper):Prop:=(∀t,x.dst=some t→t∉looks y∧y.dst≠some t)∧ ∀t,y.dst=some t→t∉looks x
def wrO:Option Eff→aw
 |some e=>e.wr
 |none=>[]
def sfO:Option Eff→List (Nat×Nat×Nat×List AV)
 |some e=>e.sf
 |none=>[]
def r6 (e e':Option Eff):Prop:= ∀k,(k∈fy e→k∉rdO e'∧k∉fy e')∧(k∈fy e'→k∉rdO e∨ ∀f,Sft (sfO e) k (hov (wrO e') f k))
theorem PY (t:Nat)(P:Option (Nat×Blk)→Prop): ∀(es:mt)(L L':Nat→Bool)(k:Nat)(F F':FSt),(∀j x,es[j]? =some x→L (k+j)≠L' (k+j)→t∉fy x.2∨(L (k+j)=true∧ ∀f,P (hov (wrO x.2) f t)))→(F.hp t=F'.hp t∨P (F.hp t))→((FL es L k F).hp t=(FL es L' k F').hp t∨P ((FL es L k F).hp t))
 | [],_,_,_,_,_,_,h=>h
 |(d,e)::r,L,L',k,F,F',hj,h=>by
  refine PY t P r L L' (k+1) _ _ (fun j x hx hne=>?_) ?_
  ·have:=hj (j+1) x (by simpa using hx) (by rwa [show k+(j+1)=k+1+j from by omega])
   rwa [show k+(j+1)=k+1+j from by omega] at this
  ·by_cases hl:L k=L' k
   ·rw[←hl]
    cases L k with
    |false=>exact h
    |true=>
     dsimp only[cond]
     by_cases hd:t∈fy e
     ·left
      cases e with
      |none=>simp[fy] at hd
      |some e=>exact uY hd
     ·rw[og _ _ _ _ hd,og _ _ _ _ hd];exact h
   ·have hq:=hj 0 (d,e) (by simp) (by simpa using hl)
    rw[Nat.add_zero] at hq
    by_cases hd:t∈fy e
    ·obtain ⟨h1,h2⟩:=hq.resolve_left (fun q=>q hd)
     right
     rw[h1];dsimp only[cond];cases e with
     |none=>simp[fy] at hd
     |some e=>exact h2 _
    ·have q: ∀(b:Bool)(G:FSt),(bif b then G.appO d e else G).hp t=G.hp t:=fun b G=>by cases b;rfl;exact og _ _ _ _ hd
     rw[q,q];exact h
section
variable {P:Program} {C:Ctx} {N:Nums}
def Qb (P:Program)(C:Ctx)(o:Oper)(g:Nat)(d:Option Nat)(e:Eff)(F:FSt):Prop:=
 ∀U a w (K:Act→World→Prop) (Q:Exit→Act→World→Prop),¬U g→Rel C U F a w→(∀a' w',Rel C (Or1 U g) (F.app d e) a' w'→K a' w')→o.wp P a w K Q
def ve (P:Program)(C:Ctx)(o:Oper)(g:Nat)(e:Eff)(F:FSt):Prop:=
 ∀U a w (K:Act→World→Prop) (Q:Exit→Act→World→Prop),¬U g→Rel C U F a w→(∀v w' S β used,RelC C (Or1 U g) {F with hp:=hov e.wr F.hp} a w' S β used→V (aE C S β used (hov e.wr F.hp) w') v e.res→Q (.panic [{v:=v,recovered:=false}]) a w')→o.wp P a w K Q
structure OneOk (P:Program)(C:Ctx)(N:Nums)(ops:Array Oper)(c0:Nat)(i:Nat)(o:Oper)(ao:AOper)(e:Option Eff)(F:FSt):Prop where
 rel:OpRel P N C.n ops i o ao
 none_:e=none→dM F ao.guard=some false
 some_: ∀x,e=some x→dM F ao.guard=some true∧ ∀F',(∀t∈looks ao,F'.tm t=F.tm t)→(∀k∈x.rd,F'.hp k=F.hp k∨Sft x.sf k (F'.hp k))→Qb P C o (c0+i) ao.dst x F'
theorem dw {C:Ctx}{U:Nat→Prop}{F:FSt}{a:Act}{w:World}(hR:Rel C U F a w){ops:Array Oper}{n i:Nat}{o:Oper}{ao:AOper}(hr:OpRel P N n ops i o ao){b:Bool}(h:dM F ao.guard=some b):Region.wanted o (yielded ops a.tmps)=b:=by
 have hg:=hr.guard;unfold Region.wanted;cases ho:o.guard with
 |none=>
  rw[ho] at hg;cases hag:ao.guard with
  |none=>rw[hag] at h;simpa[dM] using h
  |some x=>rw[hag] at hg;exact hg.elim
 |some x=>
  obtain ⟨j,wv⟩:=x;rw[ho] at hg;cases hag:ao.guard with
  |none=>rw[hag] at hg;exact hg.elim
  |some y=>
   obtain ⟨t,w'⟩:=y;rw[hag] at hg h;obtain ⟨rfl,ht0,ht⟩:=hg;obtain ⟨S,β,used,hRC⟩:=hR;have hv:=hRC.tm t;rw[yb ht0] at hv;simp only[dM] at h;split at h
   ·rename_i b' hb
    rw[hb] at hv;have:=hv.bool_inv;obtain rfl:=Ai h
    have hy:yielded ops a.tmps j=some b':=by
     unfold yielded;rw[ht,Option.bind_some]
     have:a.tmps[t]? =some (.bool b'):=by
      rw[Ak] at this;cases hq:a.tmps[t]? with
      |none=>rw[hq] at this;simp[undef] at this
      |some v=>rw[hq] at this;simpa using this
     rw[this]
    dsimp only;rw[hy];cases b'<;>cases wv<;>rfl
   ·rename_i v hb
    rw[hb] at hv;have hv':=hv.con_inv;obtain rfl:=Ai h
    have hy:yielded ops a.tmps j=none:=by
     unfold yielded;rw[ht,Option.bind_some];rw[Ak] at hv';cases hq:a.tmps[t]? with
     |none=>rfl
     |some v'=>
      rw[hq] at hv';have:v'= .tuple v:=by simpa using hv'
      subst this;rfl
    dsimp only;rw[hy];rfl
   ·cases h
def e7 (c0:Nat)(L:Nat→Bool):Nat→Prop:=fun g=>g<c0∨ ∃j,L j=true∧g=c0+j
theorem Rel.wide {C:Ctx}{U U':Nat→Prop}{F:FSt}{a:Act}{w:World}(h:Rel C U F a w)(hU: ∀x,U x→U' x):Rel C U' F a w:=
 let ⟨S,β,used,hi,b,c,d⟩:=h
 ⟨S,β,used,hi.wide hU,b,c,d⟩
theorem Rel.put {C:Ctx}{U:Nat→Prop}{F:FSt}{a:Act}{w:World}(h:Rel C U F a w)(d:Option Nat)(hd: ∀t,d=some t→t<C.n):Rel C U (F.put d gR) (a.put d undef) w:=
 let ⟨S,β,used,hr⟩:=h
 ⟨S,β,used,hr.step hr.hi (.refl _) d hd (show V _ undef gR from .con _)⟩
theorem ahi {ops:Array Oper}{aos:List AOper}{es:mt}{F0:FSt}{c0:Nat}{Q:Exit→Act→World→Prop}(clo:Nat→List Nat)
  (hclo: ∀i ao,aos[i]? =some ao→ ∀j∈clo i,j∈ao.after∨ ∃k∈ao.after,j∈clo k)
  (hl:aos.length=ops.size) (hl2:es.length=ops.size)
  (hone: ∀i o ao x,ops[i]? =some o→aos[i]? =some ao→es[i]? =some x→x.1=ao.dst∧OneOk P C N ops c0 i o ao x.2 (FL es (fun j=>decide (j<i)) 0 F0))
  (hpair: ∀i j ai aj xi xj,i<j→aos[i]? =some ai→aos[j]? =some aj→es[i]? =some xi→es[j]? =some xj→i∈clo j∨(gY ai aj∧r6 xi.2 xj.2))
  (hQ: ∀a w,Rel C (e7 c0 fun j=>decide (j<ops.size)) (FL es (fun _=>true) 0 F0) a w→Q .normal a w):
  ∀(fuel:Nat)(listed:Array Bool)(a:Act)(w:World),listed.size=ops.size→((List.range ops.size).countP fun i=> !listed.getD i false)≤fuel→
   (∀i,listed.getD i false=true→ ∀j∈clo i,listed.getD j false=true)→
   Rel C (e7 c0 fun i=>listed.getD i false) (FL es (fun i=>listed.getD i false) 0 F0) a w→wpAny P .any ops Q fuel listed a w:=by
 have get: ∀i,i<ops.size→ ∃o ao x,ops[i]? =some o∧aos[i]? =some ao∧es[i]? =some x:=fun i hi=>
  ⟨ops[i],aos[i]'(by omega),es[i]'(by omega),by simp[hi],by rw[AJ],by rw[AJ]⟩
 -- all listed: the end
 have fin: ∀(listed:Array Bool)(a:Act)(w:World),listed.size=ops.size→(∀i,i<ops.size→listed.getD i false=true)→Rel C (e7 c0 fun i=>listed.getD i false) (FL es (fun i=>listed.getD i false) 0 F0) a w→Q .normal a w:=fun listed a w hsz hall hR=>by
  refine hQ a w ?_
  have:FL es (fun i=>listed.getD i false) 0 F0=FL es (fun _=>true) 0 F0:=FSt.ext'
   (fun t=>Bb t es _ _ 0 F0 F0 (fun j x hx hne=>absurd (by
    have hj:j<es.length:=by
     rcases AZ j es.length with q|q
     ·exact q
     ·rw[AC q] at hx;cases hx
    rw[A5];exact hall j (by omega)) hne) rfl)
   (fun t=>Xm t es _ _ 0 F0 F0 (fun j x hx hne=>absurd (by
    have hj:j<es.length:=by
     rcases AZ j es.length with q|q
     ·exact q
     ·rw[AC q] at hx;cases hx
    rw[A5];exact hall j (by omega)) hne) rfl)
  rw[←this];refine hR.wide fun x hx=>hx.elim .inl fun ⟨j,hj,e⟩=>.inr ⟨j,?_,e⟩
  rcases AZ j listed.size with q|q
  ·rw[hsz] at q;simpa using q
  ·have hj':listed.getD j false=true:=hj
   simp[Array.getD,Nat.not_lt.2 q] at hj'
 have ready_all: ∀(listed:Array Bool),listed.size=ops.size→Region.ready .any ops listed= []→ ∀i,i<ops.size→listed.getD i false=true:=by
  intro listed hsz hr i
  induction i using Nat.strongRecOn with
  |_ i ih=>
   intro hi;cases hq:listed.getD i false with
   |true=>rfl
   |false=>
    exfalso;obtain ⟨o,ao,x,h1,h2,h3⟩:=get i hi;have hrel:=(hone i o ao x h1 h2 h3).2.rel
    have:i∈Region.ready .any ops listed:=by
     rw[mem_ready];refine ⟨?_,o,h1,fun e he hb=>?_⟩
     ·have:i<listed.size:=by omega
      simpa[Array.getD,this] using hq
     ·have hlt:=(hrel.after' e.on (hrel.after e he hb)).1
      exact ih e.on hlt (by omega)
    rw[hr] at this;cases this
 intro fuel
 induction fuel with
 |zero=>
  intro listed a w hsz hcnt _ hR
  have hall: ∀i,i<ops.size→listed.getD i false=true:=fun i hi=>by
   have:=List.countP_eq_zero.1 (Nat.le_zero.1 hcnt) i (by simpa using hi)
   simpa using this
  refine ⟨?_,fin listed a w hsz hall hR⟩;rw[List.eq_nil_iff_forall_not_mem];intro i hi;rw[mem_ready] at hi;obtain ⟨h0,o,ho,_⟩:=hi
  have hlt:i<ops.size:=by
   rcases AZ i ops.size with q|q
   ·exact q
   ·rw[Array.getElem?_eq_none q] at ho;cases ho
  have h1:=hall i hlt;have:i<listed.size:=by omega
  simp[Array.getD,this] at h0 h1;rw[h0] at h1;cases h1
 |succ fuel ih=>
  intro listed a w hsz hcnt hdown hR;refine ⟨fun hr=>fin listed a w hsz (ready_all listed hsz hr) hR,fun i hi=>?_⟩
  rw[mem_ready] at hi;obtain ⟨h0,o,ho,hall⟩:=hi
  have hlt:i<ops.size:=by
   rcases AZ i ops.size with q|q
   ·exact q
   ·rw[Array.getElem?_eq_none q] at ho;cases ho
  have hil:i<listed.size:=by omega
  have hLi:listed.getD i false=false:=by simp[Array.getD,hil] at h0⊢;exact h0
  obtain ⟨o',ao,x,h1,h2,h3⟩:=get i hlt;obtain rfl:o'=o:=by rw[ho] at h1;exact (Ai h1).symm
  obtain ⟨hx1,hok⟩:=hone i o' ao x h1 h2 h3
  have hdeps: ∀j∈clo i,listed.getD j false=true:=fun j hj=>by
   have hdir: ∀j∈ao.after,listed.getD j false=true:=fun j hj=>by
    obtain ⟨_,e,he,hb,rfl⟩:=hok.rel.after' j hj;exact hall e he hb
   rcases hclo i ao h2 j hj with q|⟨k,q,q'⟩
   ·exact hdir j q
   ·exact hdown k (hdir k q) j q'
  -- where the listed set and the text's prefix part, nothing that matters is written
  have part: ∀j xj,es[j]? =some xj→listed.getD j false≠decide (j<i)→(∃aj,aos[j]? =some aj∧((j<i∧gY aj ao∧r6 xj.2 x.2)∨(i<j∧gY ao aj∧r6 x.2 xj.2))):=fun j xj hxj hne=>by
   have hj:j<es.length:=by
    rcases AZ j es.length with q|q
    ·exact q
    ·rw[AC q] at hxj;cases hxj
   obtain ⟨oj,aj,xj',g1,g2,g3⟩:=get j (by omega)
   obtain rfl:xj'=xj:=by rw[g3] at hxj;exact Ai hxj
   refine ⟨aj,g2,?_⟩;rcases Nat.lt_trichotomy j i with q|q|q
   ·left
    have hu:listed.getD j false=false:=by
     cases hq:listed.getD j false with
     |false=>rfl
     |true=>rw[hq] at hne;simp[q] at hne
    rcases hpair j i aj ao xj' x q g2 h2 g3 h3 with hd|⟨p1,p2⟩
    ·rw[hdeps j hd] at hu;cases hu
    ·exact ⟨q,p1,p2⟩
   ·exfalso;subst q;rw[hLi] at hne;simp at hne
   ·right
    have hu:listed.getD j false=true:=by
     cases hq:listed.getD j false with
     |true=>rfl
     |false=>rw[hq] at hne;exfalso;apply hne;simp;omega
    rcases hpair i j ao aj x xj' q h2 g2 h3 g3 with hd|⟨p1,p2⟩
    ·rw[hdown j hu i hd] at hLi;cases hLi
    ·exact ⟨q,p1,p2⟩
  have htm: ∀t∈looks ao,(FL es (fun i=>listed.getD i false) 0 F0).tm t=(FL es (fun j=>decide (j<i)) 0 F0).tm t:=fun t ht=>
   Bb t es _ _ 0 F0 F0 (fun j xj hxj hne=>by
    rw[A5] at hne;obtain ⟨aj,g2,hp⟩:=part j xj hxj hne
    obtain ⟨oj,aj',xj',y1,y2,y3⟩:=get j (by
     rcases AZ j es.length with q|q
     ·omega
     ·rw[AC q] at hxj;cases hxj)
    obtain rfl:aj'=aj:=by rw[y2] at g2;exact Ai g2
    obtain rfl:xj'=xj:=by rw[y3] at hxj;exact Ai hxj
    have hdj:=(hone j oj aj' xj' y1 y2 y3).1;rw[hdj];intro e;rcases hp with ⟨_,p1,_⟩|⟨_,p1,_⟩
    ·exact (p1.1 t e).1 ht
    ·exact p1.2 t e ht) rfl
  have hhp: ∀k∈rdO x.2,(FL es (fun i=>listed.getD i false) 0 F0).hp k=(FL es (fun j=>decide (j<i)) 0 F0).hp k∨Sft (sfO x.2) k ((FL es (fun i=>listed.getD i false) 0 F0).hp k):=fun k hk=>
   PY k (Sft (sfO x.2) k) es _ _ 0 F0 F0 (fun j xj hxj hne=>by
    rw[A5] at hne;obtain ⟨aj,g2,hp⟩:=part j xj hxj hne;rcases hp with ⟨_,_,p2⟩|⟨hij,_,p2⟩
    ·exact .inl fun hw=>((p2 k).1 hw).1 hk
    ·by_cases hw:k∈fy xj.2
     ·right
      refine ⟨?_,((p2 k).2 hw).resolve_left (fun q=>q hk)⟩
      rw[A5];cases hq:listed.getD j false with
      |true=>rfl
      |false=>rw[hq] at hne;exfalso;apply hne;simp;omega
     ·exact .inl hw) (.inl rfl)
  have hwant:dM (FL es (fun i=>listed.getD i false) 0 F0) ao.guard=dM (FL es (fun j=>decide (j<i)) 0 F0) ao.guard:=by
   cases hg:ao.guard with
   |none=>rfl
   |some y=>
    obtain ⟨t,wv⟩:=y;simp only[dM];rw[htm t (by simp[looks,hg])]
  have hins:FL es (fun y=>(listed.setIfInBounds i true).getD y false) 0 F0=(FL es (fun i=>listed.getD i false) 0 F0).appO ao.dst x.2:=by
   have e1:(fun y=>(listed.setIfInBounds i true).getD y false)=fun y=>listed.getD y false||y==0+i:=by
    funext y
    by_cases hy:y=i
    ·subst hy;simp[Array.getD,hil]
    ·rw[getD_set_ne false (Ne.symm hy)];simp[hy]
   rw[e1];refine uF es _ 0 i ao.dst x.2 F0 (by rw[h3,←hx1]) (by simpa using hLi) fun j xj hxj hij hlj=>?_
   rw[A5] at hlj;obtain ⟨aj,g2,hp⟩:=part j xj hxj (by simp only[hlj];simp;omega)
   obtain ⟨oj,aj',xj',y1,y2,y3⟩:=get j (by
    rcases AZ j es.length with q|q
    ·omega
    ·rw[AC q] at hxj;cases hxj)
   obtain rfl:aj'=aj:=by rw[y2] at g2;exact Ai g2
   obtain rfl:xj'=xj:=by rw[y3] at hxj;exact Ai hxj
   have hdj:=(hone j oj aj' xj' y1 y2 y3).1;rcases hp with ⟨q,_⟩|⟨_,p1,p2⟩
   ·omega
   ·exact ⟨fun t ht=>by rw[hdj];exact (p1.1 t ht).2,fun k hk=>((p2 k).1 hk).2⟩
  have hU: ∀g,Or1 (e7 c0 fun i=>listed.getD i false) (c0+i) g→e7 c0 (fun y=>(listed.setIfInBounds i true).getD y false) g:=by
   rintro g ((hg|⟨j,hj,rfl⟩)|rfl)
   ·exact .inl hg
   ·exact .inr ⟨j,getD_set_true hj,rfl⟩
   ·exact .inr ⟨i,by simp[Array.getD,hil],rfl⟩
  have hsz':(listed.setIfInBounds i true).size=ops.size:=by simpa using hsz
  have hdown': ∀i',(listed.setIfInBounds i true).getD i' false=true→ ∀j∈clo i',(listed.setIfInBounds i true).getD j false=true:=fun i' hl' j hj=>by
   by_cases e:i'=i
   ·subst e
    exact getD_set_true (hdeps j hj)
   ·rw[getD_set_ne false (Ne.symm e)] at hl'
    exact getD_set_true (hdown i' hl' j hj)
  have hcnt':((List.range ops.size).countP fun y=> !(listed.setIfInBounds i true).getD y false)≤fuel:=by
   have key: ∀l:List Nat,l.Nodup→i∈l→(l.countP fun y=> !(listed.setIfInBounds i true).getD y false)+1=l.countP fun y=> !listed.getD y false:=by
    intro l
    induction l with
    |nil=>intro _ h;cases h
    |cons y l ihl=>
     intro hnd hm;rw[List.nodup_cons] at hnd
     by_cases e:y=i
     ·subst e
      have hsame:(l.countP fun z=> !(listed.setIfInBounds y true).getD z false)=l.countP fun z=> !listed.getD z false:=by
       apply List.countP_congr;intro z hz;rw[getD_set_ne false (fun (q:y=z)=>hnd.1 (q▸hz))]
      have t1:(listed.setIfInBounds y true).getD y false=true:=by simp[Array.getD,hil]
      rw[List.countP_cons_of_neg (by simp only[t1];simp),List.countP_cons_of_pos (by simp only[hLi];simp),hsame]
     ·have hm':i∈l:=by simpa[Ne.symm e] using hm
      have:=ihl hnd.2 hm';have hy:(listed.setIfInBounds i true).getD y false=listed.getD y false:=getD_set_ne false (Ne.symm e);cases hq:listed.getD y false with
      |true=>rw[List.countP_cons_of_neg (by simp only[hy,hq];simp),List.countP_cons_of_neg (by simp only[hq];simp)];exact this
      |false=>rw[List.countP_cons_of_pos (by simp only[hy,hq];simp),List.countP_cons_of_pos (by simp only[hq];simp)];omega
   have:=key (List.range ops.size) List.nodup_range (by simpa using hlt)
   omega
  unfold wpOp;simp only[ho];cases hx2:x.2 with
  |none=>
   have hw:=hok.none_ hx2;rw[←hwant] at hw;rw[dw hR hok.rel hw];simp only[A4,if_false];refine ih _ _ _ hsz' hcnt' hdown' ?_;rw[hins,hx2,←hok.rel.dst];exact (hR.put ao.dst (fun d hd=>hok.rel.bd d (by rw[←hok.rel.dst];exact hd))).wide fun y hy=>hU y (.inl hy)
  |some e=>
   obtain ⟨hw,hdo⟩:=hok.some_ e hx2;rw[←hwant] at hw;rw[dw hR hok.rel hw];simp only[if_true];refine .inl (hdo _ htm (fun k hk=>by have:=hhp k (by rw[hx2];exact hk);rw[hx2] at this;exact this) _ a w _ Q ?_ hR fun a' w' hR'=>?_)
   ·rintro (hg|⟨j,hj,hg⟩)
    ·omega
    ·obtain rfl:j=i:=by omega
     have hj':listed.getD j false=true:=hj;rw[hLi] at hj';cases hj'
   ·refine ih _ _ _ hsz' hcnt' hdown' ?_
    rw[hins,hx2];exact hR'.wide hU
theorem afx {ops:Array Oper}{aos:List AOper}{es:mt}{F0:FSt}{c0:Nat}{Q:Exit→Act→World→Prop}(clo:Nat→List Nat)
  (hclo: ∀i ao,aos[i]? =some ao→ ∀j∈clo i,j∈ao.after∨ ∃k∈ao.after,j∈clo k)
  (hl:aos.length=ops.size) (hl2:es.length=ops.size)
  {p:Nat} (hps:p+1=ops.size) (hrelA: ∀i o ao,ops[i]? =some o→aos[i]? =some ao→OpRel P N C.n ops i o ao)
  (hone: ∀i o ao x,i<p→ops[i]? =some o→aos[i]? =some ao→es[i]? =some x→x.1=ao.dst∧OneOk P C N ops c0 i o ao x.2 (FL es (fun j=>decide (j<i)) 0 F0))
  {e:Eff} (hterm: ∀o ao,ops[p]? =some o→aos[p]? =some ao→dM (FL es (fun j=>decide (j<p)) 0 F0) ao.guard=some true∧
   (∀j aj xj,j<p→aos[j]? =some aj→es[j]? =some xj→j∈clo p∨(gY aj ao∧fy xj.2= []))∧
   ∀F',(∀t∈looks ao,F'.tm t=(FL es (fun j=>decide (j<p)) 0 F0).tm t)→F'.hp=(FL es (fun j=>decide (j<p)) 0 F0).hp→ve P C o (c0+p) e F')
  (hpair: ∀i j ai aj xi xj,i<j→j<p→aos[i]? =some ai→aos[j]? =some aj→es[i]? =some xi→es[j]? =some xj→i∈clo j∨(gY ai aj∧r6 xi.2 xj.2))
  (hQ: ∀a w v S β used U (F':FSt),RelC C U {F' with hp:=hov e.wr (FL es (fun j=>decide (j<p)) 0 F0).hp} a w S β used→V (aE C S β used (hov e.wr (FL es (fun j=>decide (j<p)) 0 F0).hp) w) v e.res→Q (.panic [{v:=v,recovered:=false}]) a w):
  ∀(fuel:Nat)(listed:Array Bool)(a:Act)(w:World),listed.size=ops.size→((List.range ops.size).countP fun i=> !listed.getD i false)≤fuel→
   (∀i,listed.getD i false=true→ ∀j∈clo i,listed.getD j false=true)→listed.getD p false=false→
   Rel C (e7 c0 fun i=>listed.getD i false) (FL es (fun i=>listed.getD i false) 0 F0) a w→wpAny P .any ops Q fuel listed a w:=by
 have get: ∀i,i<ops.size→ ∃o ao x,ops[i]? =some o∧aos[i]? =some ao∧es[i]? =some x:=fun i hi=>
  ⟨ops[i],aos[i]'(by omega),es[i]'(by omega),by simp[hi],by rw[AJ],by rw[AJ]⟩
 have ready_all: ∀(listed:Array Bool),listed.size=ops.size→Region.ready .any ops listed= []→ ∀i,i<ops.size→listed.getD i false=true:=by
  intro listed hsz hr i
  induction i using Nat.strongRecOn with
  |_ i ih=>
   intro hi;cases hq:listed.getD i false with
   |true=>rfl
   |false=>
    exfalso;obtain ⟨o,ao,x,h1,h2,h3⟩:=get i hi;have hrel:=hrelA i o ao h1 h2
    have:i∈Region.ready .any ops listed:=by
     rw[mem_ready];refine ⟨?_,o,h1,fun e he hb=>?_⟩
     ·have:i<listed.size:=by omega
      simpa[Array.getD,this] using hq
     ·have hlt:=(hrel.after' e.on (hrel.after e he hb)).1
      exact ih e.on hlt (by omega)
    rw[hr] at this;cases this
 intro fuel
 induction fuel with
 |zero=>
  intro listed a w hsz hcnt _ hlp hR;exfalso
  have hall: ∀i,i<ops.size→listed.getD i false=true:=fun i hi=>by
   have:=List.countP_eq_zero.1 (Nat.le_zero.1 hcnt) i (by simpa using hi)
   simpa using this
  have:=hall p (by omega)
  rw[hlp] at this;cases this
 |succ fuel ih=>
  intro listed a w hsz hcnt hdown hlp hR;refine ⟨fun hr=>absurd (ready_all listed hsz hr p (by omega)) (by rw[hlp];simp),fun i hi=>?_⟩
  rw[mem_ready] at hi;obtain ⟨h0,o,ho,hall⟩:=hi
  have hlt:i<ops.size:=by
   rcases AZ i ops.size with q|q
   ·exact q
   ·rw[Array.getElem?_eq_none q] at ho;cases ho
  have hil:i<listed.size:=by omega
  have hLi:listed.getD i false=false:=by simp[Array.getD,hil] at h0⊢;exact h0
  obtain ⟨o',ao,x,h1,h2,h3⟩:=get i hlt;obtain rfl:o'=o:=by rw[ho] at h1;exact (Ai h1).symm
  have hrel:=hrelA i o' ao h1 h2
  have hdeps: ∀j∈clo i,listed.getD j false=true:=fun j hj=>by
   have hdir: ∀j∈ao.after,listed.getD j false=true:=fun j hj=>by
    obtain ⟨_,e,he,hb,rfl⟩:=hrel.after' j hj;exact hall e he hb
   rcases hclo i ao h2 j hj with q|⟨k,q,q'⟩
   ·exact hdir j q
   ·exact hdown k (hdir k q) j q'
  by_cases hip:i=p
  ·subst hip
   obtain ⟨t1,t2,t3⟩:=hterm o' ao ho h2
   have part: ∀j xj,es[j]? =some xj→listed.getD j false≠decide (j<i)→ ∃aj,aos[j]? =some aj∧j<i∧gY aj ao∧fy xj.2= []:=fun j xj hxj hne=>by
    have hj:j<es.length:=by
     rcases AZ j es.length with q|q
     ·exact q
     ·rw[AC q] at hxj;cases hxj
    obtain ⟨oj,aj,xj',g1,g2,g3⟩:=get j (by omega)
    obtain rfl:xj'=xj:=by rw[g3] at hxj;exact Ai hxj
    have hji:j<i:=by
     rcases Nat.lt_trichotomy j i with q|q|q
     ·exact q
     ·exfalso;subst q;rw[hLi] at hne;simp at hne
     ·omega
    rcases t2 j aj xj' hji g2 g3 with hd|⟨p1,p2⟩
    ·exfalso;rw[hdeps j hd] at hne;simp[hji] at hne
    ·exact ⟨aj,g2,hji,p1,p2⟩
   have htm: ∀t∈looks ao,(FL es (fun i=>listed.getD i false) 0 F0).tm t=(FL es (fun j=>decide (j<i)) 0 F0).tm t:=fun t ht=>
    Bb t es _ _ 0 F0 F0 (fun j xj hxj hne=>by
     rw[A5] at hne;obtain ⟨aj,g2,hji,p1,p2⟩:=part j xj hxj hne;obtain ⟨oj,aj',xj',y1,y2,y3⟩:=get j (by omega)
     obtain rfl:aj'=aj:=by rw[y2] at g2;exact Ai g2
     obtain rfl:xj'=xj:=by rw[y3] at hxj;exact Ai hxj
     have hdj:=(hone j oj aj' xj' hji y1 y2 y3).1;rw[hdj];intro e;exact (p1.1 t e).1 ht) rfl
   have hhp:(FL es (fun i=>listed.getD i false) 0 F0).hp=(FL es (fun j=>decide (j<i)) 0 F0).hp:=funext fun k=>
    Xm k es _ _ 0 F0 F0 (fun j xj hxj hne=>by
     rw[A5] at hne;obtain ⟨aj,_,_,_,p2⟩:=part j xj hxj hne;rw[p2];simp) rfl
   have hwant:dM (FL es (fun i=>listed.getD i false) 0 F0) ao.guard=dM (FL es (fun j=>decide (j<i)) 0 F0) ao.guard:=by
    cases hg:ao.guard with
    |none=>rfl
    |some y=>
     obtain ⟨t,wv⟩:=y;simp only[dM];rw[htm t (by simp[looks,hg])]
   unfold wpOp;simp only[ho];rw[←hwant] at t1;rw[dw hR hrel t1];simp only[if_true];refine .inl (t3 _ htm hhp _ a w _ Q ?_ hR fun v w' S β used hR' hv=>?_)
   ·rintro (hg|⟨j,hj,hg⟩)
    ·omega
    ·obtain rfl:j=i:=by omega
     have hj':listed.getD j false=true:=hj;rw[hLi] at hj';cases hj'
   ·rw[hhp] at hR' hv
    exact hQ a w' v S β used _ (FL es (fun i=>listed.getD i false) 0 F0) hR' hv
  have hip':i<p:=by omega
  obtain ⟨hx1,hok⟩:=hone i o' ao x hip' h1 h2 h3
  -- where the listed set and the text's prefix part, nothing that matters is written
  have part: ∀j xj,es[j]? =some xj→listed.getD j false≠decide (j<i)→(∃aj,aos[j]? =some aj∧((j<i∧gY aj ao∧r6 xj.2 x.2)∨(i<j∧gY ao aj∧r6 x.2 xj.2))):=fun j xj hxj hne=>by
   have hj:j<es.length:=by
    rcases AZ j es.length with q|q
    ·exact q
    ·rw[AC q] at hxj;cases hxj
   obtain ⟨oj,aj,xj',g1,g2,g3⟩:=get j (by omega)
   obtain rfl:xj'=xj:=by rw[g3] at hxj;exact Ai hxj
   refine ⟨aj,g2,?_⟩;rcases Nat.lt_trichotomy j i with q|q|q
   ·left
    have hu:listed.getD j false=false:=by
     cases hq:listed.getD j false with
     |false=>rfl
     |true=>rw[hq] at hne;simp[q] at hne
    rcases hpair j i aj ao xj' x q hip' g2 h2 g3 h3 with hd|⟨p1,p2⟩
    ·rw[hdeps j hd] at hu;cases hu
    ·exact ⟨q,p1,p2⟩
   ·exfalso;subst q;rw[hLi] at hne;simp at hne
   ·right
    have hu:listed.getD j false=true:=by
     cases hq:listed.getD j false with
     |true=>rfl
     |false=>rw[hq] at hne;exfalso;apply hne;simp;omega
    have hjp:j<p:=by
     have:j≠p:=fun e=>by subst e;rw[hlp] at hu;cases hu
     omega
    rcases hpair i j ao aj x xj' q hjp h2 g2 h3 g3 with hd|⟨p1,p2⟩
    ·rw[hdown j hu i hd] at hLi;cases hLi
    ·exact ⟨q,p1,p2⟩
  have hjp': ∀j,listed.getD j false≠decide (j<i)→i<j→j<p:=fun j hne q=>by
   have hl':listed.getD j false=true:=by
    cases hq:listed.getD j false with
    |true=>rfl
    |false=>rw[hq] at hne;exfalso;apply hne;simp;omega
   have:j≠p:=fun e=>by subst e;rw[hlp] at hl';cases hl'
   have:j<listed.size:=by
    rcases AZ j listed.size with q'|q'
    ·exact q'
    ·simp[Array.getD,Nat.not_lt.2 q'] at hl'
   omega
  have htm: ∀t∈looks ao,(FL es (fun i=>listed.getD i false) 0 F0).tm t=(FL es (fun j=>decide (j<i)) 0 F0).tm t:=fun t ht=>
   Bb t es _ _ 0 F0 F0 (fun j xj hxj hne=>by
    rw[A5] at hne;obtain ⟨aj,g2,hp⟩:=part j xj hxj hne
    obtain ⟨oj,aj',xj',y1,y2,y3⟩:=get j (by
     rcases AZ j es.length with q|q
     ·omega
     ·rw[AC q] at hxj;cases hxj)
    obtain rfl:aj'=aj:=by rw[y2] at g2;exact Ai g2
    obtain rfl:xj'=xj:=by rw[y3] at hxj;exact Ai hxj
    have hjp:j<p:=by rcases hp with ⟨q,_⟩|⟨q,_⟩<;>first|omega|exact hjp' j hne (by omega)
    have hdj:=(hone j oj aj' xj' hjp y1 y2 y3).1;rw[hdj];intro e;rcases hp with ⟨_,p1,_⟩|⟨_,p1,_⟩
    ·exact (p1.1 t e).1 ht
    ·exact p1.2 t e ht) rfl
  have hhp: ∀k∈rdO x.2,(FL es (fun i=>listed.getD i false) 0 F0).hp k=(FL es (fun j=>decide (j<i)) 0 F0).hp k∨Sft (sfO x.2) k ((FL es (fun i=>listed.getD i false) 0 F0).hp k):=fun k hk=>
   PY k (Sft (sfO x.2) k) es _ _ 0 F0 F0 (fun j xj hxj hne=>by
    rw[A5] at hne;obtain ⟨aj,g2,hp⟩:=part j xj hxj hne;rcases hp with ⟨_,_,p2⟩|⟨hij,_,p2⟩
    ·exact .inl fun hw=>((p2 k).1 hw).1 hk
    ·by_cases hw:k∈fy xj.2
     ·right
      refine ⟨?_,((p2 k).2 hw).resolve_left (fun q=>q hk)⟩
      rw[A5];cases hq:listed.getD j false with
      |true=>rfl
      |false=>rw[hq] at hne;exfalso;apply hne;simp;omega
     ·exact .inl hw) (.inl rfl)
  have hwant:dM (FL es (fun i=>listed.getD i false) 0 F0) ao.guard=dM (FL es (fun j=>decide (j<i)) 0 F0) ao.guard:=by
   cases hg:ao.guard with
   |none=>rfl
   |some y=>
    obtain ⟨t,wv⟩:=y;simp only[dM];rw[htm t (by simp[looks,hg])]
  have hins:FL es (fun y=>(listed.setIfInBounds i true).getD y false) 0 F0=(FL es (fun i=>listed.getD i false) 0 F0).appO ao.dst x.2:=by
   have e1:(fun y=>(listed.setIfInBounds i true).getD y false)=fun y=>listed.getD y false||y==0+i:=by
    funext y
    by_cases hy:y=i
    ·subst hy;simp[Array.getD,hil]
    ·rw[getD_set_ne false (Ne.symm hy)];simp[hy]
   rw[e1];refine uF es _ 0 i ao.dst x.2 F0 (by rw[h3,←hx1]) (by simpa using hLi) fun j xj hxj hij hlj=>?_
   rw[A5] at hlj;obtain ⟨aj,g2,hp⟩:=part j xj hxj (by simp only[hlj];simp;omega)
   obtain ⟨oj,aj',xj',y1,y2,y3⟩:=get j (by
    rcases AZ j es.length with q|q
    ·omega
    ·rw[AC q] at hxj;cases hxj)
   obtain rfl:aj'=aj:=by rw[y2] at g2;exact Ai g2
   obtain rfl:xj'=xj:=by rw[y3] at hxj;exact Ai hxj
   have hjp:j<p:=by
    have:j≠p:=fun e=>by subst e;rw[hlp] at hlj;cases hlj
    have:j<ops.size:=by
     rcases AZ j es.length with q|q
     ·omega
     ·rw[AC q] at hxj;cases hxj
    omega
   have hdj:=(hone j oj aj' xj' hjp y1 y2 y3).1;rcases hp with ⟨q,_⟩|⟨_,p1,p2⟩
   ·omega
   ·exact ⟨fun t ht=>by rw[hdj];exact (p1.1 t ht).2,fun k hk=>((p2 k).1 hk).2⟩
  have hU: ∀g,Or1 (e7 c0 fun i=>listed.getD i false) (c0+i) g→e7 c0 (fun y=>(listed.setIfInBounds i true).getD y false) g:=by
   rintro g ((hg|⟨j,hj,rfl⟩)|rfl)
   ·exact .inl hg
   ·exact .inr ⟨j,getD_set_true hj,rfl⟩
   ·exact .inr ⟨i,by simp[Array.getD,hil],rfl⟩
  have hsz':(listed.setIfInBounds i true).size=ops.size:=by simpa using hsz
  have hdown': ∀i',(listed.setIfInBounds i true).getD i' false=true→ ∀j∈clo i',(listed.setIfInBounds i true).getD j false=true:=fun i' hl' j hj=>by
   by_cases e:i'=i
   ·subst e
    exact getD_set_true (hdeps j hj)
   ·rw[getD_set_ne false (Ne.symm e)] at hl'
    exact getD_set_true (hdown i' hl' j hj)
  have hcnt':((List.range ops.size).countP fun y=> !(listed.setIfInBounds i true).getD y false)≤fuel:=by
   have key: ∀l:List Nat,l.Nodup→i∈l→(l.countP fun y=> !(listed.setIfInBounds i true).getD y false)+1=l.countP fun y=> !listed.getD y false:=by
    intro l
    induction l with
    |nil=>intro _ h;cases h
    |cons y l ihl=>
     intro hnd hm;rw[List.nodup_cons] at hnd
     by_cases e:y=i
     ·subst e
      have hsame:(l.countP fun z=> !(listed.setIfInBounds y true).getD z false)=l.countP fun z=> !listed.getD z false:=by
       apply List.countP_congr;intro z hz;rw[getD_set_ne false (fun (q:y=z)=>hnd.1 (q▸hz))]
      have t1:(listed.setIfInBounds y true).getD y false=true:=by simp[Array.getD,hil]
      rw[List.countP_cons_of_neg (by simp only[t1];simp),List.countP_cons_of_pos (by simp only[hLi];simp),hsame]
     ·have hm':i∈l:=by simpa[Ne.symm e] using hm
      have:=ihl hnd.2 hm';have hy:(listed.setIfInBounds i true).getD y false=listed.getD y false:=getD_set_ne false (Ne.symm e);cases hq:listed.getD y false with
      |true=>rw[List.countP_cons_of_neg (by simp only[hy,hq];simp),List.countP_cons_of_neg (by simp only[hq];simp)];exact this
      |false=>rw[List.countP_cons_of_pos (by simp only[hy,hq];simp),List.countP_cons_of_pos (by simp only[hq];simp)];omega
   have:=key (List.range ops.size) List.nodup_range (by simpa using hlt)
   omega
  unfold wpOp;simp only[ho];cases hx2:x.2 with
  |none=>
   have hw:=hok.none_ hx2;rw[←hwant] at hw;rw[dw hR hok.rel hw];simp only[A4,if_false];refine ih _ _ _ hsz' hcnt' hdown' (by rw[getD_set_ne false (show i≠p by omega)];exact hlp) ?_
   rw[hins,hx2,←hok.rel.dst];exact (hR.put ao.dst (fun d hd=>hok.rel.bd d (by rw[←hok.rel.dst];exact hd))).wide fun y hy=>hU y (.inl hy)
  |some e1=>
   obtain ⟨hw,hdo⟩:=hok.some_ e1 hx2;rw[←hwant] at hw;rw[dw hR hok.rel hw];simp only[if_true];refine .inl (hdo _ htm (fun k hk=>by have:=hhp k (by rw[hx2];exact hk);rw[hx2] at this;exact this) _ a w _ Q ?_ hR fun a' w' hR'=>?_)
   ·rintro (hg|⟨j,hj,hg⟩)
    ·omega
    ·obtain rfl:j=i:=by omega
     have hj':listed.getD j false=true:=hj;rw[hLi] at hj';cases hj'
   ·refine ih _ _ _ hsz' hcnt' hdown' (by rw[getD_set_ne false (show i≠p by omega)];exact hlp) ?_
    rw[hins,hx2];exact hR'.wide hU
end
end Go.AM
namespace Go.AM
open Go.RowKit
mutual
theorem AV.pure_of_keys: ∀a:AV,a.keys true= []→a.pure=true
 | .any,_| .int _ _,_| .bool _,_| .str _,_| .con _,_=>rfl
 | .agg cs,h| .rp cs,h| .fn _ cs,h| .tup cs,h=>by simp only[AV.pure];exact jV cs (by simpa[AV.keys] using h)
 | .sl _ es,h=>by simp only[AV.pure];exact qQ es (by simpa[AV.keys] using h)
 | .ref _ _ _,h| .er _ _ _ _,h| .vs _ _ _,h| .vw _ _ _ _,h| .mp _ _,h=>by simp[AV.keys] at h
 | .ifc _ v,h=>by simp only[AV.pure];exact AV.pure_of_keys v (by simpa[AV.keys] using h)
theorem jV: ∀l:List AV,ce true l= []→aU l=true
 | [],_=>rfl
 |a::r,h=>by
  simp only[ce,List.append_eq_nil_iff] at h;simp only[aU,AV.pure_of_keys a h.1,jV r h.2,Bool.and_self]
theorem qQ: ∀l:List (List AV),kR true l= []→aG l=true
 | [],_=>rfl
 |a::r,h=>by
  simp only[kR,List.append_eq_nil_iff] at h;simp only[aG,jV a h.1,qQ r h.2,Bool.and_self]
end
theorem V.pure_env {E E':Env}(hro: ∀b o u,E.ro b o u→E'.ro b o u)(hn:E'.num=E.num)(ht:E'.tnum=E.tnum){v:Value}{a:AV}(h:V E v a)(hp:a.pure=true):V E' v a:=by
 have:=h.ren (E':=E') (φ:=fun _ _=>.dead) ⟨hro,hn,ht,fun _ _ _=>trivial⟩
 rwa [AV.ren_pure _ a hp] at this
theorem qi: ∀(l:List AV)(i:Nat),ui l=true→i<l.length→(l.getD i .any).dry=true
 | [],_,_,h=>by simp at h
 |a::r,0,h,_=>by simp only[ui,Av] at h;simpa using h.1
 |a::r,i+1,h,hi=>by simp only[ui,Av] at h;simpa using qi r i h.2 (by simpa using hi)
theorem V.dry_env {E E':Env}(hn:E'.num=E.num)(ht:E'.tnum=E.tnum){v:Value}{a:AV}(h:V E v a)(hd:a.dry=true):V E' v a:=by
 induction h with
 |any v=>exact .any v
 |int k n=>exact .int k n
 |bool b=>exact .bool b
 |str s=>exact .str s
 |con v=>exact .con v
 |agg cs as hl hf _ ih=>exact .agg cs as hl hf fun i hi=>ih i hi (qi as i (by simpa[AV.dry] using hd) hi)
 |sl s es a n c hn' hs hc u hb _ ih=>
  cases es with
  |nil=>exact .sl s [] a n c hn' hs hc u (fun q=>absurd rfl q) (fun i hi=>by simp at hi)
  |cons=>simp[AV.dry] at hd
 |rp=>simp[AV.dry] at hd
 |ref=>simp[AV.dry] at hd
 |er=>simp[AV.dry] at hd
 |vs=>simp[AV.dry] at hd
 |vw=>simp[AV.dry] at hd
 |mp=>simp[AV.dry] at hd
 |fn f cs as hl _ ih=>rw[←hn];exact .fn f cs as hl fun i hi=>ih i hi (qi as i (by simpa[AV.dry] using hd) hi)
 |tup cs as hl _ ih=>exact .tup cs as hl fun i hi=>ih i hi (qi as i (by simpa[AV.dry] using hd) hi)
 |ifc t v a _ ih=>rw[←ht];exact .ifc t v a (ih (by simpa[AV.dry] using hd))
theorem CellsOk.ren {E E':Env}{φ:Nat→Nat→Tgt}(r:RenOk E E' φ){w:World}{b o:Nat}{cs:List AV}(h:CellsOk E w b o cs):CellsOk E' w b o (cP φ cs):=fun j hj=>by
 rw[bH] at hj;obtain ⟨u,h1,h2,h3,h4⟩:=h j hj;exact ⟨u,h1,h2,h3,by rw[f9];exact h4.ren r⟩
theorem BlkOk.ren {E E':Env}{φ:Nat→Nat→Tgt}(r:RenOk E E' φ){w:World}{p:Place}{b:Blk}(h:BlkOk E w p b):BlkOk E' w p (b.ren φ):=by
 cases b with
 |mp es=>
  obtain ⟨h1,ents,cl,h2,h3,h4⟩:=h;refine ⟨h1,ents,cl,h2,h3,fun i hi e he=>?_⟩
  obtain ⟨a,b,c,d⟩:=h4 i hi e he;exact ⟨a,b,by have:=c.ren r;rwa [AV.ren_pure _ _ a] at this,by have:=d.ren r;rwa [AV.ren_pure _ _ b] at this⟩
 |cells cs=>exact ⟨h.1,h.2.ren r⟩
 |vec s es=>
  obtain ⟨h1,h2,h3,h4,h5,h6⟩:=h;refine ⟨h1,fun i hi=>?_,by rw[fD];exact h3,fun hn=>?_,h5,fun i hi=>?_⟩
  ·rw[fD] at hi;rw[kz,bH];exact h2 i hi
  ·obtain ⟨q1,q2⟩:=h4 hn;subst q1;exact ⟨rfl,q2⟩
  ·rw[fD] at hi;rw[kz];exact (h6 i hi).ren r
theorem JI {E E':Env}{w:World}{p:Place}{b:Blk}(h:BlkOk E w p b)(hp:b.pure=true)(hro: ∀b o u,E.ro b o u→E'.ro b o u)(hn:E'.num=E.num)(ht:E'.tnum=E.tnum)
  (hb: ∀o u,w.cell? ⟨p.blk,o,none⟩=some u→u.oneCell'=true→p.isNil=false→E'.ro p.blk o u):Xp E' p b:=by
 have r:RenOk E E' (fun _ _=>.dead):=⟨hro,hn,ht,fun _ _ _=>trivial⟩
 have h':=BlkOk.ren r h
 have e:b.ren (fun _ _=>.dead)=b:=by
  cases b with
  |mp es=>rfl
  |cells cs=>simp only[Blk.ren];rw[f8 _ cs hp]
  |vec s es=>simp only[Blk.ren];rw[fU _ es hp]
 rw[e] at h';exact Qd (S':=fun _=>True) h' (fun bk o u hc h1 hbk hnn=>by subst hbk;exact hb o u hc h1 hnn) (.refl E')
def hpB (bs:List Blk):HF:=fun k=>(bs[k]?).map fun b=>(0,b)
def hpR (bs:List (Bool×Blk)):HF:=fun k=>(bs[k]?).map fun x=>(0,x.2)
def gu (n:Nat):Nat→Nat→Prop:=fun k g=>k<n∧g=0
structure RetC (C:Ctx)(m:Nat)(w':World)(v:Value)(t:Ret)(S1:Nat→Prop)(β1:Nat→Place):Prop where
 kept:Kept C.X C.W0 w'
 s: ∀b,S1 b→b<w'.heap.size∧(C.W0.heap.size≤b∨C.S0 b)
 keep: ∀b,C.S0 b→ ¬C.X b→S1 b
 val:V (aE C S1 β1 (gu t.bs.length) (hpR t.bs) w') v t.r
 at_: ∀k x,t.bs[k]? =some x→((β1 k).isNil=false→S1 (β1 k).blk∧(C.W0.heap.size≤(β1 k).blk∨C.X (β1 k).blk))∧BlkOk (aE C S1 β1 (gu t.bs.length) (hpR t.bs) w') w' (β1 k) x.2
 inj: ∀k k',k<t.bs.length→k'<t.bs.length→(β1 k).isNil=false→(β1 k').isNil=false→(β1 k).blk=(β1 k').blk→k=k'
 pl: ∀k x,k<m→t.bs[k]? =some x→x.1=true→β1 k=C.π k
 len:m≤t.bs.length
def E0 (C:Ctx):Env where
 ro b o u:=b<C.W0.heap.size∧ ¬C.X b∧ ¬C.S0 b∧C.W0.cell? ⟨b,o,none⟩=some u∧u.oneCell'=true
 lv _ _:=none
 used _ _:=False
 num:=C.num
 tnum:=C.tnum
def GlC (N:Nums)(C:Ctx):Prop:= ∀g cs,N.gl g=some cs→aU cs=true→V (E0 C) (.pointer (some ⟨g,0,none⟩)) (.rp cs)
def GoC (N:Nums)(C:Ctx):Prop:= ∀g o,N.go g=some o→g<C.W0.heap.size∧ ¬C.X g∧ ¬C.S0 g∧C.W0.heap[g]? =some o
def dU (N:Nums)(C:Ctx):Prop:=C.num=N.num∧GlC N C∧GoC N C
theorem GlC.at_hi {C:Ctx}{U:Nat→Prop}{hp:HF}{w:World}{S:Nat→Prop}{β:Nat→Place}{used:Nat→Nat→Prop}{N:Nums}(h:HI C U hp w S β used)(hg:GlC N C){g:Nat}{cs:List AV}(h1:N.gl g=some cs)(h2:aU cs=true):
  V (aE C S β used hp w) (.pointer (some ⟨g,0,none⟩)) (.rp cs):=by
 refine V.pure_env (E:=E0 C) (E':=aE C S β used hp w) (fun b o u q=>?_) rfl rfl (hg g cs h1 h2) (by simpa[AV.pure] using h2)
 obtain ⟨q1,q2,q3,q4,q5⟩:=q;refine ⟨fun hs=>?_,?_,q5⟩
 ·rcases (h.s b hs).2 with z|z
  ·omega
  ·exact q3 z
 ·rw[World.cell?_of_block (h.kept.block b q1 q2)];exact q4
structure Entry (C:Ctx)(N:Nums)(vs:Array Value)(args:List AV)(bs:List Blk):Prop where
 num:dU N C
 tnum:C.tnum=N.tnum
 hi:HI C (fun g=>g=0) (hpB bs) C.W0 C.S0 C.π (gu bs.length)
 size:vs.size=args.length
 at_: ∀i,i<args.length→V (aE C C.S0 C.π (gu bs.length) (hpB bs) C.W0) (vs.getD i undef) (args.getD i .any)
def gW (r:AV)(v:Value):Ending:=match dx r with
 |none=>.returned v
 |some _=>.panicked [{v:=v,recovered:=false}]
def unR (t:Ret):Ret:=match dx t.r with
 |none=>t
 |some a=>⟨a,t.bs⟩
theorem sk {r:AV}(h:dx r=none)(v:Value):gW r v= .returned v:=by unfold gW;rw[h]
theorem xY {t:Ret}(h:dx t.r=none):unR t=t:=by unfold unR;rw[h]
theorem afn {r a:AV}(h:dx r=some a)(v:Value):gW r v= .panicked [{v:=v,recovered:=false}]:=by unfold gW;rw[h]
theorem ahG {t:Ret}{a:AV}(h:dx t.r=some a):unR t=⟨a,t.bs⟩:=by unfold unR;rw[h]
def fq (P:Program)(N:Nums)(f:Nat)(args:List AV)(bs:List Blk)(t:Ret):Prop:=
 ∀(C:Ctx)(vs:Array Value),Entry C N vs args bs→Calls P (N.num f) vs C.W0 fun e w'=> ∃v,e=gW t.r v∧ ∃S1 β1,RetC C bs.length w' v (unR t) S1 β1
theorem fk {k:Nat}: ∀{D:List Nat}{i:Nat},idx k D=some i→D[i]? =some k
 | [],_,h=>by cases h
 |x::r,i,h=>by
  simp only[idx] at h;split at h
  ·rename_i e;obtain rfl:=Ai h;simp[e]
  ·obtain ⟨j,h1,rfl⟩:=map_some h
   simpa using fk h1
theorem idx_at {k:Nat}: ∀{D:List Nat},k∈D→ ∃i,idx k D=some i
 |x::r,h=>by
  simp only[idx];split
  ·exact ⟨0,rfl⟩
  ·rename_i e
   obtain ⟨i,hi⟩:=idx_at (D:=r) (by simpa[Ne.symm e] using h)
   exact ⟨i+1,by rw[hi];rfl⟩
theorem mF: ∀l:List Nat,(gw l).Nodup
 | []=>List.nodup_nil
 |k::r=>by
  simp only[gw];cases h:(gw r).contains k with
  |true=>exact mF r
  |false=>
   refine List.nodup_cons.2 ⟨?_,mF r⟩;intro hm;simp[hm] at h
theorem vG: ∀{l:List Nat},dP l=true→l.Nodup
 | [],_=>List.nodup_nil
 |k::r,h=>by
  simp only[dP,Av] at h;refine List.nodup_cons.2 ⟨?_,vG h.2⟩;intro hm;simp[hm] at h
theorem mW: ∀{l:List Nat},l.Nodup→ ∀{i j k:Nat},l[i]? =some k→l[j]? =some k→i=j
 | [],_,i,_,_,h,_=>by simp at h
 |x::r,hn,i,j,k,hi,hj=>by
  rw[List.nodup_cons] at hn;cases i with
  |zero=>
   cases j with
   |zero=>rfl
   |succ j=>
    obtain rfl:x=k:=by simpa using hi
    exact absurd (A3 (by simpa using hj)) hn.1
  |succ i=>
   cases j with
   |zero=>
    obtain rfl:x=k:=by simpa using hj
    exact absurd (A3 (by simpa using hi)) hn.1
   |succ j=>exact congrArg (· +1) (mW hn.2 (i:=i) (j:=j) (k:=k) (by simpa using hi) (by simpa using hj))
theorem yH: ∀(l:List AV)(i:Nat),aU l=true→(l.getD i .any).pure=true
 | [],_,_=>rfl
 |a::r,0,h=>by simp only[aU,Av] at h;simpa using h.1
 |a::r,i+1,h=>by simp only[aU,Av] at h;simpa using yH r i h.2
theorem z6 {hg:HF}{φ:Nat→Nat→Tgt}: ∀{D:List Nat}{bs:List Blk},iO hg φ D=some bs→bs.length=D.length∧ ∀(i k:Nat),D[i]? =some k→ ∃g b,hg k=some (g,b)∧bs[i]? =some (b.ren φ)
 | [], bs, h => by obtain rfl: []=bs:=by simpa[iO] using h
                   exact ⟨rfl,by simp⟩
 |k::r,bs,h=>by
  simp only[iO] at h;split at h
  ·rename_i g b bs' h1 h2
   obtain rfl:=Ai h;obtain ⟨q1,q2⟩:=z6 h2;refine ⟨by simp[q1],fun i k' hi=>?_⟩
   cases i with
   | zero => obtain rfl:k=k':=by simpa using hi
             exact ⟨g,b,h1,rfl⟩
   |succ i=>simpa using q2 i k' (by simpa using hi)
  ·cases h
section
variable {P:Program} {C:Ctx} {U:Nat→Prop} {hp:HF} {w:World} {S:Nat→Prop} {β:Nat→Place} {used:Nat→Nat→Prop} {g:Nat} {N:Nums}
def dv (C:Ctx)(hp:HF)(w:World)(S:Nat→Prop)(β:Nat→Place)(D fz:List Nat):Ctx where
 num:=C.num
 tnum:=C.tnum
 W0:=w
 X b:= ∃k∈D,(β k).isNil=false∧(β k).blk=b
 S0 b:=S b∧ ¬ ∃k∈fz,∃x,hp k=some x∧(β k).isNil=false∧(β k).blk=b
 π i:=β (D.getD i 0)
 n:=0
theorem zy (h:HI C U hp w S β used)(hn:dU N C)(D fz:List Nat)(hD: ∀k∈D,∃x,hp k=some x):dU N (dv C hp w S β D fz):=by
 have nS0: ∀b,b<C.W0.heap.size→ ¬C.S0 b→ ¬S b:=fun b q1 q3 hs=>by
  rcases (h.s b hs).2 with z|z
  ·omega
  ·exact q3 z
 have nX: ∀b,¬S b→ ¬(dv C hp w S β D fz).X b:=by
  rintro b nS ⟨k,hk,hnn,rfl⟩
  obtain ⟨⟨g',b'⟩,hx⟩:=hD k hk;exact nS ((h.at_ k g' b' hx).2.1 hnn).1
 refine ⟨hn.1,fun g cs h1 h2=>?_,fun g o hg=>?_⟩
 rotate_left
 ·obtain ⟨q1,q2,q3,q4⟩:=hn.2.2 g o hg
  have nS:=nS0 g q1 q3;exact ⟨B6 q1 h.kept.size,nX g nS,fun z=>nS z.1,(h.kept.block g q1 q2).trans q4⟩
 refine V.pure_env (E:=E0 C) (E':=E0 (dv C hp w S β D fz)) (fun b o u q=>?_) rfl rfl (hn.2.1 g cs h1 h2) (by simpa[AV.pure] using h2)
 obtain ⟨q1,q2,q3,q4,q5⟩:=q
 have nS: ¬S b:=fun hs=>by
  rcases (h.s b hs).2 with z|z
  ·omega
  ·exact q3 z
 refine ⟨B6 q1 h.kept.size,?_,fun z=>nS z.1,?_,q5⟩
 ·rintro ⟨k,hk,hnn,rfl⟩
  obtain ⟨⟨g',b'⟩,hx⟩:=hD k hk;exact nS ((h.at_ k g' b' hx).2.1 hnn).1
 ·rw[show (dv C hp w S β D fz).W0=w from rfl,World.cell?_of_block (h.kept.block b q1 q2)];exact q4
theorem aaC (h:HI C U hp w S β used)(hn:dU N C)(ht:C.tnum=N.tnum){raw:Bool}{args:List AV}{vs:Array Value}(hsz:vs.size=args.length)(hv: ∀i,i<args.length→V (aE C S β used hp w) (vs.getD i undef) (args.getD i .any))
  {c:CIn} (hc:eY hp raw args=some c):
  Entry (dv C hp w S β c.D c.fz) N vs c.args c.bs∧c.D.Nodup∧(∀k∈c.D,∃x,hp k=some x)∧(∀k∈c.fz,k∉c.D)∧c.bs.length=c.D.length:=by
 unfold eY at hc;split at hc
 ·rename_i hk
  obtain rfl:=Ai hc;refine ⟨⟨zy h hn [] [] (by simp),ht,⟨.refl _ _,fun b hb=>⟨(h.s b hb.1).1,.inr hb⟩,fun b hb=>(h.s b hb.1).1,fun b hb _=>hb,fun k g hu=>hu.2,fun k g b q=>by simp[hpB] at q,fun k k' x x' q=>by simp[hpB] at q,fun k b q=>by simp[hpB] at q⟩,hsz,fun i hi=>?_⟩,List.nodup_nil,by simp,by simp,rfl⟩
  have hpur:=jV args hk;have hpu:(args.getD i .any).pure=true:=yH args i hpur;exact V.pure_env (E:=aE C S β used hp w) (E':=aE (dv C hp w S β [] []) (dv C hp w S β [] []).S0 (dv C hp w S β [] []).π (gu 0) (hpB []) w) (fun b o u q=>⟨fun q'=>q.1 q'.1,q.2⟩) rfl rfl (hv i hi) hpu
 ·rename_i K hK
  obtain ⟨bs,hb,rfl⟩:=map_some hc;generalize hD:io hp raw args=D at hb⊢
  have hnd:D.Nodup:=by
   rw[←hD];unfold io
   split
   ·exact List.nodup_nil
   ·exact mF _
  generalize hfz:(ce true args).filter (fun k=> !D.contains k)=fz at hb⊢
  have hfzD: ∀k∈fz,k∉D:=fun k hk=>by rw[←hfz] at hk;simp at hk;exact hk.2
  obtain ⟨e1,e2⟩:=z6 hb
  have hlive: ∀k∈D,∃x,hp k=some x:=fun k hk=>by
   obtain ⟨i,hi⟩:=idx_at hk;obtain ⟨g,b,q,_⟩:=e2 i k (fk hi);exact ⟨_,q⟩
  have hπ: ∀i k,D[i]? =some k→(dv C hp w S β D fz).π i=β k:=fun i k hi=>by
   show β (D.getD i 0)=_
   rw[Aj,hi];rfl
  have hr:RenOk (aE C S β used hp w) (aE (dv C hp w S β D fz) (dv C hp w S β D fz).S0 (dv C hp w S β D fz).π (gu bs.length) (hpB bs) w) (pF hp D fz):=by
   refine ⟨fun b o u q=>⟨fun q'=>q.1 q'.1,q.2⟩,rfl,rfl,fun k g hu=>?_⟩
   unfold pF;cases hk:hp k with
   |none=>trivial
   |some x=>
    obtain ⟨g',b⟩:=x;dsimp only
    by_cases eg:g'=g
    ·subst eg
     rw[Ad rfl];cases hi:idx k D with
     |some i=>
      have hDi:=fk hi;obtain ⟨g2,b2,q1,q2⟩:=e2 i k hDi
      have hlt:i<bs.length:=by
       rcases AZ i bs.length with q|q
       ·exact q
       ·rw[AC q] at q2;cases q2
      refine ⟨⟨hlt,rfl⟩,fun p hp'=>?_⟩
      obtain ⟨_,_,rfl⟩:=eN hp';rw[hπ i k hDi];exact br hk
     |none=>
      dsimp only;cases hq:(fz.contains k&&b.pure) with
      |false=>trivial
      |true=>
       simp only[Av] at hq;refine ⟨β k,br hk,?_⟩;refine JI (h.at_ k g' b hk).2.2 hq.2 (fun b o u q=>⟨fun q'=>q.1 q'.1,q.2⟩) rfl rfl fun o u hc1 h1 hnn=>⟨fun q=>q.2 ⟨k,by simpa using hq.1,_,hk,hnn,rfl⟩,hc1,h1⟩
    ·rw[Ac eg];trivial
  refine ⟨⟨zy h hn D fz hlive,ht,⟨.refl _ _,fun b hb=>⟨(h.s b hb.1).1,.inr hb⟩,fun b hb=>(h.s b hb.1).1,fun b hb _=>hb,fun k g hu=>hu.2,fun i g b q=>?_,fun i i' x x' q q' n1 n2 hbk=>?_,fun k b q=>rfl⟩,by rw[bH];exact hsz,fun i hi=>?_⟩,hnd,hlive,hfzD,e1⟩
  ·obtain ⟨b',q1,q2⟩:=map_some q
   have hlt:i<bs.length:=by
    rcases AZ i bs.length with y|y
    ·exact y
    ·rw[AC y] at q1;cases q1
   obtain ⟨rfl,rfl⟩:=Prod.mk.inj q2;have hDi:D[i]? =some (D[i]'(by omega)):=by rw[AJ]
   obtain ⟨g2,b2,y1,y2⟩:=e2 i _ hDi;rw[q1] at y2;obtain rfl:=Ai y2;obtain ⟨z1,z2,z3⟩:=h.at_ _ g2 b2 y1;rw[hπ i _ hDi];refine ⟨⟨hlt,rfl⟩,fun hnn=>⟨⟨(z2 hnn).1,?_⟩,.inr ⟨_,List.getElem_mem _,hnn,rfl⟩⟩,z3.ren hr⟩
   rintro ⟨k',hk',x',hx',hn',hb'⟩
   have:=h.inj k' _ _ _ hx' y1 hn' hnn hb';subst this;exact hfzD _ hk' (List.getElem_mem _)
  ·have at1: ∀i x,hpB bs i=some x→ ∃k,D[i]? =some k∧ ∃y,hp k=some y:=fun i x q=>by
    obtain ⟨b',q1,_⟩:=map_some q
    have hlt:i<bs.length:=by
     rcases AZ i bs.length with y|y
     ·exact y
     ·rw[AC y] at q1;cases q1
    have hDi:D[i]? =some (D[i]'(by omega)):=by rw[AJ]
    exact ⟨_,hDi,hlive _ (List.getElem_mem _)⟩
   obtain ⟨k,d1,y,l1⟩:=at1 i x q;obtain ⟨k',d2,y',l2⟩:=at1 i' x' q';rw[hπ i k d1] at n1 hbk;rw[hπ i' k' d2] at n2 hbk;have:=h.inj k k' _ _ l1 l2 n1 n2 hbk;subst this;exact mW hnd d1 d2
  ·rw[bH] at hi
   rw[f9];exact (hv i hi).ren hr
end
end Go.AM
namespace Go.AM
open Go.RowKit
section
variable {P:Program} {C:Ctx} {U:Nat→Prop} {hp:HF} {w w':World} {S:Nat→Prop} {β:Nat→Place} {used:Nat→Nat→Prop} {g:Nat} {N:Nums}
theorem Kx (φ:Nat→Nat→Tgt)(gi:Nat→Nat)(f:HF): ∀(K:List Nat)(bs:List (Bool×Blk))(i0:Nat),K.length=bs.length→K.Nodup→
  (∀i k x,K[i]? =some k→bs[i]? =some x→hov (nh φ gi i0 K bs) f k=some (gi (i0+i),x.2.ren φ))∧ ∀k,k∉K→hov (nh φ gi i0 K bs) f k=f k
 | [],[],i0,_,_=>⟨fun i k x h=>by simp at h,fun k _=>rfl⟩
 |k0::K,(b0,x0)::bs,i0,hl,hn=>by
  rw[List.nodup_cons] at hn;obtain ⟨h1,h2⟩:=Kx φ gi f K bs (i0+1) (by simpa using hl) hn.2
  refine ⟨fun i k x hk hx=>?_,fun k hk=>?_⟩
  ·cases i with
   |zero=>
    obtain rfl:k0=k:=by simpa using hk
    obtain rfl:(b0,x0)=x:=by simpa using hx
    simp[nh,hov,up]
   |succ i=>
    have hk':K[i]? =some k:=by simpa using hk
    have hne:k≠k0:=fun e=>hn.1 (e▸A3 hk')
    simp only[nh,hov,up,Ac hne];rw[h1 i k x hk' (by simpa using hx)]
    congr 2;congr 1;omega
  ·simp only[AK,not_or] at hk
   simp only[nh,hov,up,Ac hk.1];exact h2 k hk.2
 | [],_::_,_,hl,_=>by simp at hl
 |_::_,[],_,hl,_=>by simp at hl
theorem afa (l l':aw)(f:HF):hov (l++l') f=hov l (hov l' f):=by
 induction l with
 |nil=>rfl
 |cons x r ih=>obtain ⟨k,v⟩:=x;simp only[BY,hov,ih]
theorem pM {r a:AV}(h:dx r=some a): ∃t,r= .ifc t (.tup [.ref 0 1 0,a]):=by
 unfold dx at h;split at h
 ·obtain rfl:=Ai h;exact ⟨_,rfl⟩
 ·cases h
theorem Xx {r:AV}(h:r.dry=true):dx r=none:=by
 cases hu:dx r with
 |none=>rfl
 |some a=>obtain ⟨t,rfl⟩:=pM hu;simp[AV.dry,ui] at h
theorem Tw {r:AV}(h:r.pure=true):dx r=none:=by
 cases hu:dx r with
 |none=>rfl
 |some a=>obtain ⟨t,rfl⟩:=pM hu;simp[AV.pure,aU] at h
theorem WO {hg:HF}{c:CIn}{g dst:Nat}{t:Ret}{e:Eff}(h:cd hg c g dst t=some e):dx t.r=none:=by
 unfold cd at h;cases h1:(t.bs.isEmpty&&t.r.dry) with
 |true=>simp only[Av] at h1;exact Xx h1.2
 |false=>
  rw[h1] at h;dsimp only[cond] at h;cases h2:dx t.r with
  |none=>rfl
  |some a=>rw[h2] at h;simp at h
theorem WN (h:HI C U hp w S β used)(hg: ¬U g)(hg0:g≠0){c:CIn}(hnd:c.D.Nodup)(hlive: ∀k∈c.D,∃x,hp k=some x)(hfz: ∀k∈c.fz,k∉c.D)(hbl:c.bs.length=c.D.length)
  {v:Value} {t:Ret} {S1:Nat→Prop} {β1:Nat→Place} (hr:RetC (dv C hp w S β c.D c.fz) c.bs.length w' v t S1 β1) {dst:Nat} {e:Eff} (he:cd hp c g dst t=some e):
  ∃S' β' used',HI C (Or1 U g) (hov e.wr hp) w' S' β' used'∧(aE C S β used hp w).le (aE C S' β' used' (hov e.wr hp) w')∧V (aE C S' β' used' (hov e.wr hp) w') v e.res:=by
 let FZ:Nat→Prop:=fun b=> ∃k∈c.fz,∃x,hp k=some x∧(β k).isNil=false∧(β k).blk=b
 let X1:Nat→Prop:=fun b=> ∃k∈c.D,(β k).isNil=false∧(β k).blk=b
 have kept1:Kept X1 w w':=hr.kept;have blkS: ∀k x,hp k=some x→(β k).isNil=false→S (β k).blk∧(C.W0.heap.size≤(β k).blk∨C.X (β k).blk):=fun k x hk hn=>(h.at_ k x.1 x.2 hk).2.1 hn
 have X1S: ∀b,X1 b→S b∧(C.W0.heap.size≤b∨C.X b):=fun b ⟨k,hk,hn,hb⟩=>by
  obtain ⟨x,hx⟩:=hlive k hk;subst hb;exact blkS k x hx hn
 have FZS: ∀b,FZ b→S b∧(C.W0.heap.size≤b∨C.X b):=fun b ⟨k,hk,x,hx,hn,hb⟩=>by subst hb;exact blkS k x hx hn
 have S1cases: ∀b,S1 b→w.heap.size≤b∨(S b∧ ¬FZ b):=fun b hb=>(hr.s b hb).2
 have keptC:Kept C.X C.W0 w':=h.kept.trans kept1 fun b hb hx=>((X1S b hx).2).resolve_left (by omega)
 have cellKeep: ∀b o u,¬X1 b→w.cell? ⟨b,o,none⟩=some u→w'.cell? ⟨b,o,none⟩=some u:=fun b o u hx hc=>by
  rw[((SameB.of_block (kept1.block b (re hc) hx)).at o).1];exact hc
 have fresh_out: ∀b,C.S0 b→ ¬C.X b→S b∧ ¬FZ b:=fun b hb hx=>⟨h.keep b hb hx,fun hf=>by
  rcases (FZS b hf).2 with q|q
  ·have:=h.s0 b hb;omega
  ·exact hx q⟩
 have keep1: ∀b,C.S0 b→ ¬C.X b→S1 b:=fun b hb hx=>hr.keep b (fresh_out b hb hx) fun hx1=>by
  rcases (X1S b hx1).2 with q|q
  ·have:=h.s0 b hb;omega
  ·exact hx q
 have s1lt: ∀b,S1 b→b<w'.heap.size∧(C.W0.heap.size≤b∨C.S0 b):=fun b hb=>⟨(hr.s b hb).1,by
  rcases S1cases b hb with q|q
  ·exact .inl (AL h.kept.size q)
  ·exact (h.s b q.1).2⟩
 -- a key that the callee did not get keeps its object
 have other: ∀k x,hp k=some x→k∉c.D→k∉c.fz→(β k).isNil=false→S1 (β k).blk∧SameB w w' (β k).blk:=fun k x hk hD hf hn=>by
  obtain ⟨q1,q2⟩:=blkS k x hk hn
  have nX: ¬X1 (β k).blk:=fun ⟨k',hk',hn',hb⟩=>by
   obtain ⟨x',hx'⟩:=hlive k' hk';exact hD (h.inj k' k _ _ hx' hk hn' hn hb▸hk')
  have nF: ¬FZ (β k).blk:=fun ⟨k',hk',x',hx',hn',hb⟩=>hf (h.inj k' k _ _ hx' hk hn' hn hb▸hk')
  exact ⟨hr.keep _ ⟨q1,nF⟩ nX,.of_block (kept1.block _ (h.s _ q1).1 nX)⟩
 unfold cd at he;cases hdry:(t.bs.isEmpty&&t.r.dry) with
 |true=>
  rw[hdry] at he;obtain rfl:=Ai he;simp only[Av] at hdry;have hbs:t.bs= []:=List.isEmpty_iff.1 hdry.1
  have hD:c.D= []:=by
   have:=hr.len;rw[hbs,hbl] at this;exact AI (by simpa using this)
  have nX: ∀b,¬X1 b:=fun b ⟨k,hk,_⟩=>by rw[hD] at hk;cases hk
  refine ⟨fun b=>S1 b∨FZ b,β,used,?_⟩
  have hch:=h.change (U':=Or1 U g) (hp':=hp) (w':=w') (S':=fun b=>S1 b∨FZ b) (β':=β) (used':=used) keptC (fun b o u hs hc=>⟨?_,cellKeep b o u (nX b) hc⟩) (fun _ _=>id) (fun k g b hk _=>⟨⟨b,hk⟩,rfl⟩) ?_ (fun b hb hx=>.inl (keep1 b hb hx)) (fun k g hu=>.inl (h.us k g hu)) ?_ h.inj h.pl
  ·exact ⟨hch.1,hch.2,V.dry_env (E:=aE (dv C hp w S β c.D c.fz) S1 β1 (gu t.bs.length) (hpR t.bs) w') (E':=aE C (fun b=>S1 b∨FZ b) β used hp w') rfl rfl hr.val hdry.2⟩
  ·rintro (q|q)
   ·rcases S1cases b q with y|y
    ·have:=re hc;omega
    ·exact hs y.1
   ·exact hs (FZS b q).1
  ·rintro b (q|q)
   ·exact s1lt b q
   ·have:=h.s b (FZS b q).1
    exact ⟨B6 this.1 kept1.size,this.2⟩
  ·intro k g b hk
   refine .inl ⟨hk,rfl,fun hn=>?_⟩
   have hsame:SameB w w' (β k).blk:=.of_block (kept1.block _ (h.s _ (blkS k _ hk hn).1).1 (nX _))
   by_cases hf:k∈c.fz
   ·exact ⟨.inr ⟨k,hf,_,hk,hn,rfl⟩,hsame⟩
   ·exact ⟨.inl (other k _ hk (by rw[hD];simp) hf hn).1,hsame⟩
 |false=>
  rw[hdry] at he;dsimp only[cond] at he;obtain ⟨lF,hlF⟩:=s4 c.D dst t.bs.length;generalize hKd:ez c.D dst t.bs.length=K at he;cases hb:((dx t.r).isNone&&(dP K&&decide (K.length=t.bs.length))) with
  |false=>rw[hb] at he;cases he
  |true=>
   rw[hb] at he;obtain rfl:=Ai he;simp only[Av,AO] at hb;obtain ⟨_,hKn,hKl⟩:=hb;have hKn:=vG hKn
   have hKD: ∀i k,c.D[i]? =some k→K[i]? =some k:=fun i k hk=>by
    rw[←hKd,hlF];rw[BD]
    ·exact hk
    ·rcases AZ i c.D.length with q|q
     ·exact q
     ·rw[AC q] at hk;cases hk
   have hDK: ∀k∈c.D,k∈K:=fun k hk=>by rw[←hKd,hlF];exact List.mem_append_left _ hk
   let gi:=im hp K c.D.length g t.bs
   let φ:=rm hp K c.D.length g t.bs
   let hp1:=hov (cW c.fz) hp
   have hp1eq:hp1=f6 hp c.fz:=jp c.fz hp;obtain ⟨k1,k2⟩:=Kx φ gi hp1 K t.bs 0 hKl hKn
   let hp':=hov (nh φ gi 0 K t.bs) hp1
   have hwr:hov (nh φ gi 0 K t.bs++cW c.fz) hp=hp':=afa _ _ _;rw[hwr];have kAt: ∀k,k∈K→ ∃i,idx k K=some i:=fun k hk=>idx_at hk
   let β':Nat→Place:=fun k=>match idx k K with|some i=>β1 i|none=>β k
   let used':Nat→Nat→Prop:=fun k g'=>used k g'∨ ∃i,K[i]? =some k∧i<t.bs.length∧g'=gi i
   have β'K: ∀i k,K[i]? =some k→β' k=β1 i:=fun i k hk=>by
    obtain ⟨j,hj⟩:=idx_at (A3 hk);have:j=i:=mW hKn (fk hj) hk;subst this;show (match idx k K with|some i=>β1 i|none=>β k)=_
    rw[hj]
   have β'o: ∀k,k∉K→β' k=β k:=fun k hk=>by
    show (match idx k K with|some i=>β1 i|none=>β k)=_
    cases hi:idx k K with
    |none=>rfl
    |some i=>exact absurd (A3 (fk hi)) hk
   have bsAt: ∀i k,K[i]? =some k→ ∃x,t.bs[i]? =some x∧i<t.bs.length:=fun i k hk=>by
    have:i<K.length:=by
     rcases AZ i K.length with q|q
     ·exact q
     ·rw[AC q] at hk;cases hk
    exact ⟨t.bs[i]'(by omega),by rw[AJ],by omega⟩
   -- the two kinds of keys
   have hpK: ∀k x,hp' k=some x→(∃i y,K[i]? =some k∧t.bs[i]? =some y∧i<t.bs.length∧x=(gi i,y.2.ren φ))∨(k∉K∧k∉c.fz∧hp k=some x):=fun k x hk=>by
    by_cases hm:k∈K
    ·left
     obtain ⟨i,hi⟩:=kAt k hm;obtain ⟨y,hy,hlt⟩:=bsAt i k (fk hi);have:=k1 i k y (fk hi) hy;rw[A5] at this;refine ⟨i,y,fk hi,hy,hlt,?_⟩;exact Ai (hk.symm.trans this)
    ·right
     have:=k2 k hm;have hk1:hp1 k=some x:=this.symm.trans hk;rw[hp1eq] at hk1;unfold f6 at hk1;split at hk1
     ·cases hk1
     ·rename_i q;exact ⟨hm,by simpa using q,hk1⟩
   -- an old stamp under a target key
   have giOld: ∀i k,K[i]? =some k→i<t.bs.length→(gi i=g)∨(∃b,c.D[i]? =some k∧hp k=some (gi i,b)∧β1 i=β k):=fun i k hk hlt=>by
    show (im hp K c.D.length g t.bs i=g)∨(∃b,c.D[i]? =some k∧hp k=some (im hp K c.D.length g t.bs i,b)∧β1 i=β k)
    unfold im;cases hq:(decide (i<c.D.length)&&(t.bs.getD i default).1) with
    |false=>exact .inl rfl
    |true=>
     right
     simp only[Av,AO] at hq;have hDi:c.D[i]? =some (c.D[i]'hq.1):=AJ hq.1;have:=hKD i _ hDi;rw[hk] at this;obtain rfl:=Ai this;obtain ⟨⟨g0,b0⟩,hx⟩:=hlive _ (List.getElem_mem hq.1);have hKg:K.getD i 0=c.D[i]'hq.1:=by rw[Aj,hk];rfl
     refine ⟨b0,hDi,by simp only[cond_true,hKg,zF,hx],?_⟩
     have hbi:t.bs[i]? =some (t.bs[i]'hlt):=AJ hlt;have hflag:(t.bs[i]'hlt).1=true:=by have:=hq.2;rwa [Aj,hbi] at this
     have:=hr.pl i _ (by omega) hbi hflag
     rw[this];show β (c.D.getD i 0)=_
     rw[Aj,hDi];rfl
   have hro: ∀b o u,¬S b→w.cell? ⟨b,o,none⟩=some u→ ¬S1 b∧w'.cell? ⟨b,o,none⟩=some u:=fun b o u hs hc=>
    ⟨fun q=>(S1cases b q).elim (fun y=>by have:=re hc;omega) fun y=>hs y.1,cellKeep b o u (fun q=>hs (X1S b q).1) hc⟩
   have hlv: ∀k g' b,hp' k=some (g',b)→used k g'→(∃b',hp k=some (g',b'))∧β' k=β k:=fun k g' b hk hu=>by
    rcases hpK k _ hk with ⟨i,y,q1,q2,q3,q4⟩|⟨q1,q2,q3⟩
    ·obtain ⟨rfl,_⟩:=Prod.mk.inj q4
     rcases giOld i k q1 q3 with z|⟨b0,_,z2,z3⟩
     ·rw[z] at hu;exact absurd (h.us _ _ hu) hg
     ·exact ⟨⟨b0,z2⟩,(β'K i k q1).trans z3⟩
    ·exact ⟨⟨b,q3⟩,β'o k q1⟩
   have l:(aE C S β used hp w).le (aE C S1 β' used' hp' w'):=jo hro (fun _ _=>.inl) hlv
   have hren:RenOk (aE (dv C hp w S β c.D c.fz) S1 β1 (gu t.bs.length) (hpR t.bs) w') (aE C S1 β' used' hp' w') φ:=by
    refine ⟨fun b o u q=>q,rfl,rfl,fun i g' hu=>?_⟩
    obtain ⟨hlt,rfl⟩:=hu;have hKi:K[i]? =some (K[i]'(by omega)):=AJ (by omega)
    show (match φ i 0 with| .to k' g'=>_| .frz b=>_| .dead=>_)
    have hφ:φ i 0= .to (K[i]'(by omega)) (gi i):=by show rm hp K c.D.length g t.bs i 0=_;unfold rm;rw[hKi]
    rw[hφ];refine ⟨.inr ⟨i,hKi,hlt,rfl⟩,fun p hp2=>?_⟩
    obtain ⟨b,_,rfl⟩:=eN hp2;rw[β'K i _ hKi];have:hpR t.bs i=some (0,(t.bs[i]'hlt).2):=by simp[hpR,hlt]
    exact br this
   have hch:=h.change (U':=Or1 U g) (hp':=hp') (w':=w') (S':=S1) (β':=β') (used':=used') keptC hro (fun _ _=>.inl) hlv s1lt keep1 ?_ ?_ ?_ ?_
   ·exact ⟨S1,β',used',hch.1,l,hr.val.ren hren⟩
   ·rintro k g' (hu|⟨i,hi,hlt,rfl⟩)
    ·exact .inl (h.us _ _ hu)
    ·rcases giOld i k hi hlt with z|⟨b0,_,z2,_⟩
     ·exact .inr z
     ·exact .inl (h.us _ _ (h.at_ k _ _ z2).1)
   ·intro k g' b hk
    rcases hpK k _ hk with ⟨i,y,q1,q2,q3,q4⟩|⟨q1,q2,q3⟩
    ·right
     obtain ⟨rfl,rfl⟩:=Prod.mk.inj q4;rw[β'K i k q1];obtain ⟨z1,z2⟩:=hr.at_ i y q2;refine ⟨.inr ⟨i,q1,q3,rfl⟩,fun hn=>⟨(z1 hn).1,?_⟩,z2.ren hren⟩
     rcases (z1 hn).2 with y|y
     ·exact .inl (AL h.kept.size y)
     ·exact (X1S _ y).2
    ·left
     refine ⟨q3,β'o k q1,fun hn=>other k _ q3 (fun q=>q1 (hDK k q)) q2 hn⟩
   ·have inD: ∀i k,K[i]? =some k→i<t.bs.length→(β1 i).isNil=false→ ∀k2 x2,hp k2=some x2→k2∉K→(β k2).isNil=false→(β1 i).blk≠(β k2).blk:=fun i k hi hlt hn k2 x2 h2 hk2 hn2 hbk=>by
     obtain ⟨y,hy,_⟩:=bsAt i k hi;rcases ((hr.at_ i y hy).1 hn).2 with q|⟨k3,hk3,hn3,hb3⟩
     ·have:=(h.s _ (blkS k2 x2 h2 hn2).1).1
      have q':w.heap.size≤(β1 i).blk:=q;rw[hbk] at q';omega
     ·obtain ⟨x3,hx3⟩:=hlive k3 hk3
      have:=h.inj k3 k2 _ _ hx3 h2 hn3 hn2 (hb3.trans hbk);exact hk2 (this▸hDK k3 hk3)
    intro k k' x x' h1 h2 n1 n2 hbk;rcases hpK k _ h1 with ⟨i,y,q1,q2,q3,_⟩|⟨q1,q2,q3⟩<;>rcases hpK k' _ h2 with ⟨i',y',p1,p2,p3,_⟩|⟨p1,p2,p3⟩
    ·rw[β'K i k q1] at n1 hbk
     rw[β'K i' k' p1] at n2 hbk;have:=hr.inj i i' q3 p3 n1 n2 hbk;subst this;exact Ai (q1.symm.trans p1)
    ·rw[β'K i k q1] at n1 hbk
     rw[β'o k' p1] at n2 hbk;exact absurd hbk (inD i k q1 q3 n1 k' _ p3 p1 n2)
    ·rw[β'o k q1] at n1 hbk
     rw[β'K i' k' p1] at n2 hbk;exact absurd hbk.symm (inD i' k' p1 p3 n2 k _ q3 q1 n1)
    ·rw[β'o k q1] at n1 hbk
     rw[β'o k' p1] at n2 hbk;exact h.inj k k' _ _ q3 p3 n1 n2 hbk
   ·intro k b hk
    rcases hpK k _ hk with ⟨i,y,q1,q2,q3,q4⟩|⟨q1,q2,q3⟩
    ·obtain ⟨e0,_⟩:=Prod.mk.inj q4
     rcases giOld i k q1 q3 with z|⟨b0,_,z2,z3⟩
     ·exact absurd (e0.trans z).symm hg0
     ·rw[β'K i k q1,z3]
      rw[←e0] at z2;exact h.pl k b0 z2
    ·rw[β'o k q1];exact h.pl k b q3
end
end Go.AM
namespace Go.AM
open Go.RowKit
theorem mi {hg hg':HF}: ∀{D:List Nat},(∀k∈D,hg k=hg' k)→cx hg D=cx hg' D
 | [],_=>rfl
 |k::r,h=>by simp only[cx];rw[h k (by simp),mi fun k' hk=>h k' (by simp[hk])]
theorem gb {k:Nat}: ∀{l:List Nat},k∈gw l↔k∈l
 | []=>by simp[gw]
 |x::r=>by
  simp only[gw];cases h:(gw r).contains x with
  |true=>
   have hx:x∈r:=gb.1 (by simpa using h)
   simp only[cond_true,AK];rw[gb];exact ⟨.inr,fun q=>q.elim (fun e=>e▸hx) id⟩
  |false=>simp only[cond_false,AK,gb]
theorem Jq {hg hg':HF}{raw:Bool}{args:List AV}(h: ∀k∈io hg raw args,hg k=hg' k):io hg' raw args=io hg raw args:=by
 unfold io at h⊢;generalize ce raw args=D at h⊢;cases D with
 |nil=>rfl
 |cons d r=>
  dsimp only at h⊢
  rw[mi (hg:=hg') (hg':=hg) (D:=d::r) fun k hk=>(h k (gb.2 (List.mem_append_left _ (List.mem_append_left _ hk)))).symm,
   mi (hg:=hg') (hg':=hg) (D:=(d::r)++cx hg (d::r)) fun k hk=>(h k (gb.2 (List.mem_append_left _ hk))).symm]
theorem sE {hg hg':HF}{φ φ':Nat→Nat→Tgt}(hφ:φ=φ'): ∀{D:List Nat},(∀k∈D,hg k=hg' k)→iO hg φ D=iO hg' φ' D
 | [],_=>rfl
 |k::r,h=>by simp only[iO];rw[h k (by simp),sE hφ fun k' hk=>h k' (by simp[hk]),hφ]
theorem qB {k:Nat}{D:List Nat}(h:k∉D):idx k D=none:=by
 cases hq:idx k D with
 |none=>rfl
 |some i=>exact absurd (A3 (fk hq)) h
theorem WU {hg hg':HF}{D fz:List Nat}(h: ∀k∈fz++D,hg k=hg' k):pF hg D fz=pF hg' D fz:=by
 funext k g
 by_cases hk:k∈fz++D
 ·unfold pF;rw[h k hk]
 ·simp only[B4,not_or] at hk
  have dead: ∀f:HF,pF f D fz k g= .dead:=fun f=>by
   unfold pF;have hc:fz.contains k=false:=by simpa using hk.1
   cases f k with
   |none=>rfl
   |some x=>
    obtain ⟨g',b⟩:=x;simp only[qB hk.2,hc,BF,cond_false,ite_self]
  rw[dead,dead]
theorem OW {hg hg':HF}{raw:Bool}{args:List AV}{c:CIn}(hc:eY hg raw args=some c)(h: ∀k∈c.fz++c.D,hg k=hg' k):eY hg' raw args=some c:=by
 unfold eY at hc⊢;split
 ·rename_i hk;rw[hk] at hc;exact hc
 ·rename_i K hK
  split at hc
  ·rename_i hk;exact absurd hk hK
  ·obtain ⟨bs,hb,rfl⟩:=map_some hc
   dsimp only at h⊢;rw[Jq (hg:=hg) (hg':=hg') fun k hk=>h k (List.mem_append_right _ hk)]
   rw[←WU h,←sE (hg:=hg) rfl fun k hk=>h k (List.mem_append_right _ hk),hb]
   rfl
theorem JF {hg hg':HF}{c:CIn}{g dst:Nat}{t:Ret}{e:Eff}(he:cd hg c g dst t=some e)(h: ∀k∈c.fz++c.D,hg k=hg' k):cd hg' c g dst t=some e:=by
 have hg1: ∀i,im hg (ez c.D dst t.bs.length) c.D.length g t.bs i=im hg' (ez c.D dst t.bs.length) c.D.length g t.bs i:=fun i=>by
  unfold im;cases hq:(decide (i<c.D.length)&&(t.bs.getD i default).1) with
  |false=>rfl
  |true=>
   simp only[Av,AO] at hq;simp only[cond_true]
   have:(ez c.D dst t.bs.length).getD i 0=c.D[i]'hq.1:=by
    obtain ⟨lF,hlF⟩:=s4 c.D dst t.bs.length;rw[hlF];rw[Aj,BD hq.1,AJ hq.1];rfl
   rw[this];unfold zF;rw[h _ (List.mem_append_right _ (List.getElem_mem _))]
 have hg2:im hg (ez c.D dst t.bs.length) c.D.length g t.bs=im hg' (ez c.D dst t.bs.length) c.D.length g t.bs:=funext hg1
 have hg3:rm hg (ez c.D dst t.bs.length) c.D.length g t.bs=rm hg' (ez c.D dst t.bs.length) c.D.length g t.bs:=by
  funext i x;unfold rm;rw[hg1]
 unfold cd at he⊢;dsimp only at he⊢;rw[←hg2,←hg3];exact he
theorem WM {hg:HF}{c:CIn}{g dst:Nat}{t:Ret}{e:Eff}(he:cd hg c g dst t=some e):e.rd=c.fz++c.D:=by
 unfold cd at he;cases h1:(t.bs.isEmpty&&t.r.dry) with
 |true=>rw[h1] at he;obtain rfl:=Ai he;rfl
 |false=>
  rw[h1] at he;dsimp only[cond] at he;split at he
  ·obtain rfl:=Ai he;rfl
  ·cases he
def aen (n:Nat):Option Nat→Bool
 |none=>true
 |some d=>decide (d<n)
def G6 (ops:Array Oper):Option (Nat×Bool)→Option (Option (Nat×Bool))
 |none=>some none
 |some (j,w)=>match (ops[j]?).bind (·.dst) with
  |some t=>if t<D0 then some (some (t,w)) else none
  |none=>none
def Tj (o:Oper):List Nat:=(o.after.toList.filter fun e=>Region.binds .any e).map (·.on)
def Oh (P:Program)(N:Nums)(n:Nat)(ops:Array Oper)(i:Nat)(o:Oper):Option AOper:=
 match bn P N o,G6 ops o.guard with
 |some op,some gd=>if aen n o.dst=true∧(Tj o).all (fun j=>decide (j<i))=true then some {dst:=o.dst,op:=op,guard:=gd,after:=Tj o} else none
 |_,_=>none
def fa (P:Program)(N:Nums)(n:Nat)(ops:Array Oper):Nat→List Oper→Option (List AOper)
 |_,[]=>some []
 |i,o::r=>match Oh P N n ops i o,fa P N n ops (i+1) r with
  |some a,some l=>some (a::l)
  |_,_=>none
def Pr (x y:AOper):Bool:=
 (match x.dst with|some t=> !(looks y).contains t&&y.dst !=some t|none=>true)&&(match y.dst with|some t=> !(looks x).contains t|none=>true)
def uV:Nat→List AOper→Bool
 |_,[]=>true
 |k,o::r=>r.all (fun o'=>o'.after.contains k||Pr o o')&&uV (k+1) r
def bL (acc:List (List Nat)):List AOper→List AOper
 | []=>[]
 |o::r=> {o with after:=gw (o.after++o.after.flatMap fun k=>acc.getD k [])}::bL (acc++[gw (o.after++o.after.flatMap fun k=>acc.getD k [])]) r
def Uy:AOp→Bool
 | .mv _| .pick .. | .build .. | .fadr .. | .fval .. | .bin .. | .eqb .. | .eqn .. | .eqs .. | .un .. | .conv .. | .ext .. | .lenc .. | .minmax .. | .istr .. | .slstr .. | .mkfn .. | .s2s _| .nilck _| .iarr .. | .ival .. =>false
 |_=>true
def ahP (l:List AOper)(j:Nat):Bool:=match l[j]? with
 |some o=>Uy o.op
 |none=>true
def iw (draw:Bool)(l:List AOper):List AOper:=bif draw then l.map (fun o=> {o with after:=bif Uy o.op then o.after.filter (fun j=>ahP l j) else []}) else l.map fun o=> {o with after:=[]}
def bZ (P:Program)(N:Nums)(n:Nat):Code→Option ACode
 | .skip=>some .skip
 | .region _ ops draw=>match fa P N n ops 0 ops.toList with
  |some l=>if draw=true→uV 0 (bL [] l)=true then some (.region (iw draw (bL [] l)) draw) else none
  |none=>none
 | .seq a b=>match bZ P N n a,bZ P N n b with
  |some a,some b=>some (.seq a b)
  |_,_=>none
 | .cond c a b=>match aA N c,bZ P N n a,bZ P N n b with
  |some c,some a,some b=>some (.cond c a b)
  |_,_,_=>none
 | .block id b=>(bZ P N n b).map (.block id)
 | .loop b=>(bZ P N n b).map .loop
 | .scope b=>(bZ P N n b).map .scope
 | .exit id=>some (.exit id)
 | .ret=>some .ret
 | .label _=>some .skip
 |_=>none
def iq (P:Program):ResultVar→Option RVar
 | .tmp t=>if t<D0 then some (.t t) else none
 | .cell a t=>match oq P t with
  |some sz=>if sz≠some 0∧a<D0 then some (.cell a sz) else none
  |none=>none
def ku (P:Program)(N:Nums)(raw:Bool)(fn:Func):Option AFunc:=
 match fn.body with
 |some c=>match bZ P N fn.ntmps c,dC (iq P) fn.results.toList with
  |some b,some rs=>if fn.params.size+fn.nfree≤fn.ntmps∧fn.ntmps≤D0∧fn.name≠ "runtime.NumGoroutine" then some {n:=fn.ntmps,np:=fn.params.size+fn.nfree,raw:=raw,results:=rs,body:=b} else none
  |_,_=>none
 |none=>none
section
variable {P:Program} {C:Ctx} {N:Nums}
theorem GN {F F':FSt}{ao:AOper}(h: ∀t∈looks ao,F'.tm t=F.tm t):ao.op.opds.map (evF F')=ao.op.opds.map (evF F):=by
 apply List.map_congr_left;intro x hx;cases x with
 |c v=>rfl
 |t n=>exact h n (List.mem_append_left _ (List.mem_filterMap.2 ⟨.t n,hx,rfl⟩))
theorem ux {U:Nat→Prop}{F:FSt}{a:Act}{w:World}{S:Nat→Prop}{β:Nat→Place}{used:Nat→Nat→Prop}(h:RelC C U F a w S β used)(hn:dU N C)(x:Operand)(y:Opd)(hx:aA N x=some y):V (aE C S β used F.hp w) (a.eval x) (evF F y):=by
 cases x with
 |tmp t=>
  simp only[aA] at hx;split at hx
  ·rename_i hlt
   obtain rfl:=Ai hx;have:=h.tm t;rw[yb hlt] at this;exact this
  ·cases hx
 |const v=>
  simp only[aA] at hx;obtain ⟨av,h1,rfl⟩:=map_some hx;exact aew h1
 |func f=>
  simp only[aA] at hx;split at hx
  ·rename_i hf
   obtain rfl:=Ai hx;have:=V.fn (E:=aE C S β used F.hp w) (N.fid f) #[] [] rfl (fun i hi=>by simp at hi)
   unfold bW fnF fnC at this;rw[hf.2] at this;dsimp only[cond] at this;have e:(aE C S β used F.hp w).num (N.fid f)=f:=by show C.num _=f;rw[hn.1];exact hf.1
   rw[e] at this;exact this
  ·cases hx
 |global g=>
  simp only[aA] at hx;split at hx
  ·rename_i cs hg
   split at hx
   ·rename_i hp
    obtain rfl:=Ai hx;exact hn.2.1.at_hi h.hi hg hp
   ·cases hx
  ·cases hx
theorem afo {ops:Array Oper}{i g:Nat}{o:Oper}{ao:AOper}(hr:OpRel P N C.n ops i o ao)(hn:dU N C)(ht:C.tnum=N.tnum)(hcall: ∀f args,ao.op≠ .call f args)(hg0:g≠0){key:Nat}{e:Eff}{F:FSt}
  (he:aH ao.op g key (ao.op.opds.map (evF F)) F.hp=some e):Qb P C o g ao.dst e F:=by
 intro U a w K Q hg hR hK;obtain ⟨S,β,used,hRC⟩:=hR;have hs:Sit P C U F.hp w S β used g N a.eval (evF F):=⟨hRC.hi,hn.1,ht,fun x y hx=>ux hRC hn x y hx,hg,hg0⟩
 obtain ⟨v,w',hrun,S',β',used',q1,q2,q3⟩:=ahK hs hr.op hcall he;have hstep:=hRC.step q1 q2 ao.dst (fun d hd=>hr.bd d (by rw[←hr.dst];exact hd)) q3
 have hk:=hK _ w' ⟨S',β',used',hstep⟩;unfold Oper.wp;rw[hr.dst] at hk;rcases hrun with h|⟨h,rfl⟩<;>rw[h]
 ·exact hk
 ·exact hk
theorem RC {o:Oper}{fo:Opd}{args:List Opd}(h:bn P N o=some (.call fo args)):
  ∃cf cargs tys,o.op= .call {callee:=.value cf,args:=cargs,argTypes:=tys}∧aA N cf=some fo∧dC (aA N) cargs.toList=some args:=by
 cases ho:o.op with
 |call c=>
  obtain ⟨callee,cargs,tys⟩:=c;cases callee with
  |value f=>
   simp only[bn,ho] at h;split at h
   ·rename_i f' xs h1 h2
    obtain ⟨rfl,rfl⟩:f'=fo∧xs=args:=by have:=Ai h;cases this;exact ⟨rfl,rfl⟩
    exact ⟨f,cargs,tys,rfl,h1,h2⟩
   ·cases h
  |invoke r m=>simp[bn,ho] at h
  |builtin b=>
   exfalso;simp only[bn,ho] at h
   (repeat' split at h)<;>first|(cases h;done)|(obtain ⟨_,_,q⟩:=map_some h;cases q;done)|(have q:=Ai h;cases q;done)
 |binOp op t x y t'=>
  exfalso;simp only[bn,ho] at h;split at h
  ·cases op<;>dsimp only at h
   case eql|neq=>
    unfold ra at h
    (repeat' split at h)<;>first|(cases h;done)|(obtain ⟨_,_,q⟩:=map_some h;cases q;done)|(have q:=Ai h;cases q;done)
   all_goals (have q:=Ai h;cases q)
  ·cases h
 |makeMap t r=>
  exfalso;cases r with
  |some r=>simp[bn,ho] at h
  |none=>
   simp only[bn,ho] at h;split at h
   ·have q:=Ai h;cases q
   ·cases h
 |lookup t x i ok=>
  exfalso;cases ok with
  |true=>simp[bn,ho] at h
  |false=>
   simp only[bn,ho] at h
   (repeat' split at h)<;>first|(cases h;done)|(have q:=Ai h;cases q;done)
 |mapUpdate t x i v=>
  exfalso;simp only[bn,ho] at h
  (repeat' split at h)<;>first|(cases h;done)|(have q:=Ai h;cases q;done)
 |makeFunc fn first cap=>
  exfalso;cases fn<;>simp only[bn,ho] at h<;>first|(cases h;done)|skip
  (repeat' split at h)<;>first|(cases h;done)|(obtain ⟨_,_,q⟩:=map_some h;cases q;done)
 |_=>
  exfalso;simp only[bn,ho] at h
  first
  |(cases h;done)
  |(obtain ⟨_,_,q⟩:=map_some h;cases q;done)
  |((repeat' split at h)<;>first|(cases h;done)|(obtain ⟨_,_,q⟩:=map_some h;cases q;done)|(have q:=Ai h;cases q;done)|(simp at h;done))
theorem Ol {o:Oper}{x:Opd}(h:bn P N o=some (.panic x)): ∃y,o.op= .panic y∧aA N y=some x:=by
 cases ho:o.op with
 |panic y=>
  simp only[bn,ho] at h;obtain ⟨a,h1,h2⟩:=map_some h;cases h2;exact ⟨y,rfl,h1⟩
 |call c=>
  obtain ⟨callee,cargs,tys⟩:=c;cases callee with
  |value f=>
   exfalso;simp only[bn,ho] at h;split at h
   ·have q:=Ai h;cases q
   ·cases h
  |invoke r m=>simp[bn,ho] at h
  |builtin b=>
   exfalso;simp only[bn,ho] at h
   (repeat' split at h)<;>first|(cases h;done)|(obtain ⟨_,_,q⟩:=map_some h;cases q;done)|(have q:=Ai h;cases q;done)
 |binOp op t x y t'=>
  exfalso;simp only[bn,ho] at h;split at h
  ·cases op<;>dsimp only at h
   case eql|neq=>
    unfold ra at h
    (repeat' split at h)<;>first|(cases h;done)|(obtain ⟨_,_,q⟩:=map_some h;cases q;done)|(have q:=Ai h;cases q;done)
   all_goals (have q:=Ai h;cases q)
  ·cases h
 |makeMap t r=>
  exfalso;cases r with
  |some r=>simp[bn,ho] at h
  |none=>
   simp only[bn,ho] at h;split at h
   ·have q:=Ai h;cases q
   ·cases h
 |lookup t x i ok=>
  exfalso;cases ok with
  |true=>simp[bn,ho] at h
  |false=>
   simp only[bn,ho] at h
   (repeat' split at h)<;>first|(cases h;done)|(have q:=Ai h;cases q;done)
 |mapUpdate t x i v=>
  exfalso;simp only[bn,ho] at h
  (repeat' split at h)<;>first|(cases h;done)|(have q:=Ai h;cases q;done)
 |makeFunc fn first cap=>
  exfalso;cases fn<;>simp only[bn,ho] at h<;>first|(cases h;done)|skip
  (repeat' split at h)<;>first|(cases h;done)|(obtain ⟨_,_,q⟩:=map_some h;cases q;done)
 |_=>
  exfalso;simp only[bn,ho] at h
  first
  |(cases h;done)
  |(obtain ⟨_,_,q⟩:=map_some h;cases q;done)
  |((repeat' split at h)<;>first|(cases h;done)|(obtain ⟨_,_,q⟩:=map_some h;cases q;done)|(have q:=Ai h;cases q;done)|(simp at h;done))
theorem aex {E:Env}{xs ys:Array Value}{as bs:List AV}(h1:xs.size=as.length)(v1: ∀i,i<as.length→V E (xs.getD i undef) (as.getD i .any))(v2: ∀i,i<bs.length→V E (ys.getD i undef) (bs.getD i .any)): ∀i,i<(as++bs).length→V E ((xs++ys).getD i undef) ((as++bs).getD i .any):=fun i hi=>by
 by_cases q:i<as.length
 ·have:=v1 i q
  have a1:(xs++ys).getD i undef=xs.getD i undef:=by
   simp only[Ak,Array.getElem?_append,h1,Ad q]
  have a2:(as++bs).getD i .any=as.getD i .any:=by
   simp only[Aj];rw[BD q]
  rw[a1,a2];exact this
 ·have:=v2 (i-as.length) (by simp at hi;omega)
  have a1:(xs++ys).getD i undef=ys.getD (i-as.length) undef:=by
   simp only[Ak,Array.getElem?_append,h1,Ac q]
  have a2:(as++bs).getD i .any=bs.getD (i-as.length) .any:=by
   simp only[Aj];rw[BE (by omega)]
  rw[a1,a2];exact this
theorem AA {ops:Array Oper}{i g:Nat}{o:Oper}{ao:AOper}{fo:Opd}{args:List Opd}(hr:OpRel P N C.n ops i o ao)(hn:dU N C)(ht:C.tnum=N.tnum)(hop:ao.op= .call fo args)(hg0:g≠0){F:FSt}{f:Nat}{cap:List AV}(hf:evF F fo= .fn f cap)
  {raw:Bool} {c:CIn} (hc:eY F.hp raw (bif isB f then cap++args.map (evF F) else args.map (evF F)++cap)=some c) {t:Ret} (hsem:fq P N (bW f) c.args c.bs t) {fn:Func} (hfn:P.funcs[N.num (bW f)]? =some fn) (hb:fn.body.isSome=true) (hname:fn.name≠ "runtime.NumGoroutine")
  {dst:Nat} {e:Eff} (he:cd F.hp c g dst (unR t)=some e) {U:Nat→Prop} {a:Act} {w:World} (hg: ¬U g) (hR:Rel C U F a w):
  ∃S β used args,RelC C U F a w S β used∧(execOp a.eval o).run P w= .ok (.enter (N.num (bW f)) args) w∧Calls P (N.num (bW f)) args w fun e' w'=> ∃v,e'=gW t.r v∧
   ∃S' β' used',HI C (Or1 U g) (hov e.wr F.hp) w' S' β' used'∧(aE C S β used F.hp w).le (aE C S' β' used' (hov e.wr F.hp) w')∧V (aE C S' β' used' (hov e.wr F.hp) w') v e.res:=by
 obtain ⟨S,β,used,hRC⟩:=hR;have hcomp:=hr.op;rw[hop] at hcomp
 -- the machine's operation
 obtain ⟨cf,cargs,tys,hoc,h1,h2⟩: ∃cf cargs tys,o.op= .call {callee:=.value cf,args:=cargs,argTypes:=tys}∧aA N cf=some fo∧dC (aA N) cargs.toList=some args:=RC hcomp
 have hs:Sit P C U F.hp w S β used g N a.eval (evF F):=⟨hRC.hi,hn.1,ht,fun x y hx=>ux hRC hn x y hx,hg,hg0⟩
 have vf:=hs.at_ cf fo h1;rw[hf] at vf;obtain ⟨cs,e1,e2,e3⟩:=vf.fn_inv;obtain ⟨l1,l2⟩:=hs.list _ _ h2;have hnum:(aE C S β used F.hp w).num (bW f)=N.num (bW f):=by show C.num _=_;rw[hn.1]
 rw[hnum] at e1;have hl:cargs.size=args.length:=by simpa using l1
 have hl2: ∀i,i<(args.map (evF F)).length→V (aE C S β used F.hp w) ((cargs.map a.eval).getD i undef) ((args.map (evF F)).getD i .any):=fun i hi=>by
  have:=l2 i (by simpa using hi)
  rwa [show (cargs.map a.eval).getD i undef=(cargs.toList.map a.eval).getD i undef from by simp[Ak,Aj]]
 have hnone:fn.body≠none:=by rintro q;rw[q] at hb;cases hb
 have hrun:(execOp a.eval o).run P w= .ok (.enter (N.num (bW f)) (bif isB f then cs++cargs.map a.eval else cargs.map a.eval++cs)) w:=by
  cases hbf:isB f<;>simp[fnF,fnC,hbf] at e1<;>simp[execOp,hoc,resolve,e1,Deferred.ofValue,invoke,callFunc,hfn,hname,hnone]
 have hargsz:(bif isB f then cs++cargs.map a.eval else cargs.map a.eval++cs).size=(bif isB f then cap++args.map (evF F) else args.map (evF F)++cap).length:=by
  cases isB f<;>simp[e2,hl]
 have hv: ∀i,i<(bif isB f then cap++args.map (evF F) else args.map (evF F)++cap).length→V (aE C S β used F.hp w) ((bif isB f then cs++cargs.map a.eval else cargs.map a.eval++cs).getD i undef) ((bif isB f then cap++args.map (evF F) else args.map (evF F)++cap).getD i .any):=fun i hi=>by
  cases hbf:isB f with
  |true=>rw[hbf] at hi;exact aex e2 e3 hl2 i hi
  |false=>rw[hbf] at hi;exact aex (by simpa using hl) hl2 e3 i hi
 obtain ⟨hent,d1,d2,d3,d4⟩:=aaC hRC.hi hn ht hargsz hv hc;have hcalls:=hsem _ _ hent;refine ⟨S,β,used,_,hRC,hrun,hcalls.mono ?_⟩
 rintro e' w' ⟨v,rfl,S1,β1,hret⟩
 obtain ⟨S',β',used',q1,q2,q3⟩:=WN hRC.hi hg hg0 d1 d2 d3 d4 hret he;exact ⟨v,rfl,S',β',used',q1,q2,q3⟩
theorem aaw {ops:Array Oper}{i g:Nat}{o:Oper}{ao:AOper}{fo:Opd}{args:List Opd}(hr:OpRel P N C.n ops i o ao)(hn:dU N C)(ht:C.tnum=N.tnum)(hop:ao.op= .call fo args)(hg0:g≠0){F:FSt}{f:Nat}{cap:List AV}(hf:evF F fo= .fn f cap)
  {raw:Bool} {c:CIn} (hc:eY F.hp raw (bif isB f then cap++args.map (evF F) else args.map (evF F)++cap)=some c) {t:Ret} (hsem:fq P N (bW f) c.args c.bs t) {fn:Func} (hfn:P.funcs[N.num (bW f)]? =some fn) (hb:fn.body.isSome=true) (hname:fn.name≠ "runtime.NumGoroutine")
  {dst:Nat} {e:Eff} (he:cd F.hp c g dst t=some e):Qb P C o g ao.dst e F:=by
 intro U a w K Q hg hR hK;have hnp:=WO he;obtain ⟨S,β,used,vs,hRC,hrun,hcalls⟩:=AA hr hn ht hop hg0 hf hc hsem hfn hb hname (by rw[xY hnp];exact he) hg hR
 unfold Oper.wp;rw[hrun];show Calls P (N.num (bW f)) vs w _
 refine hcalls.mono ?_
 rintro e' w' ⟨v,rfl,S',β',used',q1,q2,q3⟩
 rw[sk hnp];have hstep:=hRC.step q1 q2 ao.dst (fun d hd=>hr.bd d (by rw[←hr.dst];exact hd)) q3
 have hk:=hK _ w' ⟨S',β',used',hstep⟩;rw[hr.dst] at hk;exact hk
theorem WG {ops:Array Oper}{i g:Nat}{o:Oper}{ao:AOper}{fo:Opd}{args:List Opd}(hr:OpRel P N C.n ops i o ao)(hn:dU N C)(ht:C.tnum=N.tnum)(hop:ao.op= .call fo args)(hg0:g≠0){F:FSt}{f:Nat}{cap:List AV}(hf:evF F fo= .fn f cap)
  {raw:Bool} {c:CIn} (hc:eY F.hp raw (bif isB f then cap++args.map (evF F) else args.map (evF F)++cap)=some c) {t:Ret} (hsem:fq P N (bW f) c.args c.bs t) {fn:Func} (hfn:P.funcs[N.num (bW f)]? =some fn) (hb:fn.body.isSome=true) (hname:fn.name≠ "runtime.NumGoroutine")
  {dst:Nat} {e:Eff} (he:oC F.hp c g dst t=some e):ve P C o g e F:=by
 intro U a w K Q hg hR hK;unfold oC at he;split at he
 ·rename_i av hu
  obtain ⟨S,β,used,vs,hRC,hrun,hcalls⟩:=AA hr hn ht hop hg0 hf hc hsem hfn hb hname (by rw[ahG hu];exact he) hg hR
  unfold Oper.wp;rw[hrun];show Calls P (N.num (bW f)) vs w _
  refine hcalls.mono ?_
  rintro e' w' ⟨v,rfl,S',β',used',q1,q2,q3⟩
  rw[afn hu];refine hK v w' S' β' used' ⟨q1,hRC.size,hRC.defers,fun t=>(hRC.tm t).mono q2⟩ q3
 ·cases he
theorem WE {ops:Array Oper}{i g:Nat}{o:Oper}{ao:AOper}{x:Opd}(hr:OpRel P N C.n ops i o ao)(hn:dU N C)(hop:ao.op= .panic x){F:FSt}{ty:Nat}{av:AV}(hx:evF F x= .ifc ty av):ve P C o g {res:=.ifc ty av} F:=by
 intro U a w K Q hg hR hK;obtain ⟨S,β,used,hRC⟩:=hR;have hcomp:=hr.op;rw[hop] at hcomp;obtain ⟨y,hoc,h1⟩: ∃y,o.op= .panic y∧aA N y=some x:=Ol hcomp
 have hv:=ux hRC hn y x h1;rw[hx] at hv
 have hrun:(execOp a.eval o).run P w= .halt (.panic (a.eval y)) w:=by
  cases hq:a.eval y<;>rw[hq] at hv<;>cases hv
  simp[execOp,hoc,hq];rfl
 unfold Oper.wp;rw[hrun];exact hK _ w S β used ⟨hRC.hi.wide fun _=>.inl,hRC.size,hRC.defers,hRC.tm⟩ hv
end
end Go.AM
namespace Go.AM
open Go.RowKit
def OkS (after:List Nat)(e:Eff):List DnE→Prop
 | []=>True
 |(j,rd,wk,sf)::r=>(after.contains j=true∨(qu wk e.rd=false∧qu wk (wks e.wr)=false∧ ∀k∈wks e.wr,k∈rd→ ∀f,Sft sf k (hov e.wr f k)))∧OkS after e r
theorem OkS.of {after:List Nat}{e:Eff}: ∀{dn:List DnE},jm after e dn=true→OkS after e dn
 | [],_=>trivial
 |(j,rd,wk,sf)::r,h=>by
  simp only[jm,Av,BO,Bool.not_eq_true'] at h;refine ⟨?_,OkS.of h.2⟩;rcases h.1 with q|⟨⟨q1,q2⟩,q3⟩
  ·exact .inl q
  ·refine .inr ⟨q1,q2,fun k hk hr=>?_⟩
   exfalso;have:qu (wks e.wr) rd=true:=by unfold qu;rw[List.any_eq_true];exact ⟨k,hk,by simpa using hr⟩
   rw[this] at q3;cases q3
def pG (G:Nat→Fun)(Q:(Cfg→Option Ret)→Prop)(draw:Bool):List AOper→Nat→List DnE→AS→List (Option Eff)→AS→Prop
 | [],_,_,A,[],A'=>A'=A
 |o::r,i,dn,A,none::es,A'=>cj A.tm o.guard=some false∧pG G Q draw r (i+1) dn (A.put o.dst gR) es A'
 |o::r,i,dn,A,some e::es,A'=>cj A.tm o.guard=some true∧(∃ih,Q ih∧iC G ih o (A.ctr+i) A=some e)∧(draw=true→OkS o.after e dn)∧pG G Q draw r (i+1) (lg i e dn) (A.app o.dst e) es A'
 |_,_,_,_,_,_=>False
def Wk0 (A A':AS):Prop:=A'.ctr=A.ctr∧ ∀C U a w,Rel C U A.fs a w→Rel C U A'.fs a w
theorem Wk0.refl (A:AS):Wk0 A A:=⟨rfl,fun _ _ _ _ h=>h⟩
theorem Wk0.trans {A B D:AS}(h:Wk0 A B)(k:Wk0 B D):Wk0 A D:=⟨k.1.trans h.1,fun C U a w r=>k.2 C U a w (h.2 C U a w r)⟩
def RegPan (G:Nat→Fun)(Q:(Cfg→Option Ret)→Prop)(rs:List RVar)(m:Nat)(t:Ret):List AOper→Nat→AS→Prop
 | [],_,_=>False
 | o::r,i,A=> ∃A1,Wk0 A A1∧((cj A1.tm o.guard=some false∧RegPan G Q rs m t r (i+1) (A1.put o.dst gR))∨
   (∃A2 e,Wk0 A1 A2∧cj A1.tm o.guard=some true∧(∃ih,Q ih∧iC G ih o (A.ctr+i) A2=some e)∧RegPan G Q rs m t r (i+1) (A2.app o.dst e))∨
   ∃A2 e,Wk0 A1 A2∧cj A1.tm o.guard=some true∧(∃ih,Q ih∧kA G ih o (A.ctr+i) A2=some e)∧ip {A2 with hp:=e.wr++A2.hp} rs m e.res=some t)
theorem RegPan.pre {G:Nat→Fun}{Q:(Cfg→Option Ret)→Prop}{rs:List RVar}{m:Nat}{t:Ret}{l:List AOper}{i:Nat}{A B:AS}(h:Wk0 A B)(k:RegPan G Q rs m t l i B):RegPan G Q rs m t l i A:=by
 cases l with
 |nil=>exact k.elim
 |cons o r=>
  obtain ⟨A1,h1,h2⟩:=k;rw[h.1] at h2;exact ⟨A1,h.trans h1,h2⟩
def RegSeq (G:Nat→Fun)(Q:(Cfg→Option Ret)→Prop):List AOper→Nat→AS→AS→Prop
 | [],_,A,A'=>Wk0 A A'
 | o::r,i,A,A'=> ∃A1,Wk0 A A1∧((cj A1.tm o.guard=some false∧RegSeq G Q r (i+1) (A1.put o.dst gR) A')∨
   ∃A2 e,Wk0 A1 A2∧cj A1.tm o.guard=some true∧(∃ih,Q ih∧iC G ih o (A.ctr+i) A2=some e)∧RegSeq G Q r (i+1) (A2.app o.dst e) A')
theorem RegSeq.pre {G:Nat→Fun}{Q:(Cfg→Option Ret)→Prop}{l:List AOper}{i:Nat}{A B A':AS}(h:Wk0 A B)(k:RegSeq G Q l i B A'):RegSeq G Q l i A A':=by
 cases l with
 |nil=>exact h.trans k
 |cons o r=>
  obtain ⟨A1,h1,h2⟩:=k;rw[h.1] at h2;exact ⟨A1,h.trans h1,h2⟩
theorem AS.put_ctr (A:AS)(d:Option Nat)(v:AV):(A.put d v).ctr=A.ctr:=by cases d<;>rfl
theorem AS.app_ctr (A:AS)(d:Option Nat)(e:Eff):(A.app d e).ctr=A.ctr:=by cases d<;>rfl
def oL:List AItem→Bool
 | .inReg _ _ _ _::_=>false
 |_=>true
def Wk (A A':AS):Prop:= ∀C a w,0<A.ctr→Rel C (fun g=>g<A.ctr) A.fs a w→Rel C (fun g=>g<A'.ctr) A'.fs a w
inductive Ev (G:Nat→Fun):Cfg→Ret→Prop
 |step {c:Cfg} {t:Ret} (ih:Cfg→Option Ret) (hih: ∀c t,ih c=some t→Ev G c t) (h:iW G ih c=some t):Ev G c t
 |weakR {rest:List AOper} {i:Nat} {dn:List DnE} {k:List AItem} {A A':AS} {rs:List RVar} {m:Nat} {t:Ret} (hw:Wk0 A A') (h:Ev G ⟨.inReg rest i dn false::k,A',rs,m⟩ t):Ev G ⟨.inReg rest i dn false::k,A,rs,m⟩ t
 | opS {o:AOper} {rest:List AOper} {i:Nat} {dn:List DnE} {k:List AItem} {A:AS} {rs:List RVar} {m:Nat} {t:Ret} {e:Eff} (ih:Cfg→Option Ret) (hih: ∀c t,ih c=some t→Ev G c t) (hw:cj A.tm o.guard=some true) (he:iC G ih o (A.ctr+i) A=some e)
   (h:Ev G ⟨.inReg rest (i+1) dn false::k,A.app o.dst e,rs,m⟩ t):Ev G ⟨.inReg (o::rest) i dn false::k,A,rs,m⟩ t
 | opD {o:AOper} {rest:List AOper} {i:Nat} {dn:List DnE} {k:List AItem} {A:AS} {rs:List RVar} {m:Nat} {t:Ret} {e:Eff} (ih:Cfg→Option Ret) (hih: ∀c t,ih c=some t→Ev G c t) (hw:cj A.tm o.guard=some true) (he:iC G ih o (A.ctr+i) A=some e) (hok:OkS o.after e dn)
   (h:Ev G ⟨.inReg rest (i+1) (lg i e dn) true::k,A.app o.dst e,rs,m⟩ t):Ev G ⟨.inReg (o::rest) i dn true::k,A,rs,m⟩ t
 | panS {o:AOper} {rest:List AOper} {i:Nat} {dn:List DnE} {k:List AItem} {A:AS} {rs:List RVar} {m:Nat} {t:Ret} {e:Eff} (ih:Cfg→Option Ret) (hih: ∀c t,ih c=some t→Ev G c t) (hw:cj A.tm o.guard=some true) (he:kA G ih o (A.ctr+i) A=some e)
   (ht:ip {A with hp:=e.wr++A.hp} rs m e.res=some t):Ev G ⟨.inReg (o::rest) i dn false::k,A,rs,m⟩ t
 |weak {todo:List AItem} {A A':AS} {rs:List RVar} {m:Nat} {t:Ret} (hr:oL todo=true) (hc:A.ctr≤A'.ctr) (hw:Wk A A') (h:Ev G ⟨todo,A',rs,m⟩ t):Ev G ⟨todo,A,rs,m⟩ t
def ah (G:Nat→Fun)(f:Nat)(args:List AV)(bs:List Blk)(t:Ret):Prop:=
 match G f with
 | .code F=>args.length=F.np∧Ev G (F.start args bs) t
 | .prim _ p=>p args bs=some t
 | .none=>False
theorem N4 {G:Nat→Fun}: ∀(n:Nat){c:Cfg}{t:Ret},run G n c=some t→Ev G c t
 |0,_,_,h=>by cases h
 |n+1,c,t,h=>by
  rw[abc] at h;exact .step (run G n) (fun _ _ k=>N4 n k) h
def ck (r:List AOper)(es:List (Option Eff)):mt:=(r.map (·.dst)).zip es
structure OneA (G:Nat→Fun)(Q:(Cfg→Option Ret)→Prop)(c0 i:Nat)(o:AOper)(e:Option Eff)(F:FSt):Prop where
 none_:e=none→dM F o.guard=some false
 some_: ∀x,e=some x→dM F o.guard=some true∧ ∃ih A,Q ih∧A.fs=F∧iC G ih o (c0+i) A=some x
theorem rg: ∀(es:mt)(L:Nat→Bool)(k:Nat)(F:FSt),(∀j,k≤j→L j=false)→FL es L k F=F
 | [],_,_,_,_=>rfl
 |(d,e)::r,L,k,F,h=>by simp only[FL];rw[h k (Bd k)];exact rg r L (k+1) F fun j hj=>h j (by omega)
theorem nK {G:Nat→Fun}{Q:(Cfg→Option Ret)→Prop}{draw:Bool}{c0:Nat}: ∀(r:List AOper)(i:Nat)(dn:List DnE)(A:AS)(es:List (Option Eff))(A':AS),pG G Q draw r i dn A es A'→A.ctr=c0→
  es.length=r.length∧(∀(j:Nat)(o:AOper)(e:Option Eff),r[j]? =some o→es[j]? =some e→OneA G Q c0 (i+j) o e (FL (ck r es) (fun x=>decide (x<i+j)) i A.fs))∧FL (ck r es) (fun _=>true) i A.fs=A'.fs
 | [],i,dn,A,[],A',h,_=>⟨rfl,fun j o e h=>by simp at h,by rw[show A'=A from h];rfl⟩
 |o::r,i,dn,A,none::es,A',h,hc=>by
  obtain ⟨h1,h2⟩:=h;obtain ⟨q1,q2,q3⟩:=nK (c0:=c0) r (i+1) dn _ es A' h2 (by rw[AS.put_ctr];exact hc)
  have hz:ck (o::r) (none::es)=(o.dst,none)::ck r es:=rfl;rw[hz];refine ⟨by simp[q1],fun j o' e' ho he=>?_,?_⟩
  ·cases j with
   |zero=>
    obtain rfl:o=o':=by simpa using ho
    obtain rfl:none=e':=by simpa using he
    rw[rg _ _ _ _ (fun j hj=>by first|(simp;done)|(simp;omega))]
    exact ⟨fun _=>by rw[ft];exact h1,fun x hx=>by cases hx⟩
   |succ j=>
    have:=q2 j o' e' (by simpa using ho) (by simpa using he)
    simp only[FL];rw[show decide (i<i+(j+1))=true from by simp,cond_true]
    rw[AS.fs_put] at this;rw[show i+(j+1)=i+1+j from by omega]
    exact this
  ·simp only[FL,cond_true]
   rw[←q3,AS.fs_put];rfl
 |o::r,i,dn,A,some e::es,A',h,hc=>by
  obtain ⟨h1,⟨m,hm,he1⟩,_,h2⟩:=h;obtain ⟨q1,q2,q3⟩:=nK (c0:=c0) r (i+1) _ _ es A' h2 (by rw[AS.app_ctr];exact hc)
  have hz:ck (o::r) (some e::es)=(o.dst,some e)::ck r es:=rfl;rw[hz];refine ⟨by simp[q1],fun j o' e' ho he=>?_,?_⟩
  ·cases j with
   |zero=>
    obtain rfl:o=o':=by simpa using ho
    obtain rfl:some e=e':=by simpa using he
    rw[rg _ _ _ _ (fun j hj=>by first|(simp;done)|(simp;omega))]
    refine ⟨fun q=>(by cases q),fun x hx=>⟨by rw[ft];exact h1,m,A,hm,rfl,?_⟩⟩
    obtain rfl:=Ai hx;rw[←hc];exact he1
   |succ j=>
    have:=q2 j o' e' (by simpa using ho) (by simpa using he)
    simp only[FL];rw[show decide (i<i+(j+1))=true from by simp,cond_true]
    rw[AS.fs_app] at this;rw[show i+(j+1)=i+1+j from by omega]
    exact this
  ·simp only[FL,cond_true]
   rw[←q3,AS.fs_app];rfl
 | [],_,_,_,_::_,_,h,_=>h.elim
 |_::_,_,_,_,[],_,h,_=>h.elim
def RegPanD (G:Nat→Fun)(Q:(Cfg→Option Ret)→Prop)(rs:List RVar)(m:Nat)(t:Ret)(r:List AOper)(i:Nat)(dn:List DnE)(A:AS):Prop:=
 ∃(init:List AOper)(last:AOper)(es:List (Option Eff))(A1:AS)(e:Eff),r=init++[last]∧pG G Q true init i dn A es A1∧cj A1.tm last.guard=some true∧(∃ih,Q ih∧kA G ih last (A.ctr+(i+init.length)) A1=some e)∧
  (∀x∈dn,last.after.contains x.1=true)∧(∀j e',es[j]? =some (some e')→last.after.contains (i+j)=true∨(e'.rd= []∧wks e'.wr= []))∧y9 rs=true∧ip {A1 with hp:=e.wr++A1.hp} rs m e.res=some t
theorem RegPanD.skip {G:Nat→Fun}{Q:(Cfg→Option Ret)→Prop}{rs:List RVar}{m:Nat}{t:Ret}{o:AOper}{r:List AOper}{i:Nat}{dn:List DnE}{A:AS}(hw:cj A.tm o.guard=some false)(h:RegPanD G Q rs m t r (i+1) dn (A.put o.dst gR)):RegPanD G Q rs m t (o::r) i dn A:=by
 obtain ⟨init,last,es,A1,e,rfl,h2,h3,h4,h5,h6,h7,h8⟩:=h;rw[AS.put_ctr] at h4;refine ⟨o::init,last,none::es,A1,e,rfl,⟨hw,h2⟩,h3,by rw[show i+(o::init).length=i+1+init.length from by simp;omega];exact h4,h5,fun j e' he=>?_,h7,h8⟩
 cases j with
 |zero=>simp at he
 |succ j=>have:=h6 j e' (by simpa using he);rwa [show i+(j+1)=i+1+j from by omega]
theorem Fy {a b:List Nat}(h:qu a b=false): ∀k∈a,k∉b:=fun k ha hb=>by
 have:qu a b=true:=by unfold qu;rw[List.any_eq_true];exact ⟨k,ha,by simpa using hb⟩
 rw[this] at h;cases h
theorem LX {after:List Nat}{e:Eff}: ∀{dn:List DnE},OkS after e dn→ ∀(j:Nat)(rd wk:List Nat)(sf:List (Nat×Nat×Nat×List AV)),(j,rd,wk,sf)∈dn→j∈after∨((∀k∈wk,k∉e.rd∧k∉wks e.wr)∧ ∀k∈wks e.wr,k∉rd∨ ∀f,Sft sf k (hov e.wr f k))
 | [],_,_,_,_,_,h=>by cases h
 |(j0,rd0,wk0,sf0)::r,h,j,rd,wk,sf,hm=>by
  rcases AK.1 hm with q|q
  ·obtain ⟨rfl,rfl,rfl,rfl⟩:j=j0∧rd=rd0∧wk=wk0∧sf=sf0:=by simpa using q
   rcases h.1 with q|⟨q1,q2,q3⟩
   ·exact .inl (by simpa using q)
   ·refine .inr ⟨fun k hk=>⟨Fy q1 k hk,Fy q2 k hk⟩,fun k hk=>?_⟩
    by_cases hr:k∈rd
    ·exact .inr (q3 k hk hr)
    ·exact .inl hr
  ·exact LX h.2 j rd wk sf q
theorem GU {i:Nat}{e:Eff}{dn:List DnE}:(∀x∈dn,x∈lg i e dn)∧((i,e.rd,wks e.wr,e.sf)∈lg i e dn∨(e.rd= []∧wks e.wr= [])):=by
 unfold lg;split
 ·rename_i h1 h2;exact ⟨fun x hx=>hx,.inr ⟨h1,h2⟩⟩
 ·exact ⟨fun x hx=>List.mem_cons_of_mem _ hx,.inl (List.mem_cons_self ..)⟩
theorem RegPanD.cons {G:Nat→Fun}{Q:(Cfg→Option Ret)→Prop}{rs:List RVar}{m:Nat}{t:Ret}{o:AOper}{r:List AOper}{i:Nat}{dn:List DnE}{A:AS}{e0:Eff}(hw:cj A.tm o.guard=some true)(he0: ∃ih,Q ih∧iC G ih o (A.ctr+i) A=some e0)(hok:OkS o.after e0 dn)(h:RegPanD G Q rs m t r (i+1) (lg i e0 dn) (A.app o.dst e0)):RegPanD G Q rs m t (o::r) i dn A:=by
 obtain ⟨init,last,es,A1,e,rfl,h2,h3,h4,h5,h6,h7,h8⟩:=h;rw[AS.app_ctr] at h4;obtain ⟨m1,m2⟩:=GU (i:=i) (e:=e0) (dn:=dn);refine ⟨o::init,last,some e0::es,A1,e,rfl,⟨hw,he0,fun _=>hok,h2⟩,h3,by rw[show i+(o::init).length=i+1+init.length from by simp;omega];exact h4,fun x hx=>h5 x (m1 x hx),fun j e' he=>?_,h7,h8⟩
 cases j with
 |zero=>
  obtain rfl:e0=e':=by simpa using he
  rcases m2 with m2|m2
  ·exact .inl (h5 _ m2)
  ·exact .inr m2
 |succ j=>have:=h6 j e' (by simpa using he);rwa [show i+(j+1)=i+1+j from by omega]
theorem mz {G:Nat→Fun}{Q:(Cfg→Option Ret)→Prop}: ∀(r:List AOper)(i:Nat)(dn:List DnE)(A:AS)(es:List (Option Eff))(A':AS),pG G Q true r i dn A es A'→
  (∀(p:Nat)(rd wk:List Nat)(sf:List (Nat×Nat×Nat×List AV)),(p,rd,wk,sf)∈dn→ ∀(j:Nat)(o:AOper)(e:Eff),r[j]? =some o→es[j]? =some (some e)→p∈o.after∨((∀k∈wk,k∉e.rd∧k∉wks e.wr)∧ ∀k∈wks e.wr,k∉rd∨ ∀f,Sft sf k (hov e.wr f k)))∧
  ∀(j1 j2:Nat)(o2:AOper)(e1 e2:Option Eff),j1<j2→r[j2]? =some o2→es[j1]? =some e1→es[j2]? =some e2→i+j1∈o2.after∨r6 e1 e2
 | [],i,dn,A,[],A',_=>⟨fun p rd wk sf _ j o e h=>by simp at h,fun j1 j2 o2 e1 e2 _ h=>by simp at h⟩
 |o::r,i,dn,A,none::es,A',h=>by
  obtain ⟨_,h2⟩:=h;obtain ⟨q1,q2⟩:=mz r (i+1) dn _ es A' h2;refine ⟨fun p rd wk sf hp j o' e' ho he=>?_,fun j1 j2 o2 e1 e2 hj ho h1 h3=>?_⟩
  ·cases j with
   |zero=>simp at he
   |succ j=>exact q1 p rd wk sf hp j o' e' (by simpa using ho) (by simpa using he)
  ·cases j2 with
   |zero=>omega
   |succ j2=>
    cases j1 with
    |zero=>
     obtain rfl:none=e1:=by simpa using h1
     exact .inr fun k=>⟨fun q=>by simp[fy] at q,fun _=>.inl (by simp[rdO])⟩
    |succ j1=>
     have:=q2 j1 j2 o2 e1 e2 (by omega) (by simpa using ho) (by simpa using h1) (by simpa using h3)
     rwa [show i+(j1+1)=i+1+j1 from by omega]
 |o::r,i,dn,A,some e::es,A',h=>by
  obtain ⟨_,_,hok,h2⟩:=h;have hok:=LX (hok rfl);obtain ⟨m1,m2⟩:=GU (i:=i) (e:=e) (dn:=dn);obtain ⟨q1,q2⟩:=mz r (i+1) _ _ es A' h2;refine ⟨fun p rd wk sf hp j o' e' ho he=>?_,fun j1 j2 o2 e1 e2 hj ho h1 h3=>?_⟩
  ·cases j with
   |zero=>
    obtain rfl:o=o':=by simpa using ho
    obtain rfl:e=e':=by simpa using he
    exact hok p rd wk sf hp
   |succ j=>exact q1 p rd wk sf (m1 _ hp) j o' e' (by simpa using ho) (by simpa using he)
  ·cases j2 with
   |zero=>omega
   |succ j2=>
    cases j1 with
    |zero=>
     obtain rfl:some e=e1:=by simpa using h1
     cases e2 with
     |none=>exact .inr fun k=>⟨fun _=>⟨by simp[rdO],by simp[fy]⟩,fun q=>by simp[fy] at q⟩
     |some e2=>
      rcases m2 with m2|⟨m2,m3⟩
      ·rcases q1 i e.rd (wks e.wr) e.sf m2 j2 o2 e2 (by simpa using ho) (by simpa using h3) with q|⟨p1,p2⟩
       ·exact .inl (by simpa using q)
       ·exact .inr fun k=>⟨fun q=>p1 k q,fun q=>p2 k q⟩
      ·exact .inr fun k=>⟨fun q=>by simp[fy,m3] at q,fun _=>.inl (by simp[rdO,m2])⟩
    |succ j1=>
     have:=q2 j1 j2 o2 e1 e2 (by omega) (by simpa using ho) (by simpa using h1) (by simpa using h3)
     rwa [show i+(j1+1)=i+1+j1 from by omega]
 | [],_,_,_,_::_,_,h=>h.elim
 |_::_,_,_,_,[],_,h=>h.elim
section
variable {P:Program} {C:Ctx} {U:Nat→Prop} {w:World} {S:Nat→Prop} {β:Nat→Place} {used:Nat→Nat→Prop} {N:Nums}
def yB (tmps:Array Value):ResultVar→Sem Value
 | .tmp t=>pure (tmps.getD t undef)
 | .cell a t=>do loadVar t (←asAddr (tmps.getD a undef))
theorem Uh (fn:Func)(tmps:Array Value):results fn tmps=(do
  let vs←fn.results.mapM (yB tmps)
  pure (if h:vs.size=1 then vs[0] else .tuple vs)):=by
 unfold results
 congr 1
theorem So {A:AS}{a:Act}(h:RelC C U A.fs a w S β used): ∀(rv:List ResultVar)(rs:List RVar)(l:List AV),dC (iq P) rv=some rs→qp A rs=some l→
  ∃vs:List Value,(rv.mapM (yB a.tmps)).run P w= .ok vs w∧vs.length=l.length∧ ∀i,i<l.length→V (aE C S β used (aQ A.hp) w) (vs.getD i undef) (l.getD i .any)
 | [],rs,l,h1,h2=>by
  obtain rfl: []=rs:=by simpa[dC] using h1
  obtain rfl: []=l:=by simpa[qp] using h2
  exact ⟨[],rfl,rfl,fun i hi=>by simp at hi⟩
 |v::rv,rs,l,h1,h2=>by
  obtain ⟨r,rs',q1,q2,rfl⟩:=qb h1;simp only[qp] at h2;cases hr:uR A r with
  |none=>rw[hr] at h2;cases h2
  |some av=>
   cases hl:qp A rs' with
   |none=>rw[hr,hl] at h2;cases h2
   |some l'=>
    rw[hr,hl] at h2;obtain rfl:=Ai h2;obtain ⟨vs,k1,k2,k3⟩:=So h rv rs' l' q2 hl
    have one: ∃x,(yB a.tmps v).run P w= .ok x w∧V (aE C S β used (aQ A.hp) w) x av:=by
     cases v with
     |tmp t=>
      simp only[iq] at q1;split at q1
      ·rename_i hlt
       obtain rfl:=Ai q1;obtain rfl:bJ A.tm t=av:=by simpa[uR] using hr
       have:=h.tm t;rw[yb hlt] at this;exact ⟨_,rfl,this⟩
      ·cases q1
     |cell ad t=>
      simp only[iq] at q1;split at q1
      ·rename_i sz hsz
       split at q1
       ·rename_i h0
        obtain rfl:=Ai q1;simp only[uR] at hr;split at hr
        ·rename_i cs rr hcs
         have hne:cs≠ []:=by
          have h0:=h0.1
          rintro rfl
          cases sz with
          |none=>cases hr
          |some n=>
           simp only[d9,A8] at hr;split at hr
           ·rename_i q;exact h0 (by rw[Nat.le_zero.1 q])
           ·cases hr
         have htm:=h.tm ad;rw[yb h0.2] at htm;have hat:=AQ h.hi htm hcs hne;obtain ⟨u,y1,y2⟩:=E8 hsz hat hr;obtain ⟨b,o,e1,_⟩:=hat.ex;refine ⟨u,?_,y2⟩;have y1':(loadVar t ⟨b,o,none⟩).run P w= .ok u w:=by simpa[Instr.loadAt,Instr.sureAddr,e1] using y1
         simp[yB,e1,asAddr,y1']
        ·cases hr
       ·cases q1
      ·cases q1
    obtain ⟨x,o1,o2⟩:=one;refine ⟨x::vs,?_,by simp[k2],fun i hi=>?_⟩
    ·rw[List.mapM_cons]
     simp only[Sem.run_bind,o1,k1,Result.andThen_ok,Sem.run_pure]
    ·cases i with
     |zero=>simpa using o2
     |succ i=>simpa using k3 i (by simpa using hi)
theorem ky {A:AS}{a:Act}(h:RelC C U A.fs a w S β used){fn:Func}{rs:List RVar}(hrs:dC (iq P) fn.results.toList=some rs){av:AV}(hr:ig A rs=some av):
  ∃v,(results fn a.tmps).run P w= .ok v w∧V (aE C S β used (aQ A.hp) w) v av:=by
 unfold ig at hr;cases hl:qp A rs with
 |none=>rw[hl] at hr;cases hr
 |some l=>
  obtain ⟨vs,k1,k2,k3⟩:=So (P:=P) h _ rs l hrs hl
  have hrun:(results fn a.tmps).run P w= .ok (if h:vs.toArray.size=1 then vs.toArray[0] else .tuple vs.toArray) w:=by
   rw[Uh,Array.mapM_eq_mapM_toList];simp only[Sem.run_bind,Sem.run_map,k1,Result.andThen_ok,Sem.run_pure]
  rw[hl] at hr;split at hr
  ·rename_i a0 e
   obtain rfl:=Ai e;obtain rfl:=Ai hr
   match vs,k2 with
   | [x],_=>exact ⟨x,by rw[hrun];rfl,by simpa using k3 0 (by simp)⟩
  ·rename_i l' hne e
   obtain rfl:=Ai e;obtain rfl:=Ai hr
   have hlen:vs.toArray.size≠1:=by
    intro q;have:l.length=1:=by simpa[k2] using q
    obtain ⟨x,hx⟩:=List.length_eq_one_iff.1 this;exact hne x hx
   refine ⟨.tuple vs.toArray,by rw[hrun,dif_neg hlen],.tup _ _ (by simpa using k2) fun i hi=>?_⟩
   have:=k3 i hi;simpa[Ak,Aj] using this
  ·cases hr
end
end Go.AM
namespace Go.AM
open Go.RowKit
section
variable {P:Program} {C:Ctx} {U:Nat→Prop} {w:World} {S:Nat→Prop} {β:Nat→Place} {used:Nat→Nat→Prop} {N:Nums}
theorem yW {hp:aw}{φ:Nat→Nat→Tgt}{m:Nat}: ∀{K:List Nat}{bs:List (Bool×Blk)},gg hp φ m K=some bs→bs.length=K.length∧ ∀(i k:Nat),K[i]? =some k→ ∃g b,aQ hp k=some (g,b)∧bs[i]? =some (decide (k<m∧g=0),b.ren φ)
 | [], bs, h => by obtain rfl: []=bs:=by simpa[gg] using h
                   exact ⟨rfl,by simp⟩
 |k::r,bs,h=>by
  simp only[gg] at h;split at h
  ·rename_i g b bs' h1 h2
   obtain rfl:=Ai h;obtain ⟨q1,q2⟩:=yW h2;refine ⟨by simp[q1],fun i k' hi=>?_⟩
   cases i with
   | zero => obtain rfl:k=k':=by simpa using hi
             exact ⟨g,b,h1,rfl⟩
   |succ i=>simpa using q2 i k' (by simpa using hi)
  ·cases h
theorem i8 {m:Nat}{N:List Nat}{i:Nat}:(List.range m++N)[i]? =if i<m then some i else N[i-m]? :=by
 by_cases h:i<m
 ·rw[BD (by simpa using h),Ad h];simp[h]
 ·rw[BE (by simpa using h),Ac h];simp
theorem tv {hp:aw}{m:Nat}{r:AV}:(iM hp m r).Nodup∧ ∀k∈iM hp m r,m≤k:=by
 unfold iM;refine ⟨mF _,fun k hk=>?_⟩
 have:=gb.1 hk;rw[List.mem_filter] at this;simpa using this.2
theorem rn {A:AS}(h:HI C U (aQ A.hp) w S β used){v:Value}{m:Nat}{t:Ret}{av:AV}(hv:V (aE C S β used (aQ A.hp) w) v av)(ht:BL A m av=some t): ∃S1 β1,RetC C m w v t S1 β1:=by
 unfold BL at ht;cases hq:(m==0&&av.pure) with
 |true=>
  rw[hq] at ht;obtain rfl:=Ai ht;simp only[Av,beq_iff_eq] at hq;exact ⟨S,β,h.kept,h.s,h.keep,V.pure_env (E:=aE C S β used (aQ A.hp) w) (E':=aE C S β (gu 0) (hpR []) w) (fun _ _ _ q=>q) rfl rfl hv hq.2,fun k x hk=>by simp at hk,fun k k' hk=>by simp at hk,fun k x hk hx=>by simp at hx,by rw[hq.1];exact Nat.zero_le _⟩
 |false=>
  rw[hq] at ht;dsimp only[cond] at ht;obtain ⟨bs,hb,rfl⟩:=map_some ht;obtain ⟨n1,n2⟩:=tv (hp:=A.hp) (m:=m) (r:=av);generalize iM A.hp m av=K at hb n1 n2⊢;obtain ⟨b1,b2⟩:=yW hb;have hlen:bs.length=m+K.length:=by rw[b1];simp
  let key:Nat→Nat:=fun i=>if i<m then i else K.getD (i-m) 0
  have hkey: ∀i,i<bs.length→(List.range m++K)[i]? =some (key i):=fun i hi=>by
   rw[i8];show _=some (if i<m then i else K.getD (i-m) 0)
   split
   ·rfl
   ·rw[Aj,AJ (by omega)];rfl
  have hk0: ∀i,i<m→key i=i:=fun i hi=>by show (if i<m then i else _)=_;rw[Ad hi]
  have hk1: ∀i,¬i<m→i<bs.length→K[i-m]? =some (key i):=fun i hi hl=>by
   have:=hkey i hl;rw[i8,Ac hi] at this;exact this
  have hinjk: ∀i j,i<bs.length→j<bs.length→key i=key j→i=j:=fun i j hi hj e=>by
   by_cases q1:i<m<;>by_cases q2:j<m
   ·rw[hk0 i q1,hk0 j q2] at e;exact e
   ·have:=n2 _ (A3 (hk1 j q2 hj));rw[←e,hk0 i q1] at this;omega
   ·have:=n2 _ (A3 (hk1 i q1 hi));rw[e,hk0 j q2] at this;omega
   ·have a:=hk1 i q1 hi;have b:=hk1 j q2 hj
    rw[e] at a;have:=mW n1 a b;omega
  have hφ:RenOk (aE C S β used (aQ A.hp) w) (aE C S (fun i=>β (key i)) (gu bs.length) (hpR bs) w) (rF A.hp m K):=by
   refine ⟨fun _ _ _ q=>q,rfl,rfl,fun k g hu=>?_⟩
   unfold rF;cases hk:aQ A.hp k with
   |none=>trivial
   |some x=>
    obtain ⟨g',b⟩:=x;dsimp only
    by_cases eg:g'=g
    ·subst eg
     rw[Ad rfl]
     have fin: ∀i,i<bs.length→key i=k→((aE C S (fun i=>β (key i)) (gu bs.length) (hpR bs) w).used i 0∧ ∀p,(aE C S (fun i=>β (key i)) (gu bs.length) (hpR bs) w).lv i 0=some p→(aE C S β used (aQ A.hp) w).lv k g'=some p):=fun i hi e=>by
      refine ⟨⟨hi,rfl⟩,fun p hp=>?_⟩
      obtain ⟨_,_,rfl⟩:=eN hp;rw[e];exact br hk
     by_cases hm:k<m
     ·rw[Ad hm]
      exact fin k (by omega) (hk0 k hm)
     ·rw[Ac hm]
      cases hi:idx k K with
      |none=>trivial
      |some i=>
       have hKi:=fk hi
       have hil:i<K.length:=by
        rcases AZ i K.length with q|q
        ·exact q
        ·rw[AC q] at hKi;cases hKi
       refine fin (m+i) (by omega) ?_
       have:=hk1 (m+i) (by omega) (by omega)
       rw[show m+i-m=i from by omega,hKi] at this
       exact (Ai this).symm
    ·rw[Ac eg];trivial
  have atk: ∀i x,bs[i]? =some x→ ∃g b,aQ A.hp (key i)=some (g,b)∧x=(decide (key i<m∧g=0),b.ren (rF A.hp m K))∧i<bs.length:=fun i x hx=>by
   have hi:i<bs.length:=by
    rcases AZ i bs.length with q|q
    ·exact q
    ·rw[AC q] at hx;cases hx
   obtain ⟨g,b,q1,q2⟩:=b2 i _ (hkey i hi);exact ⟨g,b,q1,by rw[hx] at q2;exact Ai q2,hi⟩
  refine ⟨S,fun i=>β (key i),h.kept,h.s,h.keep,hv.ren hφ,fun i x hx=>?_,fun i j hi hj n1' n2' hbk=>?_,fun i x hi hx hf=>?_,by dsimp only;omega⟩
  ·obtain ⟨g,b,q1,q2,_⟩:=atk i x hx
   obtain ⟨z1,z2,z3⟩:=h.at_ _ g b q1;rw[q2];exact ⟨z2,z3.ren hφ⟩
  ·dsimp only at hi hj
   obtain ⟨g,b,q1,_⟩:=b2 i _ (hkey i hi);obtain ⟨g',b',q2,_⟩:=b2 j _ (hkey j hj);exact hinjk i j hi hj (h.inj _ _ _ _ q1 q2 n1' n2' hbk)
  ·obtain ⟨g,b,q1,q2,_⟩:=atk i x hx
   rw[q2] at hf;have:key i<m∧g=0:=by simpa using hf
   obtain ⟨_,rfl⟩:=this;have:=h.pl _ _ q1;rw[hk0 i hi] at this⊢;exact this
theorem mR {A:AS}(h:HI C U (aQ A.hp) w S β used){v:Value}{rs:List RVar}{m:Nat}{t:Ret}{av:AV}(hav:ig A rs=some av)(hv:V (aE C S β used (aQ A.hp) w) v av)(ht:fg A rs m=some t): ∃S1 β1,RetC C m w v t S1 β1:=by
 unfold fg at ht;rw[hav] at ht;exact rn h hv ht
theorem RetC.np {m:Nat}{v:Value}{t:Ret}{S1:Nat→Prop}{β1:Nat→Place}(h:RetC C m w v t S1 β1):dx t.r=none:=by
 cases hu:dx t.r with
 |none=>rfl
 |some a=>
  obtain ⟨ty,e⟩:=pM hu;have hv:=h.val;rw[e] at hv;cases hv with
  |ifc _ v' _ hv'=>
   obtain ⟨cs,_,_,hc⟩:=hv'.tup_inv;obtain ⟨_,hus,_⟩:=(hc 0 (by simp)).ref_inv
   exact absurd hus.2 (by decide)
end
def mH (P:Program)(N:Nums)(n:Nat):Item→AItem→Prop
 | .code c,.code a=>bZ P N n c=some a
 | .code c,.inLoop a=> ∃c',c= .loop c'∧bZ P N n c'=some a
 | .inLoop c,.inLoop a=>bZ P N n c=some a
 | .inBlock i,.inBlock j=>i=j
 | .inScope _,.inScope=>True
 |_,_=>False
def uE (P:Program)(N:Nums)(n:Nat):List Item→List AItem→Prop
 | [],[]=>True
 |i::r,a::s=>mH P N n i a∧uE P N n r s
 |_,_=>False
theorem Dx {P:Program}{N:Nums}{n id:Nat}: ∀{k:List Item}{ak ak':List AItem},uE P N n k ak→qk id ak=some ak'→ ∃k',exitTo id k=some k'∧uE P N n k' ak'
 | [],[],_,_,h=>by cases h
 |i::r,a::s,ak',⟨h1,h2⟩,h=>by
  cases a with
  |inBlock j=>
   cases i<;>simp only[mH] at h1
   subst h1;simp only[qk] at h;split at h
   ·rename_i e;subst e
    obtain rfl:=Ai h;exact ⟨r,by simp[exitTo],h2⟩
   ·rename_i e
    obtain ⟨k',q1,q2⟩:=Dx h2 h;exact ⟨k',by rw[exitTo];simp[e,q1],q2⟩
  |code|inLoop|inScope=>
   obtain ⟨k',q1,q2⟩:=Dx (id:=id) h2 (by simpa[qk] using h)
   refine ⟨k',?_,q2⟩;cases i<;>simp only[mH] at h1<;>simpa[exitTo] using q1
  |inReg=>cases i<;>simp[mH] at h1
 | [],_::_,_,h,_=>h.elim
 |_::_,[],_,h,_=>h.elim
theorem Qr {P:Program}{b:Frame}{a:Act}{k:List Item}{cs:List Frame}{w:World}{c:Code}:step P (lone (b.at a (.code (.scope c)::k)) cs w)= .next (lone (b.at a (.code c:: .inScope c::k)) cs w):=
 step_lone_go (by simp[stepG,stepG.exec,Frame.at])
theorem IC {P:Program}{b:Frame}{a:Act}{k:List Item}{cs:List Frame}{w:World}{c:Code}:step P (lone (b.at a (.inScope c::k)) cs w)= .next (lone (b.at a k) cs w):=
 step_lone_go (by simp[stepG,stepG.exec,Frame.at])
theorem Ck: ∀(seen:List Nat)(l:List (Nat×AV))(t:Nat),t∉seen→bJ (nub seen l) t=bJ l t
 |_,[],_,_=>rfl
 |seen,(u,v)::r,t,h=>by
  simp only[nub];cases hs:seen.contains u with
  |true=>
   have hne:u≠t:=fun e=>h (e▸by simpa using hs)
   simp only[cond_true,bJ,Ac hne];exact Ck seen r t h
  |false=>
   simp only[cond_false,bJ]
   by_cases e:u=t
   ·rw[Ad e,Ad e]
   ·rw[Ac e,Ac e]
    exact Ck (u::seen) r t (by simp[h];exact fun q=>e q.symm)
theorem wz: ∀(seen:List Nat)(l:aw)(t:Nat),t∉seen→aQ (L9 seen l) t=aQ l t
 |_,[],_,_=>rfl
 |seen,(u,v)::r,t,h=>by
  simp only[L9];cases hs:seen.contains u with
  |true=>
   have hne:u≠t:=fun e=>h (e▸by simpa using hs)
   simp only[cond_true,aQ,Ac hne];exact wz seen r t h
  |false=>
   simp only[cond_false,aQ]
   by_cases e:u=t
   ·rw[Ad e,Ad e]
   ·rw[Ac e,Ac e]
    exact wz (u::seen) r t (by simp[h];exact fun q=>e q.symm)
theorem AS.nub_fs (A:AS):A.nub.fs=A.fs:=FSt.ext' (fun t=>Ck [] A.tm t (by simp)) fun k=>wz [] A.hp k (by simp)
theorem R7: ∀(l:List AV)(i t:Nat),bJ (tms i l) t=if i≤t then l.getD (t-i) .any else .any
 | [],i,t=>by simp[tms,bJ]
 |a::r,i,t=>by
  simp only[tms,bJ]
  by_cases e:i=t
  ·subst e;simp
  ·rw[Ac e,R7 r (i+1) t]
   by_cases q:i≤t
   ·rw[Ad q,Ad (by omega),show t-i=(t- (i+1))+1 from by omega,List.getD_cons_succ]
   ·rw[Ac q,Ac (by omega)]
theorem NZ: ∀(l:List Blk)(i t:Nat),aQ (jK i l) t=if i≤t then (l[t-i]?).map (fun b=>(0,b)) else none
 | [],i,t=>by simp[jK,aQ]
 |a::r,i,t=>by
  simp only[jK,aQ]
  by_cases e:i=t
  ·subst e;simp
  ·rw[Ac e,NZ r (i+1) t]
   by_cases q:i≤t
   ·rw[Ad q,Ad (by omega),show t-i=(t- (i+1))+1 from by omega,List.getElem?_cons_succ]
   ·rw[Ac q,Ac (by omega)]
end Go.AM
namespace Go.AM
open Go.RowKit
def GOk (P:Program)(N:Nums)(G:Nat→Fun):Prop:= ∀f,match G f with
 | .code F=> ∃fn,P.funcs[N.num f]? =some fn∧ku P N F.raw fn=some F
 | .prim _ p=>(∃fn,P.funcs[N.num f]? =some fn∧fn.body.isSome=true∧fn.name≠ "runtime.NumGoroutine")∧ ∀args bs t,p args bs=some t→fq P N f args bs t
 | .none=>True
def wq:World→List Addr→List (List Value)→World
 |w,p::ps,ws::wss=>wq (w.setCells p.block p.off ws) ps wss
 |w,_,_=>w
def PU:World→List Addr→List (List Value)→Prop
 |w,p::ps,ws::wss=>p.spot=none∧(∀j,j<ws.length→(w.cell? ⟨p.block,p.off+j,none⟩).isSome=true∧w.frozen? ⟨p.block,p.off+j,none⟩=false)∧PU (w.setCells p.block p.off ws) ps wss
 |_,[],[]=>True
 |_,_,_=>False
def Vss (E:Env):List (List Value)→List (List AV)→Prop
 |ws::wss,cs::css=>ws.length=cs.length∧(∀j,j<cs.length→(ws.getD j undef).oneCell'=true∧V E (ws.getD j undef) (cs.getD j .any))∧Vss E wss css
 | [],[]=>True
 |_,_=>False
def more (w:World)(os:Array Obj):World:= {w with heap:=w.heap++os}
theorem HI.more {C:Ctx}{U:Nat→Prop}{hp:HF}{w:World}{S:Nat→Prop}{β:Nat→Place}{used:Nat→Nat→Prop}(h:HI C U hp w S β used)(os:Array Obj):HI C U hp (more w os) S β used∧(aE C S β used hp w).le (aE C S β used hp (Go.AM.more w os)):=by
 have hb: ∀b,b<w.heap.size→(Go.AM.more w os).heap[b]? =w.heap[b]? :=fun b hb=>by
  show (w.heap++os)[b]? =_
  rw[Array.getElem?_append_left hb]
 have hz:w.heap.size≤(Go.AM.more w os).heap.size:=by show _≤(w.heap++os).size;rw[Array.size_append];omega
 refine (HI.change (w':=Go.AM.more w os) (S':=S) (β':=β) (used':=used) (hp':=hp) (U':=U) h ⟨h.kept.os,h.kept.tape,h.kept.output,AL h.kept.size hz,fun b h1 h2=>(hb b (B6 h1 h.kept.size)).trans (h.kept.block b h1 h2)⟩ (fun b o u hs hc=>⟨hs,by rw[((SameB.of_block (hb b (re hc))).at o).1];exact hc⟩) (fun _ _ x=>x) (fun k g b hk _=>⟨⟨b,hk⟩,rfl⟩) (fun b hs=>⟨B6 (h.s b hs).1 hz,(h.s b hs).2⟩) h.keep h.us (fun k g b hk=>.inl ⟨hk,rfl,fun hn=>?_⟩) h.inj h.pl)
 have:=((h.at_ k g b hk).2.1 hn).1;exact ⟨this,SameB.of_block (hb _ (h.s _ this).1)⟩
theorem RelC.more {C:Ctx}{U:Nat→Prop}{F:FSt}{a:Act}{w:World}{S:Nat→Prop}{β:Nat→Place}{used:Nat→Nat→Prop}(h:RelC C U F a w S β used)(os:Array Obj):RelC C U F a (Go.AM.more w os) S β used:=
 ⟨(h.hi.more os).1,h.size,h.defers,fun t=>(h.tm t).mono (h.hi.more os).2⟩
structure DSem (P:Program)(C:Ctx)(fn:Func)(sp:AV→Option (List (List AV))):Prop where
 ret: ∀(tmps:Array Value)(w:World)(R:Ending→World→Prop),(∀os,∃v,(results fn tmps).run P (more w os)= .ok v (more w os)∧R (.returned v) (more w os))→Leaves P fn tmps R C.dfr .returning w
 pan: ∀(E:Env)(v:Value)(a:AV)(css:List (List AV)),E.num=C.num→E.tnum=C.tnum→V E v a→sp a=some css→ ∃wss,Vss E wss css∧ ∀(tmps:Array Value)(w:World)(R:Ending→World→Prop)(fv:Fn)(ps:List Addr),C.dval= .func fv #[] (ps.map fun p=>Value.pointer (some p)).toArray→PU w ps wss→
  (∀os,∃v,(results fn tmps).run P (more (wq w ps wss) os)= .ok v (more (wq w ps wss) os)∧R (.returned v) (more (wq w ps wss) os))→Leaves P fn tmps R C.dfr (.panicking [{v:=v,recovered:=false}]) w
def Xh (P:Program)(C:Ctx)(fn:Func)(rs:List RVar):Prop:=dC (iq P) fn.results.toList=some (fu rs)∧match rs with
 | .dfd sp::_=>DSem P C fn sp
 |_=>C.dfr= []
def sv (P:Program)(N:Nums)(cfg:Cfg)(t:Ret):Prop:=
 ∀(C:Ctx)(todo:List Item)(a:Act)(w:World)(b:Frame)(cs:List Frame)(fn:Func),
  uE P N C.n todo cfg.todo→dU N C→C.tnum=N.tnum→0<cfg.A.ctr→Rel C (fun g=>g<cfg.A.ctr) cfg.A.fs a w→
  P.funcs[b.fn]? =some fn→Xh P C fn cfg.rs→b.kind= .normal→
  ∃v w' fr S1 β1,RetC C cfg.m w' v (unR t) S1 β1∧Steps P (lone (b.at a todo) cs w) (lone fr cs w')∧fr.fn=b.fn∧fr.leaving P w' (gW t.r v)
def fK (P:Program)(N:Nums)(ih:Cfg→Option Ret):Prop:= ∀c t,ih c=some t→oL c.todo=true→sv P N c t
section
variable {P:Program} {N:Nums} {G:Nat→Fun}
theorem nY {raw:Bool}{fn:Func}{F:AFunc}(h:ku P N raw fn=some F):
  ∃c,fn.body=some c∧bZ P N fn.ntmps c=some F.body∧dC (iq P) fn.results.toList=some F.results∧(fn.params.size+fn.nfree≤fn.ntmps∧fn.ntmps≤D0)∧F.np=fn.params.size+fn.nfree∧fn.name≠ "runtime.NumGoroutine" :=by
 unfold ku at h;cases hb:fn.body with
 |none=>rw[hb] at h;cases h
 |some c=>
  rw[hb] at h;dsimp only at h;split at h
  ·rename_i bd rs h1 h2
   split at h
   ·rename_i hq
    obtain rfl:=Ai h;exact ⟨c,rfl,h1,h2,⟨hq.1,hq.2.1⟩,rfl,hq.2.2⟩
   ·cases h
  ·cases h
theorem Uz: ∀{l:List ResultVar}{rs:List RVar},dC (iq P) l=some rs→fu rs=rs∧ ∀sp r,rs≠ .dfd sp::r
 | [], rs, h => by obtain rfl: []=rs:=by simpa[dC] using h
                   exact ⟨rfl,fun _ _ q=>by cases q⟩
 |v::l,rs,h=>by
  obtain ⟨r,rs',q1,q2,rfl⟩:=qb h;cases r with
  |t n=>exact ⟨rfl,fun _ _ q=>by cases q⟩
  |cell a sz=>exact ⟨rfl,fun _ _ q=>by cases q⟩
  |dfd sp=>
   exfalso;cases v with
   |tmp t=>simp only[iq] at q1;split at q1<;>cases q1
   |cell a t=>
    simp only[iq] at q1;split at q1
    ·split at q1<;>cases q1
    ·cases q1
theorem Ug {raw:Bool}{fn:Func}{F:AFunc}(h:ku P N raw fn=some F){C:Ctx}(hd:C.dfr= []):Xh P C fn F.results:=by
 obtain ⟨c,_,_,h3,_⟩:=nY h;obtain ⟨q1,q2⟩:=Uz h3;refine ⟨by rw[q1];exact h3,?_⟩
 split
 ·rename_i sp r e;exact absurd e (q2 sp r)
 ·exact hd
theorem EN {C:Ctx}{N:Nums}{vs:Array Value}{args:List AV}{bs:List Blk}{n:Nat}(hent:Entry C N vs args bs)(h4:args.length≤n∧n≤D0):
  Rel {C with n:=n,dfr:=[],dval:=undef} (fun g=>g<1) (AS.mk (tms 0 args) (jK 0 bs) 1).fs {tmps:=vs++Array.replicate (n-vs.size) undef,defers:=[]} C.W0:=by
 have hi:=hent.hi
 have hhp:aQ (jK 0 bs)=hpB bs:=by
  funext k
  rw[NZ,Ad (Nat.zero_le k),Nat.sub_zero];rfl
 refine ⟨C.S0,C.π,gu bs.length,?_,?_,rfl,fun t=>?_⟩
 ·show HI {C with n:=n,dfr:=[],dval:=undef} _ (aQ (jK 0 bs)) C.W0 C.S0 C.π (gu bs.length)
  rw[hhp];exact ⟨hi.kept,hi.s,hi.s0,hi.keep,fun k g u=>by rw[hi.us k g u];omega,hi.at_,hi.inj,hi.pl⟩
 ·refine ⟨?_,h4.2⟩
  show (vs++Array.replicate (n-vs.size) undef).size=n
  have:=hent.size;have:=h4.1;simp;omega
 ·have hd0:t=D0→args.getD t .any= .any:=fun e=>by rw[Aj,AC (by have:=h4.1;have:=h4.2;omega)];rfl
  show V (aE {C with n:=n,dfr:=[],dval:=undef} C.S0 C.π (gu bs.length) (aQ (jK 0 bs)) C.W0) (if t=D0 then undef else (vs++Array.replicate (n-vs.size) undef).getD t undef) (bJ (tms 0 args) t)
  rw[hhp,R7,Ad (Nat.zero_le t),Nat.sub_zero]
  by_cases hq0:t=D0
  ·rw[hd0 hq0];exact .any _
  rw[Ac hq0]
  by_cases ht:t<args.length
  ·have hv:=hent.at_ t ht
   have hsz:=hent.size
   have:(vs++Array.replicate (n-vs.size) undef).getD t undef=vs.getD t undef:=by
    simp only[Ak];rw[Array.getElem?_append_left (by omega)]
   rw[this];exact hv
  ·have:args.getD t .any= .any:=by rw[Aj,AC (by omega)];rfl
   rw[this];exact .any _
theorem vO {P:Program}{m m':Machine}{r:AV}{v:Value}(h:Steps P m m'):Comes P m m' (gW r v):=by
 unfold gW;split<;>exact h
theorem Cy (hG:GOk P N G){f:Nat}{F:AFunc}(hf:G f= .code F){args:List AV}{bs:List Blk}{t:Ret}(hl:args.length=F.np)(hs:sv P N (F.start args bs) t):fq P N f args bs t:=by
 intro C vs hent cs;have hg:=hG f;rw[hf] at hg;obtain ⟨fn,hfn,hcf⟩:=hg;obtain ⟨c,h1,h2,h3,h4,h5,h6⟩:=nY hcf
 let C':Ctx:= {C with n:=fn.ntmps,dfr:=[],dval:=undef}
 let b:Frame:= { (default:Frame) with fn:=N.num f,kind:=.normal}
 let a:Act:= {tmps:=vs++Array.replicate (fn.ntmps-vs.size) undef,defers:=[]}
 have henter:Frame.enter P (N.num f) vs .normal=b.at a [.code c]:=by
  simp[Frame.enter,Frame.at,hfn,h1,b,a]
 have hrel:Rel C' (fun g=>g<1) (F.start args bs).A.fs a C.W0:=EN hent ⟨by have:=h4.1;omega,h4.2⟩
 obtain ⟨v,w',fr,S1,β1,hret,hst,hfr,hlv⟩:=hs C' [.code c] a C.W0 b cs fn ⟨h2,trivial⟩ hent.num hent.tnum (Nat.zero_lt_one) hrel hfn (Ug hcf rfl) rfl;refine ⟨gW t.r v,w',fr,⟨v,rfl,S1,β1,⟨hret.kept,hret.s,hret.keep,hret.val,hret.at_,hret.inj,hret.pl,hret.len⟩⟩,?_,hfr,hlv⟩;refine vO ?_;rw[henter];exact hst
theorem WL {hg:Nat→Option (Nat×Blk)}{c:CIn}{g dst:Nat}{t:Ret}{e:Eff}(h:cd hg c g dst t=some e):e.sf= []:=by
 unfold cd at h;simp only[Bool.cond_eq_ite] at h
 (repeat' split at h)<;>first|(cases h;done)|(obtain rfl:=Ai h;rfl)
theorem pg (hG:GOk P N G){C:Ctx}{ops:Array Oper}{i g:Nat}{o:Oper}{ao ao':AOper}(hr:OpRel P N C.n ops i o ao)(hop:ao'.op=ao.op)(hdst:ao'.dst=ao.dst)(hn:dU N C)(ht:C.tnum=N.tnum)(hg0:g≠0)
  {ih:Cfg→Option Ret} (hih:fK P N ih) {A:AS} {e:Eff} (he:iC G ih ao' g A=some e):
  ∀F',(∀t∈looks ao,F'.tm t=A.fs.tm t)→(∀k∈e.rd,F'.hp k=A.fs.hp k∨Sft e.sf k (F'.hp k))→Qb P C o g ao.dst e F':=by
 intro F' hF1 hF2;have hvals:=GN hF1;rw[Aa] at hvals;unfold iC at he;rw[hop] at he;split at he
 ·rename_i f args hao
  rw[hao] at hvals;simp only[AOp.opds,Ao,List.cons.injEq] at hvals;obtain ⟨hv1,hv2⟩:=hvals;simp only[Ao] at he;unfold oe at he;split at he
  ·rename_i fi cap args' heq
   obtain ⟨hq1,hq2⟩:=List.cons.inj heq;cases hci:eY (aQ A.hp) (G (bW fi)).raw (bif isB fi then cap++args' else args'++cap) with
   |none=>rw[hci] at he;cases he
   |some c=>
    rw[hci] at he;dsimp only at he;have hfo:evF F' f= .fn fi cap:=by rw[hv1];exact hq1
    have hargs:args.map (evF F')=args':=by rw[hv2];exact hq2
    have fin: ∀t,fq P N (bW fi) c.args c.bs t→(∃fn,P.funcs[N.num (bW fi)]? =some fn∧fn.body.isSome=true∧fn.name≠ "runtime.NumGoroutine")→cd (aQ A.hp) c g (ao'.dst.getD 0) t=some e→Qb P C o g ao.dst e F':=by
     rintro t hsem ⟨fn,hfn,hb,hname⟩ hco
     have hrd:=WM hco;have hag: ∀k∈c.fz++c.D,aQ A.hp k=F'.hp k:=fun k hk=>((hF2 k (by rw[hrd];exact hk)).resolve_right fun q=>by rw[WL hco] at q;exact q.nil).symm
     have hci':=OW hci hag;rw[←hargs] at hci';exact aaw hr hn ht hao hg0 hfo hci' hsem hfn hb hname (JF hco hag)
    cases hGf:G (bW fi) with
    |none=>rw[hGf] at he;cases he
    |code F=>
     rw[hGf] at he;dsimp only at he;split at he
     ·rename_i hl
      cases hrn:ih (F.start c.args c.bs) with
      |none=>rw[hrn] at he;cases he
      |some t=>
       rw[hrn] at he;have hg:=hG (bW fi);rw[hGf] at hg;obtain ⟨fn,hfn,hcf⟩:=hg;obtain ⟨cc,k1,_,_,_,_,k6⟩:=nY hcf;exact fin t (Cy hG hGf hl (hih _ _ hrn rfl)) ⟨fn,hfn,by rw[k1];rfl,k6⟩ he
     ·cases he
    |prim raw p=>
     rw[hGf] at he;dsimp only at he;cases hp:p c.args c.bs with
     |none=>rw[hp] at he;cases he
     |some t=>
      rw[hp] at he;have hg:=hG (bW fi);rw[hGf] at hg;exact fin t (hg.2 _ _ _ hp) hg.1 he
  ·cases he
 ·rename_i hnc
  have he':=aaK (hg':=F'.hp) he hF2;rw[←hvals] at he';exact afo hr hn ht hnc hg0 he'
theorem Fe (hG:GOk P N G){C:Ctx}{ops:Array Oper}{i g:Nat}{o:Oper}{ao ao':AOper}(hr:OpRel P N C.n ops i o ao)(hop:ao'.op=ao.op)(hdst:ao'.dst=ao.dst)(hn:dU N C)(ht:C.tnum=N.tnum)(hg0:g≠0)
  {ih:Cfg→Option Ret} (hih:fK P N ih) {A:AS} {e:Eff} (he:kA G ih ao' g A=some e): ∀F',(∀t∈looks ao,F'.tm t=A.fs.tm t)→F'.hp=A.fs.hp→ve P C o g e F':=by
 intro F' hF1 hF2;have hvals:=GN hF1;rw[Aa] at hvals;have hF2':aQ A.hp=F'.hp:=hF2.symm;unfold kA at he;rw[hop] at he;split at he
 ·rename_i f args hao
  rw[hao] at hvals;simp only[AOp.opds] at hvals;rw[←hvals,hF2'] at he;simp only[Ao] at he;unfold yQ at he;split at he
  ·rename_i fi cap args' heq
   obtain ⟨hq1,hq2⟩:=List.cons.inj heq;cases hci:eY F'.hp (G (bW fi)).raw (bif isB fi then cap++args' else args'++cap) with
   |none=>rw[hci] at he;cases he
   |some c=>
    rw[hci] at he;dsimp only at he;rw[←hq2] at hci
    have fin: ∀t,fq P N (bW fi) c.args c.bs t→(∃fn,P.funcs[N.num (bW fi)]? =some fn∧fn.body.isSome=true∧fn.name≠ "runtime.NumGoroutine")→oC F'.hp c g (ao'.dst.getD 0) t=some e→ve P C o g e F':=by
     rintro t hsem ⟨fn,hfn,hb,hname⟩ hco
     exact WG hr hn ht hao hg0 hq1 hci hsem hfn hb hname hco
    cases hGf:G (bW fi) with
    |none=>rw[hGf] at he;cases he
    |code F=>
     rw[hGf] at he;dsimp only at he;split at he
     ·rename_i hl
      cases hrn:ih (F.start c.args c.bs) with
      |none=>rw[hrn] at he;cases he
      |some t=>
       rw[hrn] at he;have hg:=hG (bW fi);rw[hGf] at hg;obtain ⟨fn,hfn,hcf⟩:=hg;obtain ⟨cc,k1,_,_,_,_,k6⟩:=nY hcf;exact fin t (Cy hG hGf hl (hih _ _ hrn rfl)) ⟨fn,hfn,by rw[k1];rfl,k6⟩ he
     ·cases he
    |prim raw p=>
     rw[hGf] at he;dsimp only at he;cases hp:p c.args c.bs with
     |none=>rw[hp] at he;cases he
     |some t=>
      rw[hp] at he;have hg:=hG (bW fi);rw[hGf] at hg;exact fin t (hg.2 _ _ _ hp) hg.1 he
  ·cases he
 ·rename_i x hao
  rw[hao] at hvals;simp only[AOp.opds,Ao,A9,List.cons.injEq,and_true] at hvals;split at he
  ·rename_i ty av hx
   obtain rfl:=Ai he;refine WE hr hn hao ?_;rw[hvals];exact hx
  ·cases he
 ·cases he
theorem abq (hG:GOk P N G){C:Ctx}{ops:Array Oper}{i g:Nat}{o:Oper}{ao ao':AOper}(hr:OpRel P N C.n ops i o ao)(hop:ao'.op=ao.op)(hdst:ao'.dst=ao.dst)(hn:dU N C)(ht:C.tnum=N.tnum)(hg0:g≠0)
  {ih:Cfg→Option Ret} (hih:fK P N ih) {A:AS} {e:Eff} (he:kA G ih ao' g A=some e):ve P C o g e A.fs:=Fe hG hr hop hdst hn ht hg0 hih he A.fs (fun _ _=>rfl) rfl
theorem fH {n:Nat}{ops:Array Oper}: ∀{os:List Oper}{i:Nat}{l:List AOper},fa P N n ops i os=some l→l.length=os.length∧ ∀(j:Nat)(o:Oper)(ao:AOper),os[j]? =some o→l[j]? =some ao→OpRel P N n ops (i+j) o ao
 | [], i, l, h => by obtain rfl: []=l:=by simpa[fa] using h
                     exact ⟨rfl,fun j o ao h=>by simp at h⟩
 |o::os,i,l,h=>by
  simp only[fa] at h;split at h
  ·rename_i a l' h1 h2
   obtain rfl:=Ai h;obtain ⟨q1,q2⟩:=fH h2;refine ⟨by simp[q1],fun j o' ao ho ha=>?_⟩
   cases j with
   |succ j=>
    have:=q2 j o' ao (by simpa using ho) (by simpa using ha)
    rwa [show i+(j+1)=i+1+j from by omega]
   |zero=>
    obtain rfl:o=o':=by simpa using ho
    obtain rfl:a=ao:=by simpa using ha
    unfold Oh at h1;split at h1
    ·rename_i op gd g1 g2
     split at h1
     ·rename_i hq
      obtain rfl:=Ai h1;refine ⟨g1,rfl,fun d hd=>?_,?_,fun e he hb=>?_,fun j hj=>?_⟩
      ·have:=hq.1;rw[hd] at this;simpa[aen] using this
      ·dsimp only
       cases hg:o.guard with
       |none=>rw[hg] at g2;obtain rfl:=Ai g2;trivial
       |some x=>
        obtain ⟨jj,ww⟩:=x;rw[hg] at g2;simp only[G6] at g2;split at g2
        ·rename_i t ht
         split at g2
         case isFalse=>cases g2
         rename_i hlt;obtain rfl:=Ai g2;exact ⟨rfl,hlt,ht⟩
        ·cases g2
      ·exact By.2 ⟨e,List.mem_filter.2 ⟨by simpa using he,hb⟩,rfl⟩
      ·obtain ⟨e,he,rfl⟩:=By.1 hj
       obtain ⟨he1,he2⟩:=List.mem_filter.1 he;refine ⟨?_,e,by simpa using he1,he2,rfl⟩
       have:=List.all_eq_true.1 hq.2 e.on hj;simpa using this
     ·cases h1
    ·cases h1
  ·cases h
theorem RZ {x y:AOper}(h:Pr x y=true):gY x y:=by
 unfold Pr at h;simp only[Av] at h;refine ⟨fun t ht=>?_,fun t ht=>?_⟩
 ·have:=h.1;rw[ht] at this;simpa using this
 ·have:=h.2;rw[ht] at this;simpa using this
theorem nN: ∀{l:List AOper}{k:Nat},uV k l=true→ ∀(i j:Nat)(ai aj:AOper),i<j→l[i]? =some ai→l[j]? =some aj→k+i∈aj.after∨gY ai aj
 | [],_,_,i,_,_,_,_,h,_=>by simp at h
 |o::r,k,h,i,j,ai,aj,hij,hi,hj=>by
  simp only[uV,Av] at h;cases j with
  |zero=>omega
  |succ j=>
   cases i with
   |zero=>
    obtain rfl:o=ai:=by simpa using hi
    have:=List.all_eq_true.1 h.1 aj (A3 (by simpa using hj))
    simp only[BO] at this;rcases this with q|q
    ·exact .inl (by simpa using q)
    ·exact .inr (RZ q)
   |succ i=>
    have:=nN h.2 i j ai aj (by omega) (by simpa using hi) (by simpa using hj)
    rwa [show k+(i+1)=k+1+i from by omega]
theorem jg (φ:Nat→Nat→Tgt): ∀(l:List (Nat×AV))(t:Nat),bJ (iy φ l) t=(bJ l t).ren φ
 | [],t=>by simp[iy,bJ,AV.ren]
 |(u,v)::r,t=>by
  simp only[iy,bJ];split
  ·rfl
  ·exact jg φ r t
theorem jq (φ:Nat→Nat→Tgt): ∀(l:aw)(k:Nat),aQ (renH φ l) k=(aQ l k).map fun x=>(x.1,x.2.ren φ)
 | [],k=>rfl
 |(u,some (g,b))::r,k=>by
  simp only[renH,aQ];split
  ·rfl
  ·exact jq φ r k
 |(u,none)::r,k=>by
  simp only[renH,aQ];split
  ·rfl
  ·exact jq φ r k
theorem HI.renH {C:Ctx}{U:Nat→Prop}{hp hp':HF}{w:World}{S S':Nat→Prop}{β:Nat→Place}{used:Nat→Nat→Prop}{φ:Nat→Nat→Tgt}
  (h':HI C U hp' w S' β used) (h:HI C U hp w S β used) (r:RenOk (aE C S β used hp w) (aE C S' β used hp' w) φ)
  (hsub: ∀k x,hp' k=some x→hp k=some x):
  aE C S' β used (fun k=>(hp' k).map fun x=>(x.1,x.2.ren φ)) w=aE C S' β used hp' w∧
  HI C U (fun k=>(hp' k).map fun x=>(x.1,x.2.ren φ)) w S' β used:=by
 have he:aE C S' β used (fun k=>(hp' k).map fun x=>(x.1,x.2.ren φ)) w=aE C S' β used hp' w:=by
  unfold aE
  congr 1
  funext k g
  dsimp only;cases hp' k with
  |none=>rfl
  |some x=>rfl
 refine ⟨he,h'.kept,h'.s,h'.s0,h'.keep,h'.us,fun k g b hk=>?_,fun k k' x x' hk hk'=>?_,fun k b hk=>?_⟩
 ·obtain ⟨x,hx,e⟩:=map_some hk
  obtain ⟨g',b'⟩:=x;obtain ⟨rfl,rfl⟩:g'=g∧b'.ren φ=b:=by simpa using e
  obtain ⟨q1,q2,q3⟩:=h'.at_ k g' b' hx;refine ⟨q1,q2,?_⟩;rw[he];exact BlkOk.ren r (h.at_ k g' b' (hsub _ _ hx)).2.2
 ·obtain ⟨y,hy,_⟩:=map_some hk
  obtain ⟨y',hy',_⟩:=map_some hk';exact h'.inj k k' y y' hy hy'
 ·obtain ⟨x,hx,e⟩:=map_some hk
  obtain ⟨g',b'⟩:=x;obtain ⟨rfl,rfl⟩:g'=0∧b'.ren φ=b:=by simpa using e
  exact h'.pl k b' hx
theorem Rel.frz {C:Ctx}{U:Nat→Prop}{A:AS}{a:Act}{w:World}(h:Rel C U A.fs a w)(D:List Nat):Rel C U (A.frz D).fs a w:=by
 obtain ⟨S,β,used,hR⟩:=h;have hd:=hR.hi.drop D;have hf:=hR.hi.frz D;dsimp only at hd hf
 have hren:RenOk (aE C S β used A.fs.hp w) _ (qe (aQ A.hp) D):=⟨hf.ro,hf.num,hf.tnum,fun k g u=>by
  unfold qe;cases hc:D.contains k with
  |true=>exact hf.at_ k g u
  |false=>exact ⟨u,fun p hp=>hd.2.lv k g p u hp⟩⟩
 have hsub: ∀k x,f6 A.fs.hp D k=some x→A.fs.hp k=some x:=fun k x hx=>by
  unfold f6 at hx;split at hx
  ·cases hx
  ·exact hx
 obtain ⟨e1,e2⟩:=HI.renH hd.1 hR.hi hren hsub
 have hhp:(A.frz D).fs.hp=fun k=>(f6 A.fs.hp D k).map fun x=>(x.1,x.2.ren (qe (aQ A.hp) D)):=by
  show aQ (cW D++_)=_
  rw[gf,jp]
  funext k
  unfold f6;split
  ·rfl
  ·exact jq _ _ _
 refine ⟨_,β,used,by rw[hhp];exact e2,hR.size,hR.defers,fun t=>?_⟩
 rw[hhp,e1];show V _ _ (bJ (iy _ _) t)
 rw[jg];exact (hR.tm t).ren hren
theorem Ko (hG:GOk P N G){C:Ctx}{ops:Array Oper}{aops:List AOper}{c0:Nat}(hc0:0<c0)(hn:dU N C)(ht:C.tnum=N.tnum)
  (hl:aops.length=ops.size)
  (hrel: ∀i o ao,ops[i]? =some o→aops[i]? =some ao→ ∃al,OpRel P N C.n ops i o al∧ao.op=al.op∧ao.dst=al.dst∧ao.guard=al.guard) {A':AS} {Q:Exit→Act→World→Prop}
  (hQ: ∀a w,Rel C (e7 c0 fun j=>decide (j<ops.size)) A'.fs a w→Q .normal a w):
  ∀(r:List AOper)(i:Nat)(A:AS)(a:Act)(w:World),aops.drop i=r→A.ctr=c0→i+r.length=ops.size→RegSeq G (fK P N) r i A A'→Rel C (e7 c0 fun j=>decide (j<i)) A.fs a w→wpOps P ops Q (List.range' i r.length) a w
 | [],i,A,a,w,_,_,hi,hs,hR=>by
  obtain rfl:i=ops.size:=by simpa using hi
  exact hQ a w (hs.2 _ _ _ _ hR)
 |ao::r,i,A,a,w,hd,hc,hi,hs,hR=>by
  have hlt:i<ops.size:=by simp at hi;omega
  have ho:ops[i]? =some ops[i]:=by simp[hlt]
  generalize ops[i]=o at ho
  have ha:aops[i]? =some ao:=by
   have:(aops.drop i)[0]? =some ao:=by rw[hd];rfl
   simpa using this
  obtain ⟨al,hrl,x1,x2,x3⟩:=hrel i o ao ho ha;have hd':aops.drop (i+1)=r:=by rw[←List.drop_drop,hd];rfl
  have hU: ∀g,Or1 (e7 c0 fun j=>decide (j<i)) (c0+i) g→e7 c0 (fun j=>decide (j<i+1)) g:=by
   rintro g ((hg|⟨j,hj,rfl⟩)|rfl)
   ·exact .inl hg
   ·exact .inr ⟨j,by simp at hj⊢;omega,rfl⟩
   ·exact .inr ⟨i,by simp,rfl⟩
  rw[As,List.range'_succ,wpOps_cons];unfold wpOp;simp only[ho];obtain ⟨A0,hA0,hs⟩:=hs;have hR:=hA0.2 _ _ _ _ hR;have hc0':A0.ctr=c0:=hA0.1.trans hc;rcases hs with ⟨h1,h2⟩|⟨A1,e,hA1,hw,⟨ih,hih,he⟩,h2⟩
  ·rw[dw hR hrl (by rw[←x3,ft];exact h1)]
   simp only[A4,if_false];refine Ko hG hc0 hn ht hl hrel hQ r (i+1) (A0.put ao.dst gR) _ _ hd' (by rw[AS.put_ctr];exact hc0') (by simp at hi;omega) h2 ?_
   rw[AS.fs_put,←hrl.dst,←x2];exact (hR.put ao.dst (fun d hd=>hrl.bd d (by rw[←hrl.dst,←x2];exact hd))).wide fun y hy=>hU y (.inl hy)
  ·rw[dw hR hrl (by rw[←x3,ft];exact hw)]
   simp only[if_true]
   have hR1:Rel C (e7 c0 fun j=>decide (j<i)) A1.fs a w:=by
    exact hA1.2 _ _ _ _ hR
   have hc1:A1.ctr=c0:=hA1.1.trans hc0';rw[hc] at he;have hdo:=pg hG hrl x1 x2 hn ht (by omega) hih he A1.fs (fun _ _=>rfl) (fun _ _=>.inl rfl)
   refine .inl (hdo _ a w _ Q ?_ hR1 fun a' w' hR'=>?_)
   ·rintro (hg|⟨j,hj,hg⟩)
    ·omega
    ·have:j<i:=by simpa using hj
     omega
   ·refine Ko hG hc0 hn ht hl hrel hQ r (i+1) (A1.app ao.dst e) _ _ hd' (by rw[AS.app_ctr];exact hc1) (by simp at hi;omega) h2 ?_
    rw[AS.fs_app,x2];exact hR'.wide hU
theorem BI (hG:GOk P N G){C:Ctx}{ops:Array Oper}{aops:List AOper}{c0:Nat}(hc0:0<c0)(hn:dU N C)(ht:C.tnum=N.tnum)
  (hl:aops.length=ops.size)
  (hrel: ∀i o ao,ops[i]? =some o→aops[i]? =some ao→ ∃al,OpRel P N C.n ops i o al∧ao.op=al.op∧ao.dst=al.dst∧ao.guard=al.guard) {rs:List RVar} {m:Nat} {t:Ret} {Q:Exit→Act→World→Prop}
  (hQ: ∀a w A v x S β used U,RelC C U A.fs a w S β used→V (aE C S β used A.fs.hp w) v x→ip A rs m x=some t→Q (.panic [{v:=v,recovered:=false}]) a w):
  ∀(r:List AOper)(i:Nat)(A:AS)(a:Act)(w:World),aops.drop i=r→A.ctr=c0→i+r.length=ops.size→RegPan G (fK P N) rs m t r i A→Rel C (e7 c0 fun j=>decide (j<i)) A.fs a w→wpOps P ops Q (List.range' i r.length) a w
 | [],i,A,a,w,_,_,hi,hs,hR=>hs.elim
 |ao::r,i,A,a,w,hd,hc,hi,hs,hR=>by
  have hlt:i<ops.size:=by simp at hi;omega
  have ho:ops[i]? =some ops[i]:=by simp[hlt]
  generalize ops[i]=o at ho
  have ha:aops[i]? =some ao:=by
   have:(aops.drop i)[0]? =some ao:=by rw[hd];rfl
   simpa using this
  obtain ⟨al,hrl,x1,x2,x3⟩:=hrel i o ao ho ha;have hd':aops.drop (i+1)=r:=by rw[←List.drop_drop,hd];rfl
  have hU: ∀g,Or1 (e7 c0 fun j=>decide (j<i)) (c0+i) g→e7 c0 (fun j=>decide (j<i+1)) g:=by
   rintro g ((hg|⟨j,hj,rfl⟩)|rfl)
   ·exact .inl hg
   ·exact .inr ⟨j,by simp at hj⊢;omega,rfl⟩
   ·exact .inr ⟨i,by simp,rfl⟩
  have hfr: ¬e7 c0 (fun j=>decide (j<i)) (c0+i):=by
   rintro (hg|⟨j,hj,hg⟩)
   ·omega
   ·have:j<i:=by simpa using hj
    omega
  rw[As,List.range'_succ,wpOps_cons];unfold wpOp;simp only[ho];obtain ⟨A0,hA0,hs⟩:=hs;have hR:=hA0.2 _ _ _ _ hR;have hc0':A0.ctr=c0:=hA0.1.trans hc;rcases hs with ⟨h1,h2⟩|⟨A1,e,hA1,hw,⟨ih,hih,he⟩,h2⟩|⟨A1,e,hA1,hw,⟨ih,hih,he⟩,h2⟩
  ·rw[dw hR hrl (by rw[←x3,ft];exact h1)]
   simp only[A4,if_false];refine BI hG hc0 hn ht hl hrel hQ r (i+1) (A0.put ao.dst gR) _ _ hd' (by rw[AS.put_ctr];exact hc0') (by simp at hi;omega) h2 ?_
   rw[AS.fs_put,←hrl.dst,←x2];exact (hR.put ao.dst (fun d hd=>hrl.bd d (by rw[←hrl.dst,←x2];exact hd))).wide fun y hy=>hU y (.inl hy)
  ·rw[dw hR hrl (by rw[←x3,ft];exact hw)]
   simp only[if_true]
   have hR1:Rel C (e7 c0 fun j=>decide (j<i)) A1.fs a w:=by
    exact hA1.2 _ _ _ _ hR
   have hc1:A1.ctr=c0:=hA1.1.trans hc0';rw[hc] at he;have hdo:=pg hG hrl x1 x2 hn ht (by omega) hih he A1.fs (fun _ _=>rfl) (fun _ _=>.inl rfl)
   refine .inl (hdo _ a w _ Q hfr hR1 fun a' w' hR'=>?_)
   refine BI hG hc0 hn ht hl hrel hQ r (i+1) (A1.app ao.dst e) _ _ hd' (by rw[AS.app_ctr];exact hc1) (by simp at hi;omega) h2 ?_
   rw[AS.fs_app,x2];exact hR'.wide hU
  ·rw[dw hR hrl (by rw[←x3,ft];exact hw)]
   simp only[if_true]
   have hR1:Rel C (e7 c0 fun j=>decide (j<i)) A1.fs a w:=by
    exact hA1.2 _ _ _ _ hR
   rw[hc] at he;have hdo:=abq hG hrl x1 x2 hn ht (by omega) hih he
   refine .inl (hdo _ a w _ Q hfr hR1 fun v w' S β used hR' hv=>?_)
   have ee:({A1 with hp:=e.wr++A1.hp}:AS).fs= {A1.fs with hp:=hov e.wr A1.fs.hp}:=by
    show FSt.mk _ (aQ (e.wr++A1.hp))=_
    rw[gf];rfl
   refine hQ a w' {A1 with hp:=e.wr++A1.hp} v e.res S β used _ (by rw[ee];exact hR') ?_ h2
   rw[ee];exact hv
end
end Go.AM
namespace Go.AM
open Go.RowKit
section
variable {P:Program} {N:Nums} {G:Nat→Fun}
theorem Rel.drew {C:Ctx}{U:Nat→Prop}{F:FSt}{a:Act}{w:World}(h:Rel C U F a w):Rel C U F a {w with drawn:=w.drawn+1}:=
 let ⟨S,β,used,hi,b,c,d⟩:=h
 ⟨S,β,used,hi.drew,b,c,d⟩
theorem ia: ∀(r:List AOper)(acc:List (List Nat))(i:Nat)(x:AOper),(bL acc r)[i]? =some x→ ∃y,r[i]? =some y∧x.op=y.op∧x.dst=y.dst∧x.guard=y.guard∧(∀j∈y.after,j∈x.after)∧
  ∀j∈x.after,j∈y.after∨ ∃k∈y.after,j∈ (acc++(bL acc r).map (·.after)).getD k []
 | [],_,_,_,h=>by simp[bL] at h
 |o::r,acc,0,x,h=>by
  simp only[bL,List.getElem?_cons_zero,Option.some.injEq] at h;subst h;refine ⟨o,rfl,rfl,rfl,rfl,fun j hj=>gb.2 (List.mem_append_left _ hj),fun j hj=>?_⟩
  rcases B4.1 (gb.1 hj) with q|q
  ·exact .inl q
  ·right
   obtain ⟨k,hk,hj'⟩:=List.mem_flatMap.1 q;refine ⟨k,hk,?_⟩;rw[Aj] at hj'⊢;rcases AZ k acc.length with z|z
   ·rw[BD z];exact hj'
   ·rw[AC z] at hj';simp at hj'
 |o::r,acc,i+1,x,h=>by
  simp only[bL,List.getElem?_cons_succ] at h;obtain ⟨y,h1,h2,h3,h4,h5,h6⟩:=ia r _ i x h;refine ⟨y,by simpa using h1,h2,h3,h4,h5,fun j hj=>?_⟩
  rcases h6 j hj with q|⟨k,hk,hj'⟩
  ·exact .inl q
  ·exact .inr ⟨k,hk,by simpa[bL] using hj'⟩
theorem ur: ∀(r:List AOper)(acc:List (List Nat)),(bL acc r).length=r.length
 | [],_=>rfl
 |o::r,acc=>by simp only[bL,As,ur r]
theorem ka {draw:Bool}{l:List AOper}{i:Nat}{x:AOper}(h:(iw draw l)[i]? =some x): ∃y,l[i]? =some y∧x.op=y.op∧x.dst=y.dst∧x.guard=y.guard∧ ∀j∈x.after,j∈y.after:=by
 cases draw with
 |true=>
  simp only[iw,cond_true,B7] at h;obtain ⟨y,h1,rfl⟩:=map_some h;refine ⟨y,h1,rfl,rfl,rfl,fun j hj=>?_⟩
  dsimp only at hj;cases hm:Uy y.op with
  |true=>rw[hm] at hj;exact (List.mem_filter.1 hj).1
  |false=>rw[hm] at hj;cases hj
 |false=>
  simp only[iw,cond_false,B7] at h;obtain ⟨y,h1,rfl⟩:=map_some h;exact ⟨y,h1,rfl,rfl,rfl,fun j hj=>by cases hj⟩
theorem uJ {draw:Bool}{l:List AOper}{i:Nat}{x:AOper}(h:(iw draw (bL [] l))[i]? =some x): ∃y,l[i]? =some y∧x.op=y.op∧x.dst=y.dst∧x.guard=y.guard∧True:=by
 obtain ⟨z,z1,z2,z3,z4,_⟩:=ka h;obtain ⟨y,y1,y2,y3,y4,_⟩:=ia l [] i z z1;exact ⟨y,y1,z2.trans y2,z3.trans y3,z4.trans y4,trivial⟩
theorem J4 {draw:Bool}{l:List AOper}:(iw draw l).length=l.length:=by cases draw<;>simp[iw]
theorem jO {draw:Bool}{l:List AOper}:(iw draw (bL [] l)).length=l.length:=by rw[J4,ur]
theorem oh {r:List AOper}{es:List (Option Eff)}{i:Nat}{x:Option Nat×Option Eff}(h:(ck r es)[i]? =some x): ∃o e,r[i]? =some o∧es[i]? =some e∧x=(o.dst,e):=by
 unfold ck at h;rw[List.getElem?_zip_eq_some] at h;obtain ⟨h1,h2⟩:=h;rw[B7] at h1;obtain ⟨o,q1,q2⟩:=map_some h1;exact ⟨o,x.2,q1,h2,by rw[q2]⟩
theorem IQ (hG:GOk P N G)(hm:P.follows .mixedOrders=true){C:Ctx}(hn:dU N C)(ht:C.tnum=N.tnum){id:Nat}{rops:Array Oper}{aops:List AOper}
  {l:List AOper} (hl:fa P N C.n rops 0 rops.toList=some l) (hreg:uV 0 (bL [] l)=true) (haops:aops=iw true (bL [] l)) {A A':AS} {es:List (Option Eff)} (hout:pG G (fK P N) true aops 0 [] A es A') (hctr:0<A.ctr)
  {a:Act} {w:World} (hR:Rel C (fun g=>g<A.ctr) A.fs a w):
  (Code.region id rops true).wp P (fun e a' w'=>e= .normal∧Rel C (e7 A.ctr fun j=>decide (j<rops.size)) A'.fs a' w') a w:=by
 obtain ⟨l1,l2⟩:=fH hl;have hll:l.length=rops.size:=by rw[l1];simp
 obtain ⟨q1,q2,q3⟩:=nK aops 0 [] A es A' hout rfl;have hal:aops.length=rops.size:=by rw[haops,jO];exact hll
 have hesl:(ck aops es).length=rops.size:=by simp[ck,q1,hal]
 have hone: ∀i o ao x,rops[i]? =some o→l[i]? =some ao→(ck aops es)[i]? =some x→x.1=ao.dst∧OneOk P C N rops A.ctr i o ao x.2 (FL (ck aops es) (fun j=>decide (j<i)) 0 A.fs):=by
  intro i o ao x ho ha hx;obtain ⟨o',e,h1,h2,rfl⟩:=oh hx;rw[haops] at h1;obtain ⟨y,y1,y2,y3,y4,_⟩:=uJ h1;obtain rfl:y=ao:=by rw[ha] at y1;exact (Ai y1).symm
  have hrel:=l2 i o y (by simpa using ho) ha
  rw[A5] at hrel;have h1':aops[i]? =some o':=by rw[haops];exact h1
  have h:=q2 i o' e h1' h2;simp only[A5] at h;refine ⟨y3,hrel,fun he=>?_,fun x hx2=>?_⟩
  ·rw[←y4];exact h.none_ he
  ·obtain ⟨z1,ih,A2,z2,z3,z4⟩:=h.some_ x hx2
   refine ⟨by rw[←y4];exact z1,?_⟩
   rw[←z3];exact pg hG hrel y2 y3 hn ht (by omega) z2 z4
 have hclo: ∀i ao,l[i]? =some ao→ ∀j∈ ((bL [] l).map (·.after)).getD i [],j∈ao.after∨ ∃k∈ao.after,j∈ ((bL [] l).map (·.after)).getD k []:=by
  intro i ao hi j hj;rw[Aj,B7] at hj;cases hx:(bL [] l)[i]? with
  |none=>rw[hx] at hj;simp at hj
  |some x=>
   rw[hx] at hj;obtain ⟨y,y1,_,_,_,_,y2⟩:=ia l [] i x hx;obtain rfl:y=ao:=by rw[hi] at y1;exact (Ai y1).symm
   have:=y2 j hj;simpa using this
 refine wp_region_any hm (ahi (c0:=A.ctr) (F0:=A.fs) (fun i=>((bL [] l).map (·.after)).getD i []) hclo hll hesl hone ?_ (fun a' w' hR'=>⟨rfl,by rw[←q3];exact hR'⟩) rops.size (Array.replicate rops.size false) a _ (by simp) ?_ ?_ ?_)
 ·intro i j ai aj xi xj hij hi hj hxi hxj
  obtain ⟨oi,ei,y1,y2,rfl⟩:=oh hxi;obtain ⟨oj,ej,y3,y4,rfl⟩:=oh hxj;rw[haops] at y1 y3;obtain ⟨zi,zi1,zi2,zi3,zi4,_⟩:=ka y1;obtain ⟨zj,zj1,zj2,zj3,zj4,zj5⟩:=ka y3;obtain ⟨wi,wi1,wi2,wi3,wi4,wi5,_⟩:=ia l [] i zi zi1;obtain ⟨wj,wj1,wj2,wj3,wj4,wj5,_⟩:=ia l [] j zj zj1;obtain rfl:wi=ai:=by rw[hi] at wi1;exact (Ai wi1).symm
  obtain rfl:wj=aj:=by rw[hj] at wj1;exact (Ai wj1).symm
  have hcl: ∀k∈zj.after,k∈ ((bL [] l).map (·.after)).getD j []:=fun k hk=>by
   rw[Aj,B7,zj1];exact hk
  rcases nN (hreg) i j zi zj hij zi1 zj1 with z|z
  ·rw[A5] at z;exact .inl (hcl _ z)
  ·rw[←haops] at y1 y3
   rcases (mz aops 0 [] A es A' hout).2 i j oj ei ej hij y3 y2 y4 with z2|z2
   ·rw[A5] at z2;exact .inl (hcl _ (zj5 _ z2))
   ·refine .inr ⟨?_,z2⟩
    have l1:looks zi=looks wi:=by unfold looks;rw[wi2,wi4]
    have l2:looks zj=looks wj:=by unfold looks;rw[wj2,wj4]
    unfold gY at z⊢;rw[l1,l2,wi3,wj3] at z;exact z
 ·exact AL List.countP_le_length (by simp)
 ·intro i h
  simp only[Ak] at h;rw[Array.getElem?_replicate] at h;split at h<;>simp at h
 ·have hf: ∀i,(Array.replicate rops.size false).getD i false=false:=fun i=>by
   simp only[Ak];rw[Array.getElem?_replicate];split<;>rfl
  rw[rg _ _ _ _ (fun j _=>hf j)]
  exact hR.drew.wide fun x hx=>.inl hx
theorem IP (hG:GOk P N G){C:Ctx}(hn:dU N C)(ht:C.tnum=N.tnum){id:Nat}{rops:Array Oper}{aops:List AOper}
  {l:List AOper} (hl:fa P N C.n rops 0 rops.toList=some l) (haops:aops=iw false (bL [] l)) {A A':AS} (hout:RegSeq G (fK P N) aops 0 A A') (hctr:0<A.ctr)
  {a:Act} {w:World} (hR:Rel C (fun g=>g<A.ctr) A.fs a w):
  (Code.region id rops false).wp P (fun e a' w'=>e= .normal∧Rel C (e7 A.ctr fun j=>decide (j<rops.size)) A'.fs a' w') a w:=by
 obtain ⟨l1,l2⟩:=fH hl;have hll:l.length=rops.size:=by rw[l1];simp
 have hal:aops.length=rops.size:=by rw[haops,jO];exact hll
 refine wp_region ?_;rw[List.range_eq_range',show List.range' 0 rops.size=List.range' 0 aops.length from by rw[hal]]
 refine Ko hG hctr hn ht hal (fun i o ao ho ha=>?_) (fun a' w' hR'=>⟨rfl,hR'⟩) aops 0 A a w rfl rfl (by omega) hout (hR.wide fun x hx=>.inl hx)
 rw[haops] at ha;obtain ⟨y,y1,y2,y3,y4,_⟩:=uJ ha;have hrel:=l2 i o y (by simpa using ho) y1
 rw[A5] at hrel;exact ⟨y,hrel,y2,y3,y4⟩
theorem Ui (hG:GOk P N G){C:Ctx}(hn:dU N C)(ht:C.tnum=N.tnum){id:Nat}{rops:Array Oper}{aops:List AOper}
  {l:List AOper} (hl:fa P N C.n rops 0 rops.toList=some l) (haops:aops=iw false (bL [] l)) {A:AS} {rs:List RVar} {m:Nat} {t:Ret} (hout:RegPan G (fK P N) rs m t aops 0 A) (hctr:0<A.ctr)
  {a:Act} {w:World} (hR:Rel C (fun g=>g<A.ctr) A.fs a w):
  (Code.region id rops false).wp P (fun e a' w'=> ∃v x A S β used U,e= .panic [{v:=v,recovered:=false}]∧RelC C U A.fs a' w' S β used∧V (aE C S β used A.fs.hp w') v x∧ip A rs m x=some t) a w:=by
 obtain ⟨l1,l2⟩:=fH hl;have hll:l.length=rops.size:=by rw[l1];simp
 have hal:aops.length=rops.size:=by rw[haops,jO];exact hll
 refine wp_region ?_;rw[List.range_eq_range',show List.range' 0 rops.size=List.range' 0 aops.length from by rw[hal]]
 refine BI (t:=t) hG hctr hn ht hal (fun i o ao ho ha=>?_) (fun a' w' A v x S β used U h1 h2 h3=>⟨v,x,A,S,β,used,U,rfl,h1,h2,h3⟩) aops 0 A a w rfl rfl (by omega) hout (hR.wide fun x hx=>.inl hx)
 rw[haops] at ha;obtain ⟨y,y1,y2,y3,y4,_⟩:=uJ ha;have hrel:=l2 i o y (by simpa using ho) y1
 rw[A5] at hrel;exact ⟨y,hrel,y2,y3,y4⟩
theorem tQ (hp:aw)(key:Nat)(z:Option (Nat×Blk)):aQ ((key,z)::hp)=up (aQ hp) key z:=by
 funext k
 simp only[aQ,up]
 by_cases h:key=k
 ·subst h;simp
 ·rw[Ac h,Ac (Ne.symm h)]
theorem Ua {α:Type}{l cs:List α}(h:cs.length=l.length):cO l 0 cs=cs:=by
 unfold cO;simp[h]
theorem Vss.mono {E E':Env}(l:E.le E'): ∀{wss:List (List Value)}{css:List (List AV)},Vss E wss css→Vss E' wss css
 | [],[],_=>trivial
 |_::_,_::_,h=>⟨h.1,fun j hj=>⟨(h.2.1 j hj).1,(h.2.1 j hj).2.mono l⟩,Vss.mono l h.2.2⟩
 | [],_::_,h=>h.elim
 |_::_,[],h=>h.elim
theorem yG {C:Ctx}{a:Act}: ∀(caps:List AV)(css:List (List AV))(vs:List Value)(wss:List (List Value))(A A':AS)(w:World)(U:Nat→Prop)(S:Nat→Prop)(β:Nat→Place)(used:Nat→Nat→Prop),
  vs.length=caps.length→(∀i,i<caps.length→V (aE C S β used A.fs.hp w) (vs.getD i undef) (caps.getD i .any))→Vss (aE C S β used A.fs.hp w) wss css→RelC C U A.fs a w S β used→n9 A caps css=some A'→
  ∃ps:List Addr,vs=ps.map (fun p=>Value.pointer (some p))∧PU w ps wss∧ ∃U' used',RelC C U' A'.fs a (wq w ps wss) S β used'
 | [],css,vs,wss,A,A',w,U,S,β,used,hl,hv,hs,hR,hp=>by
  cases css with
  |cons _ _=>cases hp
  |nil=>
   obtain rfl:=Ai hp;obtain rfl:vs= []:=AI hl;cases wss with
   |cons _ _=>exact hs.elim
   |nil=>exact ⟨[],rfl,trivial,U,used,hR⟩
 |c::caps,css,vs,wss,A,A',w,U,S,β,used,hl,hv,hs,hR,hp=>by
  cases css with
  |nil=>
   exfalso;unfold n9 at hp;split at hp<;>simp_all
  |cons cs css=>
  cases wss with
  |nil=>exact hs.elim
  |cons ws wss=>
  cases vs with
  |nil=>simp at hl
  |cons v vs=>
  obtain ⟨s1,s2,s3⟩:=hs;unfold n9 at hp;split at hp
  ·rename_i h0;cases h0
  ·rename_i k g caps' cs' css' e1 e2
   obtain ⟨rfl,rfl⟩:=List.cons.inj e1;obtain ⟨rfl,rfl⟩:=List.cons.inj e2;split at hp
   ·rename_i g' l hk
    split at hp
    ·rename_i hq
     obtain ⟨rfl,hlen⟩:=hq;have v0:=hv 0 (by simp)
     simp only[List.getD_cons_zero] at v0;obtain ⟨_,_,hx⟩:=v0.ref_inv;have e0:=hx _ (br (show A.fs.hp k=some (g',.cells l) from hk))
     obtain ⟨u1,u2,u3⟩:=hR.hi.at_ k g' _ hk;obtain ⟨hnn,hco⟩:=u3;have hcs:Cs (aE C S β used A.fs.hp w) ws.toArray cs:=⟨by simpa using s1,fun i hi=>by have:=(s2 i hi).1;simpa[Ak,Aj] using this,fun i hi=>by have:=(s2 i hi).2;simpa[Ak,Aj] using this⟩
     obtain ⟨used',k1,k2,k3⟩:=hR.hi.write hk hnn ((β k).off) ws g' (.cells cs) (.inl rfl) (fun E l=>⟨hnn,by
      have:=mj (hco.le' l) (hcs.mono l) 0 (by omega)
      rw[Ua hlen] at this;simpa using this⟩)
     have hR1:RelC C (fun x=>U x∨x=g') ({A with hp:=(k,some (g',.cells cs))::A.hp}:AS).fs a (w.setCells (β k).blk (β k).off ws) S β used':=by
      have eh:({A with hp:=(k,some (g',.cells cs))::A.hp}:AS).fs= {A.fs with hp:=up A.fs.hp k (some (g',.cells cs))}:=by
       show FSt.mk _ (aQ ((k,some (g',.cells cs))::A.hp))=_
       rw[tQ];rfl
      rw[eh];exact ⟨k1,hR.size,hR.defers,fun t=>(hR.tm t).mono k2⟩
     have eh2:({A with hp:=(k,some (g',.cells cs))::A.hp}:AS).fs.hp=up A.fs.hp k (some (g',.cells cs)):=by
      show aQ ((k,some (g',.cells cs))::A.hp)=_
      rw[tQ];rfl
     obtain ⟨ps,p1,p2,U',used2,p3⟩:=yG caps css vs wss _ A' _ _ S β used' (by simpa using hl) (fun i hi=>by
      have:=hv (i+1) (by simpa using hi)
      simp only[List.getD_cons_succ] at this;rw[eh2];exact this.mono k2) (by rw[eh2];exact s3.mono k2) hR1 hp
     refine ⟨⟨(β k).blk,(β k).off,none⟩::ps,?_,⟨rfl,fun j hj=>?_,p2⟩,U',used2,p3⟩
     ·rw[e0,p1];rfl
     ·obtain ⟨u,y1,y2,_⟩:=hco j (by omega)
      dsimp only;rw[y1];exact ⟨rfl,y2⟩
    ·cases hp
   ·cases hp
  ·cases hp
theorem aeP {C:Ctx}{fn:Func}{U:Nat→Prop}{A:AS}{a:Act}{w:World}{S:Nat→Prop}{β:Nat→Place}{used:Nat→Nat→Prop}{rs:List RVar}{m:Nat}{t:Ret}{v:Value}{x:AV}{cs:List Frame}
  (hR:RelC C U A.fs a w S β used) (hv:V (aE C S β used A.fs.hp w) v x) (hend:ip A rs m x=some t) (hrs:Xh P C fn rs)
  (fr:Frame) (h1:fr.mode= .panicking [{v:=v,recovered:=false}]) (h2:fr.defers=a.defers) (h3:fr.tmps=a.tmps) (h4:fr.kind= .normal) (h5:P.funcs[fr.fn]? =some fn):
  ∃v' w' fr' S1 β1,RetC C m w' v' (unR t) S1 β1∧Steps P (lone fr cs w) (lone fr' cs w')∧fr'.fn=fr.fn∧fr'.leaving P w' (gW t.r v'):=by
 have h0:=hrs.2;have h00:=hrs.1;unfold ip at hend;split at hend
 ·rename_i sp rs'
  dsimp only at h0;split at hend
  ·rename_i f caps hd
   cases hib:isB f with
   |true=>rw[hib] at hend;cases hend
   |false=>
   rw[hib,cond_false] at hend;split at hend
   ·rename_i css hsp
    cases hpc:n9 A caps css with
    |none=>rw[hpc] at hend;cases hend
    |some A'=>
     rw[hpc] at hend;have hend:fg A' rs' m=some t:=hend;have hdv:=hR.tm D0;have ed:tmv C a D0=C.dval:=Ad rfl;rw[ed,show A.fs.tm D0=bJ A.tm D0 from rfl,hd] at hdv
     obtain ⟨cv,c1,c2,c3⟩:=hdv.fn_inv;obtain ⟨wss,w1,w2⟩:=h0.pan _ v x css rfl rfl hv hsp;obtain ⟨ps,p1,p2,U',used',p3⟩:=yG caps css cv.toList wss A A' w U S β used (by simpa using c2) (fun i hi=>by have:=c3 i hi;simpa[Ak,Aj] using this) w1 hR hpc
     cases hav:ig A' rs' with
     |none=>unfold fg at hend;rw[hav] at hend;cases hend
     |some av=>
      have hnp:dx t.r=none:=by
       obtain ⟨v',r1,r2⟩:=ky (P:=P) p3 h00 hav;obtain ⟨S1,β1,hret⟩:=mR p3.hi hav r2 hend;exact hret.np
      rw[xY hnp]
      have hl:=w2 a.tmps w (fun e w'=> ∃v' S1 β1,e= .returned v'∧RetC C m w' v' t S1 β1) (.func (C.num (bW f))) ps (by rw[c1,←p1];unfold fnF fnC;rw[hib];rfl) p2 fun os=>by
       obtain ⟨v',r1,r2⟩:=ky (P:=P) (p3.more os) h00 hav;obtain ⟨S1,β1,hret⟩:=mR (p3.more os).hi hav r2 hend;exact ⟨v',r1,v',S1,β1,rfl,hret⟩
      obtain ⟨e',w',fr',⟨v',S1,β1,rfl,hret⟩,hst,q1,q2⟩:=leaves_steps C.dfr _ w fr cs h1 (by rw[h2];exact hR.defers) h3 h5 h4 hl
      exact ⟨v',_,fr',S1,β1,hret,hst,q1,by rw[sk hnp];exact q2⟩
   ·cases hend
  ·cases hend
 ·rename_i hne
  have h0':C.dfr= []:=by
   split at h0
   ·rename_i sp r;exact absurd rfl (hne sp r)
   ·exact h0
  obtain ⟨t0,hto,rfl⟩:=map_some hend;obtain ⟨S1,β1,hret⟩:=rn hR.hi hv hto;exact ⟨v,w,fr,S1,β1,hret,.refl _ _,rfl,h1,by rw[h2,hR.defers,h0'],fn,h5⟩
theorem abp {C:Ctx}{fn:Func}{U:Nat→Prop}{A:AS}{F':FSt}{a:Act}{w:World}{S:Nat→Prop}{β:Nat→Place}{used:Nat→Nat→Prop}{rs:List RVar}{m:Nat}{t:Ret}{v:Value}{x:AV}
  (hR:RelC C U {F' with hp:=aQ A.hp} a w S β used) (hv:V (aE C S β used (aQ A.hp) w) v x) (hnr:y9 rs=true) (hend:ip A rs m x=some t) (hrs:Xh P C fn rs)
  (fr:Frame) (h1:fr.mode= .panicking [{v:=v,recovered:=false}]) (h2:fr.defers=a.defers) (h5:P.funcs[fr.fn]? =some fn):
  ∃v' S1 β1,RetC C m w v' (unR t) S1 β1∧fr.leaving P w (gW t.r v'):=by
 have h0:=hrs.2
 have h0':C.dfr= []:=by
  split at h0
  ·cases hnr
  ·exact h0
 unfold ip at hend;split at hend
 ·cases hnr
 ·obtain ⟨t0,hto,rfl⟩:=map_some hend
  obtain ⟨S1,β1,hret⟩:=rn hR.hi hv hto;exact ⟨v,S1,β1,hret,h1,by rw[h2,hR.defers,h0'],fn,h5⟩
theorem Iy: ∀(es r:mt)(L:Nat→Bool)(k:Nat)(F:FSt),FL (es++r) L k F=FL r L (k+es.length) (FL es L k F)
 | [],r,L,k,F=>by simp[FL]
 |(d,e)::es,r,L,k,F=>by
  simp only[BY,FL];rw[Iy es r L (k+1)]
  congr 1
  simp;omega
theorem afG (es:mt)(L L':Nat→Bool)(k:Nat)(F:FSt)(h: ∀j,j<es.length→L (k+j)=L' (k+j)):FL es L k F=FL es L' k F:=by
 induction es generalizing k F with
 |nil=>rfl
 |cons x es ih=>
  obtain ⟨d,e⟩:=x;simp only[FL];have h0:=h 0 (by simp)
  rw[Nat.add_zero] at h0;rw[h0];exact ih (k+1) _ fun j hj=>by have:=h (j+1) (by simpa using hj);rwa [show k+(j+1)=k+1+j from by omega] at this
theorem Qy (hG:GOk P N G)(hm:P.follows .mixedOrders=true){C:Ctx}(hn:dU N C)(ht:C.tnum=N.tnum){id:Nat}{rops:Array Oper}{aops:List AOper}
  {l:List AOper} (hl:fa P N C.n rops 0 rops.toList=some l) (hreg:uV 0 (bL [] l)=true) (haops:aops=iw true (bL [] l)) {A:AS} {rs:List RVar} {m:Nat} {t:Ret} (hout:RegPanD G (fK P N) rs m t aops 0 [] A) (hctr:0<A.ctr)
  {a:Act} {w:World} (hR:Rel C (fun g=>g<A.ctr) A.fs a w):
  (Code.region id rops true).wp P (fun e a' w'=> ∃v x A,∃F':FSt,∃S β used U,e= .panic [{v:=v,recovered:=false}]∧RelC C U {F' with hp:=aQ A.hp} a' w' S β used∧V (aE C S β used (aQ A.hp) w') v x∧y9 rs=true∧ip A rs m x=some t) a w:=by
 obtain ⟨l1,l2⟩:=fH hl;have hll:l.length=rops.size:=by rw[l1];simp
 obtain ⟨init,last,es,A1,ep,hr0,h2,h3,⟨ih,hih,h4⟩,_,h6,h7,h8⟩:=hout;have hal:aops.length=rops.size:=by rw[haops,jO];exact hll
 have hp1:init.length+1=rops.size:=by rw[←hal,hr0];simp
 obtain ⟨q1,q2,q3⟩:=nK init 0 [] A es A1 h2 rfl;have hesl:(ck init es).length=init.length:=by simp[ck,q1]
 let es':mt:=ck init es++[(none,none)]
 have hes':es'.length=rops.size:=by show (ck init es++[(none,none)]).length=_;simp[hesl,hp1]
 have hFL: ∀i,i≤init.length→FL es' (fun j=>decide (j<i)) 0 A.fs=FL (ck init es) (fun j=>decide (j<i)) 0 A.fs:=fun i hi=>by
  show FL (ck init es++[(none,none)]) _ _ _=_
  rw[Iy];exact rg _ _ _ _ fun j hj=>by rw[hesl] at hj;simp;omega
 have hA1:FL es' (fun j=>decide (j<init.length)) 0 A.fs=A1.fs:=by
  rw[hFL _ (Bd _),←q3];exact afG _ _ _ _ _ fun j hj=>by rw[hesl] at hj;simp[hj]
 have hrelA: ∀i o ao,rops[i]? =some o→l[i]? =some ao→OpRel P N C.n rops i o ao:=fun i o ao ho ha=>by
  have hrel:=l2 i o ao (by simpa using ho) ha
  rwa [A5] at hrel
 have hat: ∀(i:Nat)(o':AOper),aops[i]? =some o'→ ∃y:AOper,l[i]? =some y∧o'.op=y.op∧o'.dst=y.dst∧o'.guard=y.guard:=fun i o' h1=>by
  rw[haops] at h1;obtain ⟨y,y1,y2,y3,y4,_⟩:=uJ h1;exact ⟨y,y1,y2,y3,y4⟩
 have hini: ∀i,i<init.length→aops[i]? =init[i]? :=fun i hi=>by rw[hr0,BD hi]
 have hone: ∀i o ao x,i<init.length→rops[i]? =some o→l[i]? =some ao→es'[i]? =some x→x.1=ao.dst∧OneOk P C N rops A.ctr i o ao x.2 (FL es' (fun j=>decide (j<i)) 0 A.fs):=by
  intro i o ao x hi ho ha hx
  have hx':(ck init es)[i]? =some x:=by
   have:es'[i]? =(ck init es)[i]? :=by show (ck init es++[(none,none)])[i]? =_;rw[BD (by omega)]
   rw[←this];exact hx
  obtain ⟨o',e,h1,h2',rfl⟩:=oh hx';obtain ⟨y,y1,y2,y3,y4⟩:=hat i o' (by rw[hini i hi];exact h1)
  obtain rfl:y=ao:=by rw[ha] at y1;exact (Ai y1).symm
  have h:=q2 i o' e h1 h2';simp only[A5] at h;rw[hFL i (by omega)]
  refine ⟨y3,hrelA i o y ho ha,fun he=>?_,fun x hx2=>?_⟩
  ·rw[←y4];exact h.none_ he
  ·obtain ⟨z1,ih,A2,z2,z3,z4⟩:=h.some_ x hx2
   refine ⟨by rw[←y4];exact z1,?_⟩
   rw[←z3];exact pg hG (hrelA i o y ho ha) y2 y3 hn ht (by omega) z2 z4
 have hclo: ∀i ao,l[i]? =some ao→ ∀j∈ ((bL [] l).map (·.after)).getD i [],j∈ao.after∨ ∃k∈ao.after,j∈ ((bL [] l).map (·.after)).getD k []:=by
  intro i ao hi j hj;rw[Aj,B7] at hj;cases hx:(bL [] l)[i]? with
  |none=>rw[hx] at hj;simp at hj
  |some x=>
   rw[hx] at hj;obtain ⟨y,y1,_,_,_,_,y2⟩:=ia l [] i x hx;obtain rfl:y=ao:=by rw[hi] at y1;exact (Ai y1).symm
   have:=y2 j hj;simpa using this
 refine wp_region_any hm (afx (c0:=A.ctr) (F0:=A.fs) (e:=ep) (fun i=>((bL [] l).map (·.after)).getD i []) hclo hll hes' hp1 hrelA hone (fun o ao ho ha=>?_) ?_ (fun a' w' v S β used U F' hR' hv'=>⟨v,ep.res,{A1 with hp:=ep.wr++A1.hp},F',S,β,used,U,rfl,by rw[hA1] at hR';exact gf ep.wr A1.hp▸hR',by rw[hA1] at hv';exact gf ep.wr A1.hp▸hv',h7,h8⟩) rops.size (Array.replicate rops.size false) a _ (by simp) ?_ ?_ ?_ ?_)
 ·have hla:aops[init.length]? =some last:=by rw[hr0];simp
  obtain ⟨y,y1,y2,y3,y4⟩:=hat _ _ hla;obtain rfl:y=ao:=by rw[ha] at y1;exact (Ai y1).symm
  rw[hA1];refine ⟨by rw[←y4,ft];exact h3,fun j aj xj hj haj hxj=>?_,fun F' f1 f2=>?_⟩
  ·have hxj':(ck init es)[j]? =some xj:=by
    have:es'[j]? =(ck init es)[j]? :=by show (ck init es++[(none,none)])[j]? =_;rw[BD (by omega)]
    rw[←this];exact hxj
   obtain ⟨o',e',g1,g2,rfl⟩:=oh hxj';have hz1:(iw true (bL [] l))[j]? =some o':=by rw[←haops,hini j hj];exact g1
   have hz2:(iw true (bL [] l))[init.length]? =some last:=by rw[←haops];exact hla
   obtain ⟨zi,zi1,zi2,zi3,zi4,_⟩:=ka hz1;obtain ⟨zj,zj1,zj2,zj3,zj4,zj5⟩:=ka hz2;obtain ⟨wi,wi1,wi2,wi3,wi4,wi5,_⟩:=ia l [] j zi zi1;obtain ⟨wj,wj1,wj2,wj3,wj4,wj5,_⟩:=ia l [] init.length zj zj1;obtain rfl:wi=aj:=by rw[haj] at wi1;exact (Ai wi1).symm
   obtain rfl:wj=y:=by rw[y1] at wj1;exact (Ai wj1).symm
   have hcl: ∀k∈zj.after,k∈ ((bL [] l).map (·.after)).getD init.length []:=fun k hk=>by
    rw[Aj,B7,zj1];exact hk
   rcases nN hreg j init.length zi zj hj zi1 zj1 with z|z
   ·rw[A5] at z;exact .inl (hcl _ z)
   ·have hap:gY wi wj:=by
     have l1:looks zi=looks wi:=by unfold looks;rw[wi2,wi4]
     have l2:looks zj=looks wj:=by unfold looks;rw[wj2,wj4]
     unfold gY at z⊢;rw[l1,l2,wi3,wj3] at z;exact z
    cases e' with
    |none=>exact .inr ⟨hap,rfl⟩
    |some e'=>
     rcases h6 j e' g2 with q|⟨_,q⟩
     ·rw[A5] at q
      exact .inl (hcl _ (zj5 _ (by simpa using q)))
     ·exact .inr ⟨hap,q⟩
  ·have h4':kA G ih last (A.ctr+init.length) A1=some ep:=by rw[A5] at h4;exact h4
   exact Fe hG (hrelA _ o y ho ha) y2 y3 hn ht (by omega) hih h4' F' f1 f2
 ·intro i j ai aj xi xj hij hjp hi hj hxi hxj
  have hxi':(ck init es)[i]? =some xi:=by
   have:es'[i]? =(ck init es)[i]? :=by show (ck init es++[(none,none)])[i]? =_;rw[BD (by omega)]
   rw[←this];exact hxi
  have hxj':(ck init es)[j]? =some xj:=by
   have:es'[j]? =(ck init es)[j]? :=by show (ck init es++[(none,none)])[j]? =_;rw[BD (by omega)]
   rw[←this];exact hxj
  obtain ⟨oi,ei,y1,y2,rfl⟩:=oh hxi';obtain ⟨oj,ej,y3,y4,rfl⟩:=oh hxj';have hz1:(iw true (bL [] l))[i]? =some oi:=by rw[←haops,hini i (by omega)];exact y1
  have hz2:(iw true (bL [] l))[j]? =some oj:=by rw[←haops,hini j hjp];exact y3
  obtain ⟨zi,zi1,zi2,zi3,zi4,_⟩:=ka hz1;obtain ⟨zj,zj1,zj2,zj3,zj4,zj5⟩:=ka hz2;obtain ⟨wi,wi1,wi2,wi3,wi4,wi5,_⟩:=ia l [] i zi zi1;obtain ⟨wj,wj1,wj2,wj3,wj4,wj5,_⟩:=ia l [] j zj zj1;obtain rfl:wi=ai:=by rw[hi] at wi1;exact (Ai wi1).symm
  obtain rfl:wj=aj:=by rw[hj] at wj1;exact (Ai wj1).symm
  have hcl: ∀k∈zj.after,k∈ ((bL [] l).map (·.after)).getD j []:=fun k hk=>by
   rw[Aj,B7,zj1];exact hk
  rcases nN hreg i j zi zj hij zi1 zj1 with z|z
  ·rw[A5] at z;exact .inl (hcl _ z)
  ·rcases (mz init 0 [] A es A1 h2).2 i j oj ei ej hij y3 y2 y4 with z2|z2
   ·rw[A5] at z2;exact .inl (hcl _ (zj5 _ z2))
   ·refine .inr ⟨?_,z2⟩
    have l1:looks zi=looks wi:=by unfold looks;rw[wi2,wi4]
    have l2:looks zj=looks wj:=by unfold looks;rw[wj2,wj4]
    unfold gY at z⊢;rw[l1,l2,wi3,wj3] at z;exact z
 ·exact AL List.countP_le_length (by simp)
 ·intro i h
  simp only[Ak] at h;rw[Array.getElem?_replicate] at h;split at h<;>simp at h
 ·simp only[Ak]
  rw[Array.getElem?_replicate];split<;>rfl
 ·have hf: ∀i,(Array.replicate rops.size false).getD i false=false:=fun i=>by
   simp only[Ak];rw[Array.getElem?_replicate];split<;>rfl
  rw[rg _ _ _ _ (fun j _=>hf j)]
  exact hR.drew.wide fun x hx=>.inl hx
def Ext (P:Program)(N:Nums)(G:Nat→Fun)(c:Cfg)(t:Ret):Prop:=
 match c.todo with
 | .inReg rest i dn true::k=>(∃es A',pG G (fK P N) true rest i dn c.A es A'∧A'.ctr=c.A.ctr∧sv P N ⟨k,{A' with ctr:=c.A.ctr+(i+rest.length)},c.rs,c.m⟩ t)∨RegPanD G (fK P N) c.rs c.m t rest i dn c.A
 | .inReg rest i _ false::k=>(∃A',RegSeq G (fK P N) rest i c.A A'∧A'.ctr=c.A.ctr∧sv P N ⟨k,{A' with ctr:=c.A.ctr+(i+rest.length)},c.rs,c.m⟩ t)∨RegPan G (fK P N) c.rs c.m t rest i c.A
 |_=>sv P N c t
theorem cA {c:Cfg}{t:Ret}(h:Ext P N G c t):sv P N c t:=by
 obtain ⟨todo,A,rs,m⟩:=c;cases todo with
 |nil=>exact h
 |cons it k=>
  cases it with
  |inReg rest i dn draw=>
   intro C todo' a w b cs fn hit;cases todo' with
   |nil=>exact hit.elim
   |cons x r=>
    obtain ⟨hi,_⟩:=hit;cases x<;>simp[mH] at hi
  |_=>exact h
theorem Sg {c:Cfg}{t:Ret}(hr:oL c.todo=true)(h:sv P N c t):Ext P N G c t:=by
 obtain ⟨todo,A,rs,m⟩:=c;cases todo with
 |nil=>exact h
 |cons it k=>
  cases it with
  |inReg rest i dn draw=>cases hr
  |_=>exact h
theorem aas (hG:GOk P N G)(hm:P.follows .mixedOrders=true){cfg:Cfg}{t:Ret}(hev:Ev G cfg t):Ext P N G cfg t:=by
 induction hev with
 |weakR hw _ IH=>
  rcases IH with ⟨A',h2,h3,h4⟩|hp
  ·dsimp only at h2 h3 h4
   rw[hw.1] at h3 h4;exact .inl ⟨A',h2.pre hw,h3,h4⟩
  ·exact .inr (RegPan.pre hw hp)
 | @panS o rest i dn k A rs m t e ih hih hw he ht IHc=>
  exact .inr ⟨A,Wk0.refl A,.inr (.inr ⟨A,e,Wk0.refl A,hw,⟨ih,fun c t h hr=>cA (IHc c t h),he⟩,ht⟩)⟩
 | @opS o rest i dn k A rs m t e ih hih hw he _ IHc IH=>
  rcases IH with ⟨A',h2,h3,h4⟩|hp
  ·dsimp only at h2 h3 h4
   rw[AS.app_ctr] at h3 h4;exact .inl ⟨A',⟨A,Wk0.refl A,.inr ⟨A,e,Wk0.refl A,hw,⟨ih,fun c t h hr=>cA (IHc c t h),he⟩,h2⟩⟩,h3,by rw[show i+(o::rest).length=i+1+rest.length from by simp;omega];exact h4⟩
  ·have hp:RegPan G (fK P N) rs m t rest (i+1) (A.app o.dst e):=hp
   exact .inr ⟨A,Wk0.refl A,.inr (.inl ⟨A,e,Wk0.refl A,hw,⟨ih,fun c t h hr=>cA (IHc c t h),he⟩,hp⟩)⟩
 | @opD o rest i dn k A rs m t e ih hih hw he hok _ IHc IH=>
  rcases IH with ⟨es,A',h2,h3,h4⟩|hp
  ·dsimp only at h2 h3 h4
   rw[AS.app_ctr] at h3 h4;exact .inl ⟨some e::es,A',⟨hw,⟨ih,fun c t h hr=>cA (IHc c t h),he⟩,fun _=>hok,h2⟩,h3,by rw[show i+(o::rest).length=i+1+rest.length from by simp;omega];exact h4⟩
  ·exact .inr (RegPanD.cons hw ⟨ih,fun c t h hr=>cA (IHc c t h),he⟩ hok hp)
 |weak hr hc hw _ IH=>
  refine Sg hr fun C todo a w b cs fn hit hn ht hctr hR hfn hrs hkind=>?_
  exact cA IH C todo a w b cs fn hit hn ht (B6 hctr hc) (hw C a w hctr hR) hfn hrs hkind
 | @step cfg t ih hih hrun IH=>
  have good:fK P N ih:=fun c t h hr=>cA (IH c t h)
  obtain ⟨ctodo,A,rs,mm⟩:=cfg;cases hrg:oL ctodo with
  |false=>
   cases ctodo with
   |nil=>cases hrg
   |cons it k=>
    cases it with
    |inReg rest i dn draw=>
     cases rest with
     |nil=>
      have h1:=cA (IH _ _ hrun);cases draw with
      |true=>exact .inl ⟨[],A,rfl,rfl,h1⟩
      |false=>exact .inl ⟨A,Wk0.refl A,rfl,h1⟩
     |cons o rest=>
      simp only[iW] at hrun;have hlen:i+(o::rest).length=i+1+rest.length:=by simp;omega
      cases hw:cj A.tm o.guard with
      |none=>rw[hw] at hrun;cases hrun
      |some b=>
       rw[hw] at hrun;cases b with
       |false=>
                dsimp only at hrun;cases draw with
                |true=>
                 rcases IH _ _ hrun with ⟨es,A',h2,h3,h4⟩|hp
                 ·dsimp only at h2 h3 h4
                  rw[AS.put_ctr] at h3 h4;exact .inl ⟨none::es,A',⟨hw,h2⟩,h3,by rw[hlen];exact h4⟩
                 ·exact .inr (RegPanD.skip hw hp)
                |false=>
                 rcases IH _ _ hrun with ⟨A',h2,h3,h4⟩|hp
                 ·dsimp only at h2 h3 h4
                  rw[AS.put_ctr] at h3 h4;exact .inl ⟨A',⟨A,Wk0.refl A,.inl ⟨hw,h2⟩⟩,h3,by rw[hlen];exact h4⟩
                 ·exact .inr ⟨A,Wk0.refl A,.inl ⟨hw,hp⟩⟩
       |true=>
                dsimp only at hrun;cases he:iC G ih o (A.ctr+i) A with
                |none=>
                 rw[he] at hrun;cases draw with
                 |true=>
                  cases hq:(rest.isEmpty&&(aek o.after dn&&y9 rs)) with
                  |false=>rw[hq] at hrun;cases hrun
                  |true=>
                   rw[hq] at hrun;simp only[Bool.not_true,Bool.and_false,cond_false] at hrun;split at hrun
                   ·cases hrun
                   ·rename_i e1 he1
                    simp only[Av] at hq;obtain ⟨q1,q2,q3⟩:=hq;obtain rfl:rest= []:=List.isEmpty_iff.1 q1;exact .inr ⟨[],o,[],A,e1,rfl,rfl,hw,⟨ih,good,by simpa using he1⟩,fun x hx=>List.all_eq_true.1 q2 x hx,fun j e' h=>by simp at h,q3,hrun⟩
                 |false=>
                  simp only[BF,cond_false] at hrun;split at hrun
                  ·cases hrun
                  ·rename_i e1 he1
                   exact .inr ⟨A,Wk0.refl A,.inr (.inr ⟨A,e1,Wk0.refl A,hw,⟨ih,good,he1⟩,hrun⟩)⟩
                |some e=>
                 rw[he] at hrun;dsimp only at hrun;cases draw with
                 |true=>
                  dsimp only[cond] at hrun;cases hok:jm o.after e dn with
                  |false=>rw[hok] at hrun;cases hrun
                  |true=>
                   rw[hok] at hrun;dsimp only at hrun;rcases IH _ _ hrun with ⟨es,A',h2,h3,h4⟩|hp
                   ·dsimp only at h2 h3 h4
                    rw[AS.app_ctr] at h3 h4;exact .inl ⟨some e::es,A',⟨hw,⟨ih,good,he⟩,fun _=>OkS.of hok,h2⟩,h3,by rw[hlen];exact h4⟩
                   ·exact .inr (RegPanD.cons hw ⟨ih,good,he⟩ (OkS.of hok) hp)
                 |false=>
                  dsimp only[cond] at hrun;split at hrun
                  ·rcases IH _ _ hrun with ⟨A',h2,h3,h4⟩|hp
                   ·dsimp only at h2 h3 h4
                    rw[AS.app_ctr] at h3 h4;exact .inl ⟨A',⟨A,Wk0.refl A,.inr ⟨A,e,Wk0.refl A,hw,⟨ih,good,he⟩,h2⟩⟩,h3,by rw[hlen];exact h4⟩
                   ·exact .inr ⟨A,Wk0.refl A,.inr (.inl ⟨A,e,Wk0.refl A,hw,⟨ih,good,he⟩,hp⟩)⟩
                  ·split at hrun
                   ·cases hrun
                   ·rename_i e1 he1
                    rcases IH _ _ hrun with ⟨A',h2,h3,h4⟩|hp
                    ·dsimp only at h2 h3 h4
                     rw[AS.app_ctr] at h3 h4;exact .inl ⟨A',⟨A,Wk0.refl A,.inr ⟨A.frz (wN (aQ A.hp) e.wr),e1,⟨rfl,fun C U a w r=>r.frz _⟩,hw,⟨ih,good,he1⟩,h2⟩⟩,h3,by rw[hlen];exact h4⟩
                    ·exact .inr ⟨A,Wk0.refl A,.inr (.inl ⟨A.frz (wN (aQ A.hp) e.wr),e1,⟨rfl,fun C U a w r=>r.frz _⟩,hw,⟨ih,good,he1⟩,hp⟩)⟩
    |_=>cases hrg
  |true=>
   refine Sg hrg ?_;intro C todo a w b cs fn hit hn ht hctr hR hfn hrs hkind
   have next: ∀(todo':List Item)(ctodo':List AItem)(A':AS)(a':Act)(w':World),sv P N {todo:=ctodo',A:=A',rs:=rs,m:=mm} t→uE P N C.n todo' ctodo'→0<A'.ctr→Rel C (fun g=>g<A'.ctr) A'.fs a' w'→
     Steps P (lone (b.at a todo) cs w) (lone (b.at a' todo') cs w')→
     ∃v w' fr S1 β1,RetC C mm w' v (unR t) S1 β1∧Steps P (lone (b.at a todo) cs w) (lone fr cs w')∧fr.fn=b.fn∧fr.leaving P w' (gW t.r v):=by
    intro todo' ctodo' A' a' w' hr hit' hctr' hR' hst;obtain ⟨v,w2,fr,S1,β1,k1,k2,k3,k4⟩:=hr C todo' a' w' b cs fn hit' hn ht hctr' hR' hfn hrs hkind;exact ⟨v,w2,fr,S1,β1,k1,hst.trans k2,k3,k4⟩
   have ending: ∀(fr:Frame),fr.mode= .returning→fr.defers=a.defers→fr.tmps=a.tmps→fr.kind=b.kind→fr.fn=b.fn→step P (lone (b.at a todo) cs w)= .next (lone fr cs w)→fg A (fu rs) mm=some t→
     ∃v w' fr S1 β1,RetC C mm w' v (unR t) S1 β1∧Steps P (lone (b.at a todo) cs w) (lone fr cs w')∧fr.fn=b.fn∧fr.leaving P w' (gW t.r v):=by
    intro fr h1 h2 h3 h4 h5 h6 hro;obtain ⟨S,β,used,hRC⟩:=hR;cases hav:ig A (fu rs) with
    |none=>unfold fg at hro;rw[hav] at hro;cases hro
    |some av=>
     have hnp:dx t.r=none:=by
      obtain ⟨v,r1,r2⟩:=ky (P:=P) hRC hrs.1 hav;obtain ⟨S1,β1,hret⟩:=mR hRC.hi hav r2 hro;exact hret.np
     rw[xY hnp]
     have hl:Leaves P fn a.tmps (fun e w'=> ∃v S1 β1,e= .returned v∧RetC C mm w' v t S1 β1) C.dfr .returning w:=by
      have h0:=hrs.2;split at h0
      ·exact h0.ret _ _ _ fun os=>by
                obtain ⟨v,r1,r2⟩:=ky (P:=P) (hRC.more os) hrs.1 hav;obtain ⟨S1,β1,hret⟩:=mR (hRC.more os).hi hav r2 hro;exact ⟨v,r1,v,S1,β1,rfl,hret⟩
      ·rw[h0]
       obtain ⟨v,r1,r2⟩:=ky (P:=P) hRC hrs.1 hav;obtain ⟨S1,β1,hret⟩:=mR hRC.hi hav r2 hro;exact ⟨v,r1,v,S1,β1,rfl,hret⟩
     obtain ⟨e',w',fr',⟨v,S1,β1,rfl,hret⟩,hst,q1,q2⟩:=leaves_steps C.dfr .returning w fr cs h1 (by rw[h2];exact hRC.defers) h3 (by rw[h5];exact hfn) (by rw[h4];exact hkind) hl
     exact ⟨v,w',fr',S1,β1,hret,.head h6 hst,q1.trans h5,by rw[sk hnp];exact q2⟩
   cases ctodo with
   |nil=>
    cases todo with
    |cons=>exact hit.elim
    |nil=>exact ending {b.at a [] with mode:=.returning} rfl rfl rfl rfl rfl step_end hrun
   |cons it ak=>
    cases todo with
    |nil=>exact hit.elim
    |cons i k=>
     obtain ⟨hi,hk⟩:=hit;cases it with
     |inReg=>cases i<;>simp[mH] at hi
     |inScope=>
      cases i<;>simp only[mH] at hi
      exact next k ak A a w (cA (IH _ _ hrun)) hk hctr hR (.one IC)
     |inBlock id=>
      cases i<;>simp only[mH] at hi
      exact next k ak A a w (cA (IH _ _ hrun)) hk hctr hR (.one step_inBlock)
     |inLoop c=>
      simp only[iW] at hrun;cases i<;>simp only[mH] at hi
      ·obtain ⟨c',rfl,hc⟩:=hi
       refine next (.code c':: .inLoop c'::k) (.code c:: .inLoop c::ak) A.nub a w (cA (IH _ _ hrun)) ⟨hc,hc,hk⟩ hctr ?_ (.one step_loop)
       rw[AS.nub_fs];exact hR
      ·rename_i c'
       refine next (.code c':: .inLoop c'::k) (.code c:: .inLoop c::ak) A.nub a w (cA (IH _ _ hrun)) ⟨hi,hi,hk⟩ hctr ?_ (.one step_inLoop)
       rw[AS.nub_fs];exact hR
     |code ac=>
      cases i<;>simp only[mH] at hi
      rename_i c;cases c with
      |skip=>
       obtain rfl:ACode.skip=ac:=by simpa[bZ] using hi
       exact next k ak A a w (cA (IH _ _ hrun)) hk hctr hR (.one step_skip)
      |label lb=>
       obtain rfl:ACode.skip=ac:=by simpa[bZ] using hi
       exact next k ak A a w (cA (IH _ _ hrun)) hk hctr hR (.one step_label)
      |ret=>
       obtain rfl:ACode.ret=ac:=by simpa[bZ] using hi
       exact ending {b.at a (.code .ret::k) with mode:=.returning} rfl rfl rfl rfl rfl step_ret hrun
      |seq x y=>
       simp only[bZ] at hi;split at hi
       ·rename_i x' y' h1 h2
        obtain rfl:=Ai hi;exact next (.code x:: .code y::k) (.code x':: .code y'::ak) A a w (cA (IH _ _ hrun)) ⟨h1,h2,hk⟩ hctr hR (.one step_seq)
       ·cases hi
      |cond x y z=>
       simp only[bZ] at hi;split at hi
       ·rename_i x' y' z' h0 h1 h2
        obtain rfl:=Ai hi;simp only[iW] at hrun;split at hrun
        ·rename_i tt hev
         obtain ⟨S,β,used,hRC⟩:=hR;have hv:=ux hRC hn x x' h0;rw[Aa,hev] at hv;have hstep:=step_cond (P:=P) (b:=b) (a:=a) (k:=k) (cs:=cs) (w:=w) (c:=x) (x:=y) (y:=z) hv.bool_inv;refine next (.code (if tt=true then y else z)::k) (.code (bif tt then y' else z')::ak) A a w (cA (IH _ _ hrun)) ⟨?_,hk⟩ hctr ⟨S,β,used,hRC⟩ (.one hstep)
         cases tt
         ·exact h2
         ·exact h1
        ·cases hrun
       ·cases hi
      |block id x=>
       simp only[bZ] at hi;obtain ⟨x',h1,rfl⟩:=map_some hi;exact next (.code x:: .inBlock id::k) (.code x':: .inBlock id::ak) A a w (cA (IH _ _ hrun)) ⟨h1,rfl,hk⟩ hctr hR (.one step_block)
      |loop x=>
       simp only[bZ] at hi;obtain ⟨x',h1,rfl⟩:=map_some hi;exact next (.code (.loop x)::k) (.inLoop x'::ak) A a w (cA (IH _ _ hrun)) ⟨⟨x,rfl,h1⟩,hk⟩ hctr hR (.refl _ _)
      |scope x=>
       simp only[bZ] at hi;obtain ⟨x',h1,rfl⟩:=map_some hi;exact next (.code x:: .inScope x::k) (.code x':: .inScope::ak) A a w (cA (IH _ _ hrun)) ⟨h1,trivial,hk⟩ hctr hR (.one Qr)
      |exit id=>
       obtain rfl:ACode.exit id=ac:=by simpa[bZ] using hi
       simp only[iW] at hrun;split at hrun
       ·rename_i k' hex
        obtain ⟨k2,e1,e2⟩:=Dx hk hex;exact next k2 k' A a w (cA (IH _ _ hrun)) e2 hctr hR (.one (step_exit e1))
       ·cases hrun
      |region id rops draw=>
       simp only[bZ] at hi;cases hl:fa P N C.n rops 0 rops.toList with
       |none=>rw[hl] at hi;cases hi
       | some l =>
                rw[hl] at hi;dsimp only at hi;split at hi
                ·rename_i hreg
                 obtain rfl:=Ai hi;simp only[iW] at hrun;have hc0:0<A.ctr:=hctr;have hsz:(iw draw (bL [] l)).length=rops.size:=by rw[jO,(fH hl).1];simp
                 have hpan:RegPan G (fK P N) rs mm t (iw draw (bL [] l)) 0 A→draw=false→
                   ∃v w' fr S1 β1,RetC C mm w' v (unR t) S1 β1∧Steps P (lone (b.at a (.code (.region id rops draw)::k)) cs w) (lone fr cs w')∧fr.fn=b.fn∧fr.leaving P w' (gW t.r v):=by
                  rintro hp rfl
                  obtain ⟨e,a',w',⟨v,x,A1,S,β,used,U,rfl,hR1,hv1,hend⟩,harr⟩:=Ui (C:=C) hG hn ht (id:=id) hl rfl hp hctr hR b k cs;obtain ⟨todo1,hst⟩:=harr;obtain ⟨v',w'',fr',S1,β1,k1,k2,k3,k4⟩:=aeP (cs:=cs) hR1 hv1 hend hrs {b.at a' todo1 with mode:=.panicking [{v:=v,recovered:=false}]} rfl rfl rfl hkind hfn
                  exact ⟨v',w'',fr',S1,β1,k1,hst.trans k2,k3,k4⟩
                 have key:(∃v w' fr S1 β1,RetC C mm w' v (unR t) S1 β1∧Steps P (lone (b.at a (.code (.region id rops draw)::k)) cs w) (lone fr cs w')∧fr.fn=b.fn∧fr.leaving P w' (gW t.r v))∨ ∃(A':AS),sv P N {todo:=ak,A:=({tm:=A'.tm,hp:=A'.hp,ctr:=A.ctr+(0+(iw draw (bL [] l)).length)}:AS),rs:=rs,m:=mm} t∧
                   (Code.region id rops draw).wp P (fun e a' w'=>e= .normal∧Rel C (e7 A.ctr fun j=>decide (j<rops.size)) A'.fs a' w') a w:=by
                  cases draw with
                  |true=>
                   rcases IH _ _ hrun with ⟨es,A',x2,x3,x4⟩|hp
                   rotate_left
                   ·left
                    obtain ⟨e,a',w',⟨v,x,A1,F',S,β,used,U,rfl,hR1,hv1,hnr,hend⟩,harr⟩:=Qy hG hm hn ht (id:=id) hl (hreg rfl) rfl hp hctr hR b k cs;obtain ⟨todo1,hst⟩:=harr;obtain ⟨v',S1,β1,k1,k4⟩:=abp hR1 hv1 hnr hend hrs {b.at a' todo1 with mode:=.panicking [{v:=v,recovered:=false}]} rfl rfl hfn
                    exact ⟨v',w',_,S1,β1,k1,hst,rfl,k4⟩
                   exact .inr ⟨A',x4,IQ hG hm hn ht (id:=id) hl (hreg rfl) rfl x2 hctr hR⟩
                  |false=>
                   rcases IH _ _ hrun with ⟨A',x2,x3,x4⟩|hp
                   ·exact .inr ⟨A',x4,IP hG hn ht (id:=id) hl rfl x2 hctr hR⟩
                   ·exact .inl (hpan hp rfl)
                 rcases key with key|⟨A',x4,hwp⟩
                 ·exact key
                 obtain ⟨e,a',w',⟨rfl,hR'⟩,harr⟩:=hwp b k cs;refine next k ak _ a' w' x4 hk (B6 hc0 (Nat.le_add_right _ _)) ?_ harr
                 refine hR'.wide fun g hg=>?_
                 dsimp only;rcases hg with hg|⟨j,hj,rfl⟩
                 ·omega
                 ·have:j<rops.size:=by simpa using hj
                  omega
                ·cases hi
      |_=>simp[bZ] at hi
theorem zE (hG:GOk P N G)(hm:P.follows .mixedOrders=true){f:Nat}{args:List AV}{bs:List Blk}{t:Ret}(h:ah G f args bs t):fq P N f args bs t:=by
 unfold ah at h;cases hf:G f with
 |none=>rw[hf] at h;exact h.elim
 |code F=>
  rw[hf] at h;obtain ⟨h1,h2⟩:=h;exact Cy hG hf h1 (cA (aas hG hm h2))
 |prim raw p=>
  rw[hf] at h;have:=hG f;rw[hf] at this;exact this.2 _ _ _ h
end
end Go.AM
namespace Go.AM
section
variable {G:Nat→Fun}
open Classical in
end
end Go.AM
namespace Go.AM
section
variable {G:Nat→Fun}
theorem eO {c c':Cfg}{t:Ret}(hs: ∀ih:Cfg→Option Ret,iW G ih c=ih c')(h:Ev G c' t):Ev G c t:=by
 classical
 refine .step (fun x=>if x=c' then some t else none) (fun x t' hx=>?_) ((hs _).trans (Ad rfl))
 split at hx
 ·rename_i e;subst e;obtain rfl:=Ai hx;exact h
 ·cases hx
theorem z8 {k:List AItem}{A:AS}{rs:List RVar}{m:Nat}{t:Ret}(h:fg A (fu rs) m=some t):Ev G ⟨.code .ret::k,A,rs,m⟩ t:=.step (fun _=>none) (fun _ _ h=>by cases h) h
theorem aat {A:AS}{rs:List RVar}{m:Nat}{t:Ret}(h:fg A (fu rs) m=some t):Ev G ⟨[],A,rs,m⟩ t:=.step (fun _=>none) (fun _ _ h=>by cases h) h
theorem afm {x:Opd}{a b:ACode}{k:List AItem}{A:AS}{rs:List RVar}{m:Nat}{t:Ret}(c:Bool)(hx:evo A.tm x= .bool c)
  (h1:c=true→Ev G ⟨.code a::k,A,rs,m⟩ t) (h2:c=false→Ev G ⟨.code b::k,A,rs,m⟩ t):Ev G ⟨.code (.cond x a b)::k,A,rs,m⟩ t:=by
 refine eO (c':=⟨.code (bif c then a else b)::k,A,rs,m⟩) (fun ih=>by simp only[iW,hx]) ?_
 cases c with
 |true=>exact h1 rfl
 |false=>exact h2 rfl
theorem afh {b:ACode}{k:List AItem}{A:AS}{rs:List RVar}{m:Nat}{t:Ret}(h:Ev G ⟨.code b:: .inLoop b::k,A.nub,rs,m⟩ t):Ev G ⟨.inLoop b::k,A,rs,m⟩ t:=eO (fun _=>rfl) h
theorem aap {i:Nat}{dn:List DnE}{draw:Bool}{k:List AItem}{tm:List (Nat×AV)}{hp:aw}{ctr:Nat}{rs:List RVar}{m:Nat}{t:Ret}(h:Ev G ⟨k,⟨tm,hp,ctr+i⟩,rs,m⟩ t):
  Ev G ⟨.inReg [] i dn draw::k,⟨tm,hp,ctr⟩,rs,m⟩ t:=eO (fun _=>rfl) h
def OpE (G:Nat→Fun)(o:AOper)(g:Nat)(A:AS)(e:Eff):Prop:= ∃ih:Cfg→Option Ret,(∀c t,ih c=some t→Ev G c t)∧iC G ih o g A=some e
theorem OpE.op {d:Option Nat}{op:AOp}{gd:Option (Nat×Bool)}{af:List Nat}{g:Nat}{A:AS}{e:Eff}(hop: ∀f args,op≠ .call f args)(h:aH op g (tF (d.getD 0) 0) (op.opds.map (evo A.tm)) (aQ A.hp)=some e):OpE G ⟨d,op,gd,af⟩ g A e:=by
 refine ⟨fun _=>none,fun _ _ h=>(by cases h),?_⟩
 unfold iC;cases op with
 |call f args=>exact absurd rfl (hop f args)
 |_=>exact h
theorem OpE.call {d:Option Nat}{fo:Opd}{args:List Opd}{gd:Option (Nat×Bool)}{af:List Nat}{g:Nat}{A:AS}{e:Eff}{f:Nat}{cap vals:List AV}{c:CIn}{t:Ret}
  (hv:(fo::args).map (evo A.tm)= .fn f cap::vals) (hc:eY (aQ A.hp) (G (bW f)).raw (bif isB f then cap++vals else vals++cap)=some c) (hG:ah G (bW f) c.args c.bs t) (ho:cd (aQ A.hp) c g (d.getD 0) t=some e):
  OpE G ⟨d,.call fo args,gd,af⟩ g A e:=by
 unfold ah at hG;cases hf:G (bW f) with
 |none=>rw[hf] at hG;exact hG.elim
 |prim r p=>
  rw[hf] at hG;refine ⟨fun _=>none,fun _ _ h=>(by cases h),?_⟩
  show oe G (fun _=>none) _ _ _ _=_
  unfold oe;rw[hv];dsimp only;rw[hc];simp only[hf,hG,ho]
 |code F=>
  rw[hf] at hG;obtain ⟨h1,h2⟩:=hG
  classical
  refine ⟨fun x=>if x=F.start c.args c.bs then some t else none,fun x t' hx=>?_,?_⟩
  ·dsimp only at hx
   split at hx
   ·rename_i e;subst e;obtain rfl:=Ai hx;exact h2
   ·cases hx
  show oe G (fun x=>if x=F.start c.args c.bs then some t else none) _ _ _ _=_
  unfold oe;rw[hv];dsimp only;rw[hc];simp only[hf,h1,ho,if_true]
theorem qG {hg:Nat→Option (Nat×Blk)}{raw:Bool}{args:List AV}(h:aU args=true):eY hg raw args=some {args:=args,bs:=[],D:=[],fz:=[]}:=by
 unfold eY;rw[gV _ _ h]
theorem RQ {hg:Nat→Option (Nat×Blk)}{args:List AV}{g dst:Nat}{r:AV}(h:r.dry=true):cd hg {args:=args,bs:=[],D:=[],fz:=[]} g dst {r:=r,bs:=[]}=some {res:=r}:=by
 unfold cd;simp[h]
theorem agS {o:AOper}{rest:List AOper}{i:Nat}{dn:List DnE}{k:List AItem}{A:AS}{rs:List RVar}{m:Nat}{t:Ret}{e:Eff}
  (hw:cj A.tm o.guard=some true) (he:OpE G o (A.ctr+i) A e)
  (h:Ev G ⟨.inReg rest (i+1) dn false::k,A.app o.dst e,rs,m⟩ t):Ev G ⟨.inReg (o::rest) i dn false::k,A,rs,m⟩ t:=by
 obtain ⟨ih,hih,hn⟩:=he;exact .opS ih hih hw hn h
theorem agU {o:AOper}{rest:List AOper}{i:Nat}{dn:List DnE}{k:List AItem}{A:AS}{rs:List RVar}{m:Nat}{t:Ret}{e:Eff}
  (hw:cj A.tm o.guard=some true) (he:OpE G o (A.ctr+i) A e) (hg:OkS o.after e dn)
  (h:Ev G ⟨.inReg rest (i+1) (lg i e dn) true::k,A.app o.dst e,rs,m⟩ t):Ev G ⟨.inReg (o::rest) i dn true::k,A,rs,m⟩ t:=by
 obtain ⟨ih,hih,hn⟩:=he;exact .opD ih hih hw hn hg h
theorem agT {o:AOper}{rest:List AOper}{i:Nat}{dn:List DnE}{draw:Bool}{k:List AItem}{A:AS}{rs:List RVar}{m:Nat}{t:Ret}
  (hw:cj A.tm o.guard=some false)
  (h:Ev G ⟨.inReg rest (i+1) dn draw::k,A.put o.dst gR,rs,m⟩ t):Ev G ⟨.inReg (o::rest) i dn draw::k,A,rs,m⟩ t:=by
 refine eO (c':=⟨.inReg rest (i+1) dn draw::k,A.put o.dst gR,rs,m⟩) (fun ih=>by simp only[iW,hw]) h
theorem kW {f:Nat}{F:AFunc}{args:List AV}{bs:List Blk}{t:Ret}(hf:G f= .code F)(hl:args.length=F.np)(h:Ev G ⟨[.code F.body],⟨tms 0 args,jK 0 bs,1⟩,F.results,bs.length⟩ t):ah G f args bs t:=by
 unfold ah;rw[hf];exact ⟨hl,h⟩
end
end Go.AM
namespace Go.AM
structure AS.Same (A B:AS):Prop where
 tm:bJ A.tm=bJ B.tm
 hp:aQ A.hp=aQ B.hp
 ctr:A.ctr=B.ctr
theorem AS.Same.refl (A:AS):A.Same A:=⟨rfl,rfl,rfl⟩
theorem AS.Same.put {A B:AS}(h:A.Same B)(d:Option Nat)(v:AV):(A.put d v).Same (B.put d v):=by
 cases d with
 |none=>exact h
 |some d=>exact ⟨by funext t;simp only[AS.put,bJ];rw[h.tm],h.hp,h.ctr⟩
theorem qX {a b:aw}(h:aQ a=aQ b)(l:aw):aQ (l++a)=aQ (l++b):=by
 rw[gf,gf,h]
theorem AS.Same.app {A B:AS}(h:A.Same B)(d:Option Nat)(e:Eff):(A.app d e).Same (B.app d e):=by
 have h1:=h.put d e.res;refine ⟨h1.tm,?_,h1.ctr⟩;show aQ (e.wr++A.hp)=aQ (e.wr++B.hp)
 exact qX h.hp _
theorem AS.Same.frz {A B:AS}(h:A.Same B)(D:List Nat):(A.frz D).Same (B.frz D):=by
 refine ⟨?_,?_,h.ctr⟩
 ·funext t
  show bJ (iy _ A.tm) t=bJ (iy _ B.tm) t
  rw[jg,jg,h.tm,h.hp]
 ·show aQ (cW D++renH _ A.hp)=aQ (cW D++renH _ B.hp)
  refine qX ?_ _
  funext k
  rw[jq,jq,h.hp]
theorem Wk0.of_same {A B:AS}(h:A.Same B):Wk0 A B:=⟨h.ctr.symm,fun C U a w r=>by
 have:A.fs=B.fs:=by unfold AS.fs;rw[h.tm,h.hp]
 rw[←this];exact r⟩
theorem Wk.of0 {A B:AS}(h:Wk0 A B):Wk A B:=fun C a w _ r=>by
 have:=h.2 C _ a w r;rw[h.1];exact this
def ob:List AItem→Bool
 | .inReg _ _ _ d::_=> !d
 |_=>true
theorem z7 {G:Nat→Fun}{todo:List AItem}{A B:AS}{rs:List RVar}{m:Nat}{t:Ret}(hd:ob todo=true)(h:Wk0 A B)(k:Ev G ⟨todo,B,rs,m⟩ t):Ev G ⟨todo,A,rs,m⟩ t:=by
 cases todo with
 |nil=>exact .weak rfl (Nat.le_of_eq h.1.symm) (.of0 h) k
 |cons it r=>
  cases it with
  |inReg rest i dn d=>
   cases d with
   |true=>cases hd
   |false=>exact .weakR h k
  |_=>exact .weak rfl (Nat.le_of_eq h.1.symm) (.of0 h) k
def zq:List Nat→List (Nat×AV)→List (Nat×AV)
 | [],_=>[]
 |t::L,tm=>(t,bJ tm t)::zq L tm
def zr:List Nat→aw→aw
 | [],_=>[]
 |k::L,hp=>(k,aQ hp k)::zr L hp
theorem yc (tm:List (Nat×AV)): ∀L,bJ (zq L tm++tm)=bJ tm
 | []=>rfl
 |t::L=>by
  funext u
  simp only[zq,BY,bJ,yc tm L];split
  ·rename_i e;rw[e]
  ·rfl
theorem zu (hp:aw): ∀L,aQ (zr L hp++hp)=aQ hp
 | []=>rfl
 |t::L=>by
  funext u
  simp only[zr,BY,aQ,zu hp L];split
  ·rename_i e;rw[e]
  ·rfl
theorem ab {G:Nat→Fun}{todo:List AItem}{tm:List (Nat×AV)}{hp:aw}{ctr:Nat}{rs:List RVar}{m:Nat}{t:Ret}(L K:List Nat)
  (h:Ev G ⟨todo,⟨zq L tm++tm,zr K hp++hp,ctr⟩,rs,m⟩ t) (hd:ob todo=true:=by rfl):Ev G ⟨todo,⟨tm,hp,ctr⟩,rs,m⟩ t:=
 z7 (B:=⟨zq L tm++tm,zr K hp++hp,ctr⟩) hd (.of_same ⟨(yc tm L).symm,(zu hp K).symm,rfl⟩) h
theorem adB {G:Nat→Fun}{b:ACode}{k:List AItem}{A:AS}{rs:List RVar}{m:Nat}{t:Ret}(h:Ev G ⟨.code b:: .inLoop b::k,A,rs,m⟩ t):Ev G ⟨.inLoop b::k,A,rs,m⟩ t:=by
 refine afh ?_;have hs:A.nub.Same A:=⟨congrArg FSt.tm (AS.nub_fs A),congrArg FSt.hp (AS.nub_fs A),rfl⟩;exact z7 (B:=A) rfl (.of_same hs) h
end Go.AM
namespace Go.AM
def ma:List (Nat×AV)→Nat→(AV→Prop)→Prop
 | [],_,k=>k .any
 |(t,v)::r,u,k=>bif Nat.beq t u then k v else ma r u k
theorem gZ {k:AV→Prop}{u:Nat}: ∀{l:List (Nat×AV)},ma l u k↔k (bJ l u)
 | []=>Iff.rfl
 |(t,v)::r=>by
  simp only[ma,bJ]
  by_cases h:t=u
  ·subst h;simp
  ·have:Nat.beq t u=false:=by
    cases hb:Nat.beq t u with
    |false=>rfl
    |true=>exact absurd (Nat.eq_of_beq_eq_true hb) h
   rw[this,Ac h];exact gZ
def cU:aw→Nat→(Option (Nat×Blk)→Prop)→Prop
 | [],_,k=>k none
 |(t,v)::r,u,k=>bif Nat.beq t u then k v else cU r u k
theorem bG {k:Option (Nat×Blk)→Prop}{u:Nat}: ∀{l:aw},cU l u k↔k (aQ l u)
 | []=>Iff.rfl
 |(t,v)::r=>by
  simp only[cU,aQ]
  by_cases h:t=u
  ·subst h;simp
  ·have:Nat.beq t u=false:=by
    cases hb:Nat.beq t u with
    |false=>rfl
    |true=>exact absurd (Nat.eq_of_beq_eq_true hb) h
   rw[this,Ac h];exact bG
def Ut (tm:List (Nat×AV)):Opd→(AV→Prop)→Prop
 | .t n,k=>ma tm n k
 | .c v,k=>k v
theorem LR {tm:List (Nat×AV)}{k:AV→Prop}{x:Opd}:Ut tm x k↔k (evo tm x):=by
 cases x with
 |t n=>exact gZ
 |c v=>exact Iff.rfl
def uW (tm:List (Nat×AV)):List Opd→(List AV→Prop)→Prop
 | [],k=>k []
 |x::r,k=>Ut tm x fun v=>uW tm r fun vs=>k (v::vs)
theorem tp {tm:List (Nat×AV)}: ∀{l:List Opd}{k:List AV→Prop},uW tm l k↔k (l.map (evo tm))
 | [],k=>Iff.rfl
 |x::r,k=>by simp only[uW,LR,Ao,tp]
def sm:Nat→List AV→(List AV→Prop)→Prop
 |0,l,k=>k l
 |_+1,[],k=>k []
 |n+1,_::r,k=>sm n r k
theorem nb: ∀{n:Nat}{l:List AV}{k:List AV→Prop},sm n l k↔k (l.drop n)
 |0,l,k=>Iff.rfl
 |n+1,[],k=>Iff.rfl
 |n+1,_::r,k=>by simp only[sm,List.drop_succ_cons];exact nb
def JM:Nat→List AV→(List AV→Prop)→Prop
 |0,_,k=>k []
 |_+1,[],_=>False
 |n+1,a::r,k=>JM n r fun l=>k (a::l)
theorem J5: ∀{n:Nat}{l:List AV}{k:List AV→Prop},JM n l k→n≤l.length∧k (l.take n)
 |0,l,k,h=>⟨Nat.zero_le _,by simpa[JM] using h⟩
 |n+1,[],k,h=>h.elim
 |n+1,a::r,k,h=>by
  obtain ⟨h1,h2⟩:=J5 (n:=n) (l:=r) h;exact ⟨by simp;omega,by simpa using h2⟩
def yP (sz:Option Nat)(cs:List AV)(k:AV→Prop):Prop:=
 match sz with
 |none=>match cs with
  |c::_=>k c
  | []=>False
 |some n=>JM n cs fun l=>k (.agg l)
theorem wx {sz:Option Nat}{cs:List AV}{k:AV→Prop}(h:yP sz cs k): ∃v,d9 sz cs=some v∧k v:=by
 unfold yP at h;unfold d9;cases sz with
 |none=>
  cases cs with
  |nil=>exact h.elim
  |cons c r=>exact ⟨c,rfl,h⟩
 |some n=>
  obtain ⟨h1,h2⟩:=J5 h;exact ⟨_,by dsimp only;rw[Ad h1],h2⟩
def th:Nat→List AV→List AV→(List AV→Prop)→Prop
 |0,[],l,k=>k l
 |0,c::cs,_::l,k=>th 0 cs l fun r=>k (c::r)
 |n+1,cs,a::l,k=>th n cs l fun r=>k (a::r)
 |_,_,_,_=>False
theorem BP: ∀{n:Nat}{cs l:List AV}{k:List AV→Prop},th n cs l k→n+cs.length≤l.length∧k (cO l n cs)
 |0,[],l,k,h=>⟨by simp,by simpa[th,cO] using h⟩
 |0,c::cs,[],k,h=>by simp[th] at h
 |0,c::cs,a::l,k,h=>by
  obtain ⟨h1,h2⟩:=BP (n:=0) (cs:=cs) (l:=l) (k:=fun r=>k (c::r)) h
  refine ⟨by simp at h1⊢;omega,?_⟩
  simpa[cO] using h2
 |n+1,cs,[],k,h=>by cases cs<;>simp[th] at h
 |n+1,cs,a::l,k,h=>by
  have h':th n cs l fun r=>k (a::r):=by cases cs<;>exact h
  obtain ⟨h1,h2⟩:=BP h';refine ⟨by simp;omega,?_⟩
  have:cO (a::l) (n+1) cs=a::cO l n cs:=by
   simp[cO,show n+1+cs.length=n+cs.length+1 from by omega]
  rw[this];exact h2
def Vd:Nat→List AV→(AV→Prop)→Prop
 |0,[],_=>False
 |_+1,[],_=>False
 |0,a::_,k=>k a
 |n+1,_::r,k=>Vd n r k
theorem SN: ∀{n:Nat}{l:List AV}{k:AV→Prop},Vd n l k→n<l.length∧k (l.getD n .any)
 |0,[],_,h=>h.elim
 |n+1,[],_,h=>h.elim
 |0,a::r,k,h=>⟨by simp,by simpa[Vd] using h⟩
 |n+1,a::r,k,h=>by
  obtain ⟨h1,h2⟩:=SN (n:=n) (l:=r) h;exact ⟨by simp;omega,by simpa using h2⟩
def zL:List AV→(List AV→Prop)→Prop
 | [],k=>k []
 |a::r,k=>zL r fun l=>k (a::l)
theorem zK: ∀{l:List AV}{k:List AV→Prop},zL l k↔k l
 | [],k=>Iff.rfl
 |a::r,k=>by simp only[zL];exact zK
def rc (v:AV)(k:List AV→Prop):Prop:=
 match v with
 | .agg cs=>k cs
 |a=>bif a.flat then k [a] else False
theorem qj {v:AV}{k:List AV→Prop}(h:rc v k): ∃cs,cQ v=some cs∧k cs:=by
 unfold rc at h;unfold cQ;split at h
 ·exact ⟨_,rfl,h⟩
 ·rename_i hne
  split
  ·rename_i cs;exact absurd rfl (hne cs)
  ·cases hf:v.flat with
   |true=>rw[hf] at h;exact ⟨_,rfl,h⟩
   |false=>rw[hf] at h;exact h.elim
structure condC (c:Bool)(p q:Prop):Prop where
 yes:c=true→p
 no:c=false→q
theorem aeo {p q:Prop}(h:p):condC true p q:=⟨fun _=>h,fun h=>(by cases h)⟩
theorem aeq {p q:Prop}(h:q):condC false p q:=⟨fun h=>(by cases h),fun _=>h⟩
def atC (hp:aw)(a:AV)(k:List AV→List Nat→Prop):Prop:=
 match a with
 | .rp cs=>k cs []
 | .ref key g o=>cU hp key fun x=>match x with
  |some (g',.cells cs)=>g'=g∧sm o cs fun l=>k l [key]
  |_=>False
 | .er key g i o=>cU hp key fun x=>match x with
  |some (g',.vec _ es)=>g'=g∧ ∃cs,es[i]? =some cs∧sm o cs fun l=>k l [key]
  |_=>False
 |_=>False
theorem aaG {hp:aw}{a:AV}{k:List AV→List Nat→Prop}(h:atC hp a k): ∃cs rd,cI (aQ hp) a=some (cs,rd)∧k cs rd:=by
 unfold atC at h;split at h
 ·exact ⟨_,_,rfl,h⟩
 ·rw[bG] at h
  split at h
  ·rename_i g' cs hx
   obtain ⟨rfl,h⟩:=h;rw[nb] at h;exact ⟨_,_,by simp only[cI,hx,if_true],h⟩
  ·exact h.elim
 ·rw[bG] at h
  split at h
  ·rename_i g' s es hx
   obtain ⟨rfl,cs,hc,h⟩:=h;rw[nb] at h;obtain ⟨hi,rfl⟩:=Az.1 hc;refine ⟨_,_,by simp only[cI,hx,if_true];rw[Ad hi],?_⟩
   rw[Aj,hc];exact h
  ·exact h.elim
 ·exact h.elim
inductive TakeC (n:Nat)(es:List (List AV))(k:List (List AV)→Prop):Prop
 |full (h:n=es.length) (hk:k es):TakeC n es k
 |part (h:n≤es.length) (hk:k (es.take n)):TakeC n es k
theorem TakeC.ok {n:Nat}{es:List (List AV)}{k:List (List AV)→Prop}(h:TakeC n es k):n≤es.length∧k (es.take n):=by
 cases h with
 |full h hk=>subst h;rw[List.take_length];exact ⟨Bd _,hk⟩
 |part h hk=>exact ⟨h,hk⟩
def aa8 (hp:aw)(s:Nat)(y:AV)(k:List (List AV)→List Nat→Prop):Prop:=
 match y with
 | .str l=>s=1∧k (byteCells l) []
 | .sl s' es=>s'=s∧k es []
 | .con (.slice none 0 0)=>k [] []
 | .vs key g n=>cU hp key fun z=>match z with
  |some (g',.vec s' es)=>g'=g∧s'=s∧TakeC n es fun l=>k l [key]
  |_=>False
 | .vw key g o n=>cU hp key fun z=>match z with
  |some (g',.vec s' es)=>g'=g∧s'=s∧Nat.ble (o+n) es.length=true∧k ((es.drop o).take n) [key]
  |_=>False
 |_=>False
theorem aeC {hp:aw}{s:Nat}{y:AV}{k:List (List AV)→List Nat→Prop}(h:aa8 hp s y k): ∃ys r,aH.appSrc (aQ hp) s y=some (ys,r)∧k ys r:=by
 unfold aa8 at h;unfold aH.appSrc;split at h
 ·obtain ⟨rfl,h⟩:=h;exact ⟨_,_,rfl,h⟩
 ·obtain ⟨rfl,h⟩:=h;exact ⟨_,_,by simp,h⟩
 ·exact ⟨_,_,rfl,h⟩
 ·rw[bG] at h
  split at h
  ·rename_i hx
   obtain ⟨rfl,rfl,h⟩:=h;obtain ⟨h1,h⟩:=h.ok;exact ⟨_,_,by simp only[hx];rw[Ad (by simp),Ad h1],h⟩
  ·exact h.elim
 ·rw[bG] at h
  split at h
  ·rename_i hx
   obtain ⟨rfl,rfl,h1,h⟩:=h;exact ⟨_,_,by simp only[hx];rw[Ad (by simp),Ad (Nat.le_of_ble_eq_true h1)],h⟩
  ·exact h.elim
 ·exact h.elim
def pC (v:AV)(y:Nat)(k:Nat→Prop):Prop:=
 match v with
 | .int _ i=>0≤i∧i≤y∧k i.toNat
 |_=>False
theorem jC {v:AV}{y:Nat}{k:Nat→Prop}(h:pC v y k): ∃i,bnd v y=some i∧k i:=by
 unfold pC at h;unfold bnd;split at h
 ·exact ⟨_,Ad ⟨h.1,h.2.1⟩,h.2.2⟩
 ·exact h.elim
def Uc (lo hi mx:Bool)(n:Nat)(bs:List AV)(k:Nat→Nat→Prop):Prop:=
 match lo,hi,mx,bs with
 |false,false,false,[]=>k 0 n
 |true,false,false,[a]=>pC a n fun l=>k l n
 |false,true,false,[b]=>pC b n fun h=>k 0 h
 |true,true,false,[a,b]=>pC b n fun h=>pC a h fun l=>k l h
 |false,true,true,[b,c]=>pC c n fun m=>pC b m fun h=>k 0 h
 |true,true,true,[a,b,c]=>pC c n fun m=>pC b m fun h=>pC a h fun l=>k l h
 |_,_,_,_=>False
theorem Sc {lo hi mx:Bool}{n:Nat}{bs:List AV}{k:Nat→Nat→Prop}(h:Uc lo hi mx n bs k): ∃a b,aH.slBounds lo hi mx n bs=some (a,b)∧k a b:=by
 unfold Uc at h;unfold aH.slBounds;split at h
 ·exact ⟨_,_,rfl,h⟩
 ·obtain ⟨i,h1,h2⟩:=jC h;exact ⟨_,_,by simp only[h1,Option.map_some],h2⟩
 ·obtain ⟨i,h1,h2⟩:=jC h;exact ⟨_,_,by simp only[h1,Option.map_some],h2⟩
 ·obtain ⟨i,h1,h2⟩:=jC h
  obtain ⟨j,h3,h4⟩:=jC h2;exact ⟨_,_,by simp only[h1,h3,Option.map_some,Option.bind_some],h4⟩
 ·obtain ⟨i,h1,h2⟩:=jC h
  obtain ⟨j,h3,h4⟩:=jC h2;exact ⟨_,_,by simp only[h1,h3,Option.map_some,Option.bind_some],h4⟩
 ·obtain ⟨i,h1,h2⟩:=jC h
  obtain ⟨j,h3,h4⟩:=jC h2;obtain ⟨l,h5,h6⟩:=jC h4;exact ⟨_,_,by simp only[h1,h3,h5,Option.map_some,Option.bind_some],h6⟩
 ·exact h.elim
def abQ (x:AV)(k:Nat→Prop):Prop:=
 match x with
 | .sl _ es=>k es.length
 | .con (.slice none 0 0)=>k 0
 | .vs _ _ n=>k n
 | .vw _ _ _ n=>k n
 |_=>False
theorem ae8 {x:AV}{k:Nat→Prop}(h:abQ x k): ∃n,kP x=some n∧k n:=by
 unfold abQ at h;split at h
 ·exact ⟨_,rfl,h⟩
 ·exact ⟨_,rfl,h⟩
 ·exact ⟨_,rfl,h⟩
 ·exact ⟨_,rfl,h⟩
 ·exact h.elim
inductive B2s (hp:aw)(x:AV)(k:List UInt8→List Nat→Prop):Prop
 |mk (es:List (List AV)) (r:List Nat) (l:List UInt8) (h1:cG (aQ hp) x=some (es,r)) (h2:aH.bytesOf es=some l) (h3:k l r):B2s hp x k
inductive BslC (hp:aw)(s:Nat)(z:List AV)(n:Nat)(ps:List Nat)(vs:List AV)(k:List (List AV)→List Nat→Prop):Prop
 |pure (h1:aU vs=true) (es:List (List AV)) (h2:ja s (eK n z) ps vs=some es) (hk:k es []):BslC hp s z n ps vs k
 |frz (D:List Nat) (hD:ce true vs=D) (hne:D≠ []) (es:List (List AV)) (h2:ja s (eK n z) ps (cP (iR (aQ hp) D) vs)=some es) (hk:k es D):BslC hp s z n ps vs k
def opD (op:AOp)(g key:Nat)(vals:List AV)(hp:aw)(k:Eff→Prop):Prop:= ∃e,aH op g key vals (aQ hp)=some e∧k e
def opC (op:AOp)(g key:Nat)(vals:List AV)(hp:aw)(k:Eff→Prop):Prop:=
 match op,vals with
 | .mv _,[x]=>k {res:=x}
 | .pick ..,[c,a,b]=>match c with
  | .bool t=>condC t (k {res:=a}) (k {res:=b})
  |_=>False
 | .box _,[x]=>rc x fun cs=>k {res:=.ref key g 0,wr:=[(key,some (g,.cells cs))]}
 | .alloc z,[]=>rc z fun cs=>k {res:=.ref key g 0,wr:=[(key,some (g,.cells cs))]}
 | .build z ps _,vs=> ∃cs,r7 z ps vs=some cs∧zL cs fun l=>k {res:=.agg l}
 | .load sz _,[a]=>atC hp a fun cs rd=>yP sz cs fun v=>k {res:=v,rd:=rd,sf:=s8 a cs sz}
 | .store sz o1 o2,[a,x]=>match a with
  | .ref key' g' o=>rc x fun cs=>bif Nat.beq cs.length sz then (cU hp key' fun y=>match y with
   |some (g'',.cells old)=>g''=g'∧th o cs old fun new=>k {res:=.any,wr:=[(key',some (g'',.cells new))],rd:=[key']}
   |_=>False) else False
  | .er key' g' i o=>rc x fun cs=>bif Nat.beq cs.length sz then (aU cs=true∧cU hp key' fun y=>match y with
   |some (g'',.vec s es)=>g''=g'∧ ∃old,es[i]? =some old∧Nat.ble (o+sz) s=true∧k {res:=.any,wr:=[(key',some (g'',.vec s (es.set i (cO old o cs))))],rd:=[key']}
   |_=>False) else False
  |_=>opD (.store sz o1 o2) g key [a,x] hp k
 | .fadr off _,[a]=>match a with
  | .ref key' g' o=>k {res:=.ref key' g' (o+off)}
  | .er key' g' i o=>k {res:=.er key' g' i (o+off)}
  | .rp cs=>sm off cs fun l=>k {res:=.rp l}
  |_=>False
 | .fval off sz _,[x]=>match x with
  | .agg cs=>sm off cs fun l=>yP sz l fun v=>k {res:=v}
  |_=>False
 | .iadr s o1 o2,[x,i]=>match x with
  | .sl s' es=>match i with
   | .int _ j=>s'=s∧0≤j∧ ∃cs,es[j.toNat]? =some cs∧k {res:=.rp cs}
   |_=>False
  | .vs key' g' n=>match i with
   | .int _ j=>cU hp key' fun y=>match y with
    |some (g'',.vec s' _)=>g''=g'∧s'=s∧0≤j∧j.toNat<n∧k {res:=.er key' g' j.toNat 0,rd:=[key']}
    |_=>False
   |_=>False
  | .vw key' g' o n=>match i with
   | .int _ j=>cU hp key' fun y=>match y with
    |some (g'',.vec s' _)=>g''=g'∧s'=s∧0≤j∧j.toNat<n∧k {res:=.er key' g' (o+j.toNat) 0,rd:=[key']}
    |_=>False
   |_=>False
  |_=>opD (.iadr s o1 o2) g key [x,i] hp k
 | .bin op _ _,[x,y]=> ∃v,bv op x y=some v∧k {res:=v}
 | .ext _ i,[x]=>match x with
  | .tup vs=>Vd i vs fun v=>k {res:=v}
  |_=>False
 | .len str o,[x]=>match x with
  | .sl _ es=>bif str then False else k {res:=.int .i64 es.length}
  | .vs _ _ n=>bif str then False else k {res:=.int .i64 n}
  | .vw _ _ _ n=>bif str then False else k {res:=.int .i64 n}
  | .str s=>bif str then k {res:=.int .i64 s.length} else False
  |_=>opD (.len str o) g key [x] hp k
 | .istr _ _,[x,i]=>match i,x with
  | .int _ j,.str l=>0≤j∧ ∃b,l[j.toNat]? =some b∧k {res:=.int .u8 (b:UInt8).toNat}
  |_,_=>False
 | .slstr _ lo hi,x::bs=>match x with
  | .str l=>Uc lo.isSome hi.isSome false l.length bs fun a b=>k {res:=.str ((l.drop a).take (b-a))}
  |_=>False
 | .app s bytes _ _,[x,y]=>aa8 hp s y fun ys r=>match x with
  | .con (.slice none 0 0)=>ng ys.length bytes=true∧k {res:=.vs key g ys.length,wr:=[(key,some (g,.vec s ys))],rd:=r}
  | .vs key' g' n=>cU hp key' fun z=>match z with
   |some (g'',.vec s' es)=>g''=g'∧s'=s∧TakeC n es fun l=>ng (n+ys.length) bytes=true∧k {res:=.vs key' g (n+ys.length),wr:=[(key',some (g,.vec s (l++ys)))],rd:=key'::r}
   |_=>False
  |_=>False
 | .mksl s bytes z _ _,[n,c]=>match n,c with
  | .int .i64 n,.int .i64 c=>0≤n∧n≤c∧z.length=s∧ng c.toNat bytes=true∧k {res:=.vs key g n.toNat,wr:=[(key,some (g,.vec s (eK n.toNat z)))]}
  |_,_=>False
 | .bsl s z n ps _,vs=>Nat.ble (n*s) 16777216=true∧z.length=s∧BslC hp s z n ps vs fun es D=>k {res:=.vs key g n,wr:=(key,some (g,.vec s es))::cW D,rd:=D}
 | .b2s _,[x]=>B2s hp x fun l r=>k {res:=.str l,rd:=r}
 | .slc s _ lo hi mx,x::bs=>abQ x fun n=>Uc lo.isSome hi.isSome mx.isSome n bs fun l h=>match x with
  | .sl s' es=>s'=s∧k {res:=.sl s ((es.drop l).take (h-l))}
  | .con (.slice none 0 0)=>k {res:=.sl s []}
  | .vs key' g' _=>cU hp key' fun y=>match y with
   |some (g'',.vec s' _)=>g''=g'∧s'=s∧((l=0∧mx.isSome=false∧k {res:=.vs key' g' h,rd:=[key']})∨(¬(l=0∧mx.isSome=false)∧k {res:=.vw key' g' l (h-l),rd:=[key']}))
   |_=>False
  | .vw key' g' o _=>cU hp key' fun y=>match y with
   |some (g'',.vec s' _)=>g''=g'∧s'=s∧k {res:=.vw key' g' (o+l) (h-l),rd:=[key']}
   |_=>False
  |_=>False
 | .mkmap,[]=>k {res:=.mp key g,wr:=[(key,some (g,.mp []))]}
 | .mlook st ks z _ _,[x,i]=>match x with
  | .mp k' g'=>cU hp k' fun y=>match y with
   |some (g'',.mp es)=>g''=g'∧jF st ks i es=true∧k {res:=cu st ks z i es,rd:=[k']}
   |_=>False
  |_=>False
 | .mset st ks _ _ _,[x,i,v]=>match x with
  | .mp k' g'=>cU hp k' fun y=>match y with
   |some (g'',.mp es)=>g''=g'∧i.pure=true∧v.pure=true∧jF st ks i es=true∧k {res:=.any,wr:=[(k',some (g'',.mp (dm st ks i v es)))],rd:=[k']}
   |_=>False
  |_=>False
 | .clr s z _,[x]=>match x with
  | .vs k' g' n=>cU hp k' fun y=>match y with
   |some (g'',.vec s' es)=>g''=g'∧s'=s∧z.length=s∧(0<n∧n=es.length)∧k {res:=.any,wr:=[(k',some (g'',.vec s (eK n z)))],rd:=[k']}
   |_=>False
  | .vw k' g' o n=>cU hp k' fun y=>match y with
   |some (g'',.vec s' es)=>g''=g'∧s'=s∧z.length=s∧(0<n∧o+n=es.length)∧k {res:=.any,wr:=[(k',some (g'',.vec s (es.take o++eK n z)))],rd:=[k']}
   |_=>False
  |x=>opD (.clr s z (.c .any)) g key [x] hp k
 |op,vs=>opD op g key vs hp k
theorem af1 {op:AOp}{g key:Nat}{vals:List AV}{hp:aw}{k:Eff→Prop}(h:opC op g key vals hp k): ∃e,aH op g key vals (aQ hp)=some e∧k e:=by
 unfold opC at h;split at h
 ·exact ⟨_,rfl,h⟩
 ·split at h
  ·rename_i t
   cases t with
   |true=>exact ⟨_,rfl,h.1 rfl⟩
   |false=>exact ⟨_,rfl,h.2 rfl⟩
  ·exact h.elim
 ·obtain ⟨cs,h1,h2⟩:=qj h
  exact ⟨_,by simp only[aH,h1,Option.map_some],h2⟩
 ·obtain ⟨cs,h1,h2⟩:=qj h
  exact ⟨_,by simp only[aH,h1,Option.map_some],h2⟩
 ·obtain ⟨cs,h1,h2⟩:=h
  rw[zK] at h2;exact ⟨_,by simp only[aH,h1,Option.map_some],h2⟩
 ·obtain ⟨cs,rd,h1,h2⟩:=aaG h
  obtain ⟨v,h3,h4⟩:=wx h2;exact ⟨_,by simp only[aH,h1,h3,Option.map_some],h4⟩
 ·rename_i sz o1 o2 a x
  split at h
  ·obtain ⟨cs,h1,h2⟩:=qj h
   cases hb:Nat.beq cs.length sz with
   |false=>rw[hb] at h2;exact h2.elim
   |true=>
    have hl:cs.length=sz:=Nat.eq_of_beq_eq_true hb;rw[hb] at h2;dsimp only[cond] at h2;rw[bG] at h2;split at h2
    ·rename_i g'' old hx
     obtain ⟨rfl,h3⟩:=h2;obtain ⟨h4,h5⟩:=BP h3;rw[hl] at h4;exact ⟨_,by simp only[aH,h1,hx,if_true,hl,Ad h4],h5⟩
    ·exact h2.elim
  ·obtain ⟨cs,h1,h2⟩:=qj h
   cases hb:Nat.beq cs.length sz with
   |false=>rw[hb] at h2;exact h2.elim
   |true=>
    have hl:cs.length=sz:=Nat.eq_of_beq_eq_true hb;rw[hb] at h2;dsimp only[cond] at h2;obtain ⟨hpu,h2⟩:=h2;rw[bG] at h2;split at h2
    ·rename_i g'' s es hx
     obtain ⟨rfl,old,h3,h4,h5⟩:=h2;obtain ⟨hi,rfl⟩:=Az.1 h3;have h4:=Nat.le_of_ble_eq_true h4;have hk:=gV true cs hpu;refine ⟨_,?_,h5⟩;simp only[aH,h1,hx,if_true,hl];rw[Ad ⟨hi,h4⟩,hk];simp only[Aj,h3,Option.getD_some]
    ·exact h2.elim
  ·exact h
 ·split at h
  ·exact ⟨_,rfl,h⟩
  ·exact ⟨_,rfl,h⟩
  ·rw[nb] at h;exact ⟨_,rfl,h⟩
  ·exact h.elim
 ·split at h
  ·rw[nb] at h
   obtain ⟨v,h3,h4⟩:=wx h;exact ⟨_,by simp only[aH,h3,Option.map_some],h4⟩
  ·exact h.elim
 ·split at h
  ·split at h
   ·obtain ⟨rfl,h1,cs,h2,h3⟩:=h
    obtain ⟨hi,rfl⟩:=Az.1 h2;refine ⟨_,by unfold aH;dsimp only;rw[Ad (by exact ⟨rfl,h1,hi⟩)],?_⟩
    rw[Aj,h2];exact h3
   ·exact h.elim
  ·split at h
   ·rw[bG] at h
    split at h
    ·rename_i hx
     obtain ⟨rfl,rfl,h1,h2,h3⟩:=h;exact ⟨_,by unfold aH;dsimp only;rw[hx];dsimp only;rw[Ad (by exact ⟨rfl,rfl⟩),Ad (by exact ⟨h1,h2⟩)],h3⟩
    ·exact h.elim
   ·exact h.elim
  ·split at h
   ·rw[bG] at h
    split at h
    ·rename_i hx
     obtain ⟨rfl,rfl,h1,h2,h3⟩:=h;exact ⟨_,by unfold aH;dsimp only;rw[hx];dsimp only;rw[Ad (by exact ⟨rfl,rfl⟩),Ad (by exact ⟨h1,h2⟩)],h3⟩
    ·exact h.elim
   ·exact h.elim
  ·exact h
 ·obtain ⟨v,h1,h2⟩:=h
  exact ⟨_,by simp only[aH,h1,Option.map_some],h2⟩
 ·split at h
  ·obtain ⟨h1,h2⟩:=SN h
   exact ⟨_,by simp only[aH,Ad h1],h2⟩
  ·exact h.elim
 ·rename_i str o x
  split at h
  ·cases str with
   |true=>exact h.elim
   |false=>exact ⟨_,rfl,h⟩
  ·cases str with
   |true=>exact h.elim
   |false=>exact ⟨_,rfl,h⟩
  ·cases str with
   |true=>exact h.elim
   |false=>exact ⟨_,rfl,h⟩
  ·cases str with
   |false=>exact h.elim
   |true=>exact ⟨_,rfl,h⟩
  ·exact h
 ·split at h
  ·obtain ⟨h1,b,h2,h3⟩:=h
   obtain ⟨hi,rfl⟩:=Az.1 h2;refine ⟨_,by unfold aH;dsimp only;rw[Ad (by exact ⟨h1,hi⟩)],?_⟩
   rw[Aj,h2];exact h3
  ·exact h.elim
 ·split at h
  ·obtain ⟨a,b,h1,h2⟩:=Sc h
   exact ⟨_,by simp only[aH,h1],h2⟩
  ·exact h.elim
 ·obtain ⟨ys,r,h1,h2⟩:=aeC h
  split at h2
  ·exact ⟨_,by simp only[aH,h1];rw[Ad h2.1],h2.2⟩
  ·rw[bG] at h2
   split at h2
   ·rename_i hx
    obtain ⟨rfl,rfl,h2⟩:=h2;obtain ⟨h3,h4,h5⟩:=h2.ok;exact ⟨_,by simp only[aH,h1,hx];rw[Ad (by exact ⟨by simp,by simp,h3,h4⟩)],h5⟩
   ·exact h2.elim
  ·exact h2.elim
 ·split at h
  ·obtain ⟨h1,h2,h3,h4,h5⟩:=h
   exact ⟨_,by unfold aH;dsimp only;rw[Ad (by exact ⟨h1,h2,h3,h4⟩)],h5⟩
  ·exact h.elim
 ·obtain ⟨h2,h3,h⟩:=h
  have h2':=Nat.le_of_ble_eq_true h2;cases h with
  |pure h1 es h4 h5=>
   refine ⟨_,?_,h5⟩;unfold aH;dsimp only;rw[Ad (by exact ⟨h2',h3⟩),gV true _ h1]
   dsimp only;rw[h4];rfl
  |frz D hD hne es h4 h5=>
   refine ⟨_,?_,h5⟩;unfold aH;dsimp only;rw[Ad (by exact ⟨h2',h3⟩),hD]
   cases D with
   |nil=>exact absurd rfl hne
   |cons d r=>dsimp only;rw[h4];rfl
 ·obtain ⟨es,r,l,h1,h2,h3⟩:=h
  exact ⟨_,by simp only[aH,h1,h2,Option.map_some],h3⟩
 ·obtain ⟨n,h1,h2⟩:=ae8 h
  obtain ⟨l,hh,h3,h4⟩:=Sc h2;split at h4
  ·obtain ⟨rfl,h5⟩:=h4
   exact ⟨_,by simp only[aH,h1,h3,if_true],h5⟩
  ·exact ⟨_,by simp only[aH,h1,h3],h4⟩
  ·rw[bG] at h4
   split at h4
   ·rename_i hx
    obtain ⟨rfl,rfl,h5⟩:=h4;rcases h5 with ⟨q1,q2,h5⟩|⟨q,h5⟩
    ·exact ⟨_,by simp only[aH,h1,h3,hx];rw[Ad (by simp),Ad (by exact ⟨q1,q2⟩)],h5⟩
    ·exact ⟨_,by simp only[aH,h1,h3,hx];rw[Ad (by simp),Ac q],h5⟩
   ·exact h4.elim
  ·rw[bG] at h4
   split at h4
   ·rename_i hx
    obtain ⟨rfl,rfl,h5⟩:=h4;exact ⟨_,by simp only[aH,h1,h3,hx];rw[Ad (by simp)],h5⟩
   ·exact h4.elim
  ·exact h4.elim
 ·exact ⟨_,rfl,h⟩
 ·split at h
  ·rw[bG] at h
   split at h
   ·rename_i hx
    obtain ⟨rfl,hm,h5⟩:=h;refine ⟨_,?_,h5⟩;simp only[aH,mZ,hx];rw[Ad (by exact ⟨trivial,hm⟩)]
   ·exact h.elim
  ·exact h.elim
 ·split at h
  ·rw[bG] at h
   split at h
   ·rename_i hx
    obtain ⟨rfl,hi,hv,hm,h5⟩:=h;refine ⟨_,?_,h5⟩;simp only[aH,pY,hx];rw[Ad (by exact ⟨trivial,⟨hi,hv⟩,hm⟩)]
   ·exact h.elim
  ·exact h.elim
 ·split at h
  ·rw[bG] at h
   split at h
   ·rename_i hx
    obtain ⟨rfl,rfl,hz,hc,h5⟩:=h;refine ⟨_,?_,h5⟩;simp only[aH,pw,hx];rw[Ad (by exact ⟨trivial,trivial,hc.1,(A5 _).trans hc.2,hz⟩)]
    simp
   ·exact h.elim
  ·rw[bG] at h
   split at h
   ·rename_i hx
    obtain ⟨rfl,rfl,hz,hc,h5⟩:=h;refine ⟨_,?_,h5⟩;simp only[aH,pw,hx];rw[Ad (by exact ⟨trivial,trivial,hc.1,hc.2,hz⟩)]
   ·exact h.elim
  ·exact h
 ·exact h
end Go.AM
namespace Go.AM
def JL (tm:List (Nat×AV))(gd:Option (Nat×Bool))(p q:Prop):Prop:=
 match gd with
 |none=>p
 |some (t,w)=>ma tm t fun v=>match v with
  | .bool b=>condC (b==w) p q
  | .con (.tuple _)=>q
  |_=>False
theorem aaR {tm:List (Nat×AV)}{gd:Option (Nat×Bool)}{p q:Prop}(h:JL tm gd p q):(cj tm gd=some true∧p)∨(cj tm gd=some false∧q):=by
 unfold JL at h;split at h
 ·exact .inl ⟨rfl,h⟩
 ·rename_i t w
  rw[gZ] at h;unfold cj;dsimp only;split at h
  ·rename_i b hb
   rw[hb];dsimp only;cases hc:b==w with
   |true=>rw[hc] at h;exact .inl ⟨rfl,h.1 rfl⟩
   |false=>rw[hc] at h;exact .inr ⟨rfl,h.2 rfl⟩
  ·rename_i hb
   rw[hb];exact .inr ⟨rfl,h⟩
  ·exact h.elim
def uz:aw→aw→(aw→Prop)→Prop
 | [],h,k=>k h
 |x::r,h,k=>uz r h fun l=>k (x::l)
theorem xO: ∀{a h:aw}{k:aw→Prop},uz a h k↔k (a++h)
 | [],h,k=>Iff.rfl
 |x::r,h,k=>by simp only[uz,BY];exact xO
def tj (d:Option Nat)(v:AV)(tm:List (Nat×AV))(k:List (Nat×AV)→Prop):Prop:=
 match d with
 |some d=>k ((d,v)::tm)
 |none=>k tm
inductive CallG (G:Nat→Fun)(hp:aw)(f:Nat)(args:List AV)(g dst:Nat)(E:Prop)(k:Eff→Prop):Prop
 |mk (c:CIn) (r:Ret) (e:Eff) (h1:eY (aQ hp) (G f).raw args=some c) (h2:ah G f c.args c.bs r) (h3:cd (aQ hp) c g dst r=some e) (h4:k e):CallG G hp f args g dst E k
 |stop (h:E):CallG G hp f args g dst E k
theorem ah9 {G:Nat→Fun}{hp:aw}{f:Nat}{args:List AV}{g dst:Nat}{E:Prop}{k:Eff→Prop}{r:AV}(hG:ah G f args [] ⟨r,[]⟩)(hp':aU args=true)(hr:r.dry=true)(h:k {res:=r}):CallG G hp f args g dst E k:=
 .mk _ _ _ (qG hp') hG (RQ hr) h
def JS (b:Bool)(q p:Prop):Prop:=bif b then p else q∧p
theorem adG {o:List Nat}{e:Eff}{dn:List DnE}{p:Prop}(h:JS (jm o e dn) (OkS o e dn) p):OkS o e dn∧p:=by
 unfold JS at h;cases hb:jm o e dn with
 |true=>rw[hb] at h;exact ⟨OkS.of hb,h⟩
 |false=>rw[hb] at h;exact h
def W (G:Nat→Fun)(rs:List RVar)(m:Nat)(t:Ret)(d:Nat):Nat→List AItem→List (Nat×AV)→aw→Nat→Prop
 |0,todo,tm,hp,ctr=>Ev G ⟨todo,⟨tm,hp,ctr⟩,rs,m⟩ t
 |n+1,todo,tm,hp,ctr=>bif Nat.ble todo.length d then Ev G ⟨todo,⟨tm,hp,ctr⟩,rs,m⟩ t else match todo with
  | []=>Ev G ⟨[],⟨tm,hp,ctr⟩,rs,m⟩ t
  | .code c::k=>match c with
   | .ret=>Ev G ⟨.code .ret::k,⟨tm,hp,ctr⟩,rs,m⟩ t
   | .skip=>W G rs m t d n k tm hp ctr
   | .seq a b=>W G rs m t d n (.code a:: .code b::k) tm hp ctr
   | .cond x a b=>Ut tm x fun v=>match v with
    | .bool c=>condC c (W G rs m t d n (.code a::k) tm hp ctr) (W G rs m t d n (.code b::k) tm hp ctr)
    |_=>False
   | .block id b=>W G rs m t d n (.code b:: .inBlock id::k) tm hp ctr
   | .scope b=>W G rs m t d n (.code b:: .inScope::k) tm hp ctr
   | .loop b=>Ev G ⟨.inLoop b::k,⟨tm,hp,ctr⟩,rs,m⟩ t
   | .exit id=>match qk id k with
    |some k'=>W G rs m t d n k' tm hp ctr
    |none=>False
   | .region ops draw=>W G rs m t d n (.inReg ops 0 [] draw::k) tm hp ctr
  | .inLoop b::k=>Ev G ⟨.inLoop b::k,⟨tm,hp,ctr⟩,rs,m⟩ t
  | .inBlock _::k=>W G rs m t d n k tm hp ctr
  | .inScope::k=>W G rs m t d n k tm hp ctr
  | .inReg [] i _ _::k=>W G rs m t d n k tm hp (ctr+i)
  | .inReg (o::rest) i dn draw::k=>
   let ke:Eff→Prop:=fun e=>
    bif draw then JS (jm o.after e dn) (OkS o.after e dn) (tj o.dst e.res tm fun tm'=>uz e.wr hp fun hp'=>W G rs m t d n (.inReg rest (i+1) (lg i e dn) draw::k) tm' hp' ctr)
    else tj o.dst e.res tm fun tm'=>uz e.wr hp fun hp'=>W G rs m t d n (.inReg rest (i+1) dn draw::k) tm' hp' ctr
   JL tm o.guard
    (match o.op with
    | .call f args=>uW tm (f::args) fun vals=>match vals with
     | .fn f' cap::vs=>bif isB f' then CallG G hp (f'-BB) (cap++vs) (ctr+i) (o.dst.getD 0) (Ev G ⟨.inReg (o::rest) i dn draw::k,⟨tm,hp,ctr⟩,rs,m⟩ t) ke
      else CallG G hp f' (vs++cap) (ctr+i) (o.dst.getD 0) (Ev G ⟨.inReg (o::rest) i dn draw::k,⟨tm,hp,ctr⟩,rs,m⟩ t) ke
     |_=>False
    | .panic _=>Ev G ⟨.inReg (o::rest) i dn draw::k,⟨tm,hp,ctr⟩,rs,m⟩ t
    |op=>uW tm op.opds fun vals=>opC op (ctr+i) (tF (o.dst.getD 0) 0) vals hp ke)
    (tj o.dst gR tm fun tm'=>W G rs m t d n (.inReg rest (i+1) dn draw::k) tm' hp ctr)
theorem ii {G:Nat→Fun}{rs:List RVar}{m:Nat}{t:Ret}(d:Nat): ∀(n:Nat)(todo:List AItem)(tm:List (Nat×AV))(hp:aw)(ctr:Nat),W G rs m t d n todo tm hp ctr→Ev G ⟨todo,⟨tm,hp,ctr⟩,rs,m⟩ t
 |0,todo,tm,hp,ctr,h=>h
 |n+1,todo,tm,hp,ctr,h=>by
  unfold W at h;cases hle:Nat.ble todo.length d with
  |true=>rw[hle] at h;exact h
  |false=>
  rw[hle] at h;dsimp only[cond] at h;cases todo with
  |nil=>exact h
  |cons it k=>
   cases it with
   |code c=>
    cases c with
    |ret=>exact h
    |cond x a b=>
     have h':=LR.1 (show Ut tm x _ from h)
     split at h'
     ·rename_i c hx
      exact afm c hx (fun e=>ii d n _ _ _ _ (h'.1 e)) (fun e=>ii d n _ _ _ _ (h'.2 e))
     ·exact h'.elim
    |exit id=>
     have h':(match qk id k with|some k'=>W G rs m t d n k' tm hp ctr|none=>False):=h
     split at h'
     ·rename_i k' hx
      exact eO (fun ih=>by simp only[iW,hx]) (ii d n _ _ _ _ h')
     ·exact h'.elim
    |loop b=>exact eO (fun _=>rfl) (show Ev G _ t from h)
    |skip=>exact eO (fun _=>rfl) (ii d n _ _ _ _ h)
    |seq a b=>exact eO (fun _=>rfl) (ii d n _ _ _ _ h)
    |block id b=>exact eO (fun _=>rfl) (ii d n _ _ _ _ h)
    |scope b=>exact eO (fun _=>rfl) (ii d n _ _ _ _ h)
    |region ops draw=>exact eO (fun _=>rfl) (ii d n _ _ _ _ h)
   |inLoop b=>exact h
   |inBlock id=>exact eO (fun _=>rfl) (ii d n _ _ _ _ h)
   |inScope=>exact eO (fun _=>rfl) (ii d n _ _ _ _ h)
   |inReg rest i dn draw=>
    cases rest with
    |nil=>exact aap (ii d n _ _ _ _ h)
    |cons o rest=>
     have fin: ∀e:Eff,cj tm o.guard=some true→OpE G o (ctr+i) ⟨tm,hp,ctr⟩ e→
       (bif draw then JS (jm o.after e dn) (OkS o.after e dn) (tj o.dst e.res tm fun tm'=>uz e.wr hp fun hp'=>W G rs m t d n (.inReg rest (i+1) (lg i e dn) draw::k) tm' hp' ctr)
        else tj o.dst e.res tm fun tm'=>uz e.wr hp fun hp'=>W G rs m t d n (.inReg rest (i+1) dn draw::k) tm' hp' ctr)→
       Ev G ⟨.inReg (o::rest) i dn draw::k,⟨tm,hp,ctr⟩,rs,m⟩ t:=by
      intro e hw he hk
      have put: ∀(k2:List (Nat×AV)→aw→Prop),(tj o.dst e.res tm fun tm'=>uz e.wr hp fun hp'=>k2 tm' hp')→k2 ((AS.mk tm hp ctr).app o.dst e).tm ((AS.mk tm hp ctr).app o.dst e).hp:=by
       intro k2 h2;unfold tj at h2;cases hd:o.dst with
       |none=>rw[hd] at h2;exact xO.1 h2
       |some d=>rw[hd] at h2;exact xO.1 h2
      have hctr:((AS.mk tm hp ctr).app o.dst e).ctr=ctr:=AS.app_ctr _ _ _;have eta: ∀(A:AS),A.ctr=ctr→(⟨A.tm,A.hp,ctr⟩:AS)=A:=fun A hA=>by subst hA;rfl
      cases draw with
      |true=>
       dsimp only[cond] at hk;replace hk:=adG hk;refine agU hw he hk.1 ?_;rw[←eta _ hctr];exact ii d n _ _ _ _ (put (fun tm' hp'=>W G rs m t d n (.inReg rest (i+1) (lg i e dn) true::k) tm' hp' ctr) hk.2)
      |false=>
       dsimp only[cond] at hk
       ·refine agS hw he ?_
        rw[←eta _ hctr];exact ii d n _ _ _ _ (put (fun tm' hp'=>W G rs m t d n (.inReg rest (i+1) dn false::k) tm' hp' ctr) hk)
     rcases aaR (show JL tm o.guard _ _ from h) with ⟨hw,h'⟩|⟨hw,h'⟩
     ·obtain ⟨d,op,gd,af⟩:=o
      cases op with
      |call f args=>
       have h2:=tp.1 (show uW tm (f::args) _ from h')
       dsimp only at h2;split at h2
       ·rename_i f' cap vs hv
        cases hb:isB f' with
        |true=>
         simp only[hb,cond_true] at h2;have e1:bW f'=f'-BB:=by unfold bW;rw[hb,cond_true]
         cases h2 with
         |mk c r e q1 q2 q3 q4=>exact fin e hw (.call hv (by rw[e1,hb,cond_true];exact q1) (by rw[e1];exact q2) q3) q4
         |stop h=>exact h
        |false=>
         simp only[hb,cond_false] at h2;have e1:bW f'=f':=by unfold bW;rw[hb,cond_false]
         cases h2 with
         |mk c r e q1 q2 q3 q4=>exact fin e hw (.call hv (by rw[e1,hb,cond_false];exact q1) (by rw[e1];exact q2) q3) q4
         |stop h=>exact h
       ·exact h2.elim
      |panic x=>exact h'
      |_=>
       have h2:=tp.1 h';dsimp only at h2
       ·obtain ⟨e,q1,q2⟩:=af1 h2
        exact fin e hw (.op (by intro f args hh;cases hh) q1) q2
     ·refine agT hw ?_
      have:(AS.mk tm hp ctr).put o.dst gR=⟨((AS.mk tm hp ctr).put o.dst gR).tm,hp,ctr⟩:=by cases o.dst<;>rfl
      rw[this];refine ii d n _ _ _ _ ?_;unfold tj at h';cases hd:o.dst with
      |none=>rw[hd] at h';exact h'
      |some d=>rw[hd] at h';exact h'
theorem W_ok {G:Nat→Fun}{rs:List RVar}{m:Nat}{t:Ret}(n:Nat)(todo:List AItem)(tm:List (Nat×AV))(hp:aw)(ctr:Nat)(h:W G rs m t 0 n todo tm hp ctr):Ev G ⟨todo,⟨tm,hp,ctr⟩,rs,m⟩ t:=ii 0 n todo tm hp ctr h
theorem aao {G:Nat→Fun}{a b:ACode}{k:List AItem}{A:AS}{rs:List RVar}{m:Nat}{t:Ret}(h:Ev G ⟨.code a:: .code b::k,A,rs,m⟩ t):Ev G ⟨.code (.seq a b)::k,A,rs,m⟩ t:=eO (fun _=>rfl) h
end Go.AM
namespace Go.AM
section
variable {p q:Prop}
theorem aes {c:Prop}[Decidable c](h1:c→p)(h2: ¬c→q):condC (decide c) p q:=⟨fun h=>h1 (of_decide_eq_true h),fun h=>h2 (of_decide_eq_false h)⟩
theorem ag7 {c:Prop}[Decidable c](h:c)(h1:p):condC (decide c) p q:=aes (fun _=>h1) fun h2=>absurd h h2
theorem ag8 {c:Prop}[Decidable c](h: ¬c)(h1:q):condC (decide c) p q:=aes (fun h2=>absurd h2 h) fun _=>h1
theorem aet {a b:Int}(h1:a=b→p)(h2: ¬a=b→q):condC (a==b) p q:=⟨fun h=>h1 (by simpa using h),fun h=>h2 (by simpa using h)⟩
theorem ag9 {a b:Int}(h:a=b)(h1:p):condC (a==b) p q:=aet (fun _=>h1) fun h2=>absurd h h2
theorem aha {a b:Int}(h: ¬a=b)(h1:q):condC (a==b) p q:=aet (fun h2=>absurd h2 h) fun _=>h1
theorem aep {a b:Int}(h1: ¬a=b→p)(h2:a=b→q):condC (a !=b) p q:=⟨fun h=>h1 (by simpa using h),fun h=>h2 (by simpa using h)⟩
theorem ag2 {a b:Int}(h: ¬a=b)(h1:p):condC (a !=b) p q:=aep (fun _=>h1) fun h2=>absurd h2 h
theorem ag3 {a b:Int}(h:a=b)(h1:q):condC (a !=b) p q:=aep (fun h2=>absurd h h2) fun _=>h1
theorem ag4 {b:Bool}(h:condC b p q):condC (b==true) p q:=by cases b<;>exact h
theorem ag5 {b:Bool}(h:condC b q p):condC (b==false) p q:=by
 cases b with
 |true=>exact ⟨fun e=>(by cases e),fun _=>h.1 rfl⟩
 |false=>exact ⟨fun _=>h.2 rfl,fun e=>(by cases e)⟩
end
theorem ahe {a b:Nat}(h:a≤b):Nat.ble a b=true:=Nat.ble_eq_true_of_le h
theorem ly {a:Int}(h1: -9223372036854775808≤a)(h2:a≤9223372036854775807):IntKind.wrap .i64 a=a:=by
 have h:IntKind.wrap .i64 a=if a % 18446744073709551616≥9223372036854775808 then a % 18446744073709551616-18446744073709551616 else a % 18446744073709551616:=by
  first|rfl|simp[IntKind.wrap,IntKind.bits,IntKind.signed]
 rw[h];split<;>omega
theorem Pj {a b:Int}(h1: -9223372036854775808≤a+b)(h2:a+b≤9223372036854775807):bv .add (.int .i64 a) (.int .i64 b)=some (.int .i64 (a+b)):=by
 show some (AV.int .i64 (IntKind.wrap .i64 (a+b)))=_
 rw[ly h1 h2]
theorem Pd {a b:Int}(h1: -9223372036854775808≤a-b)(h2:a-b≤9223372036854775807):bv .sub (.int .i64 a) (.int .i64 b)=some (.int .i64 (a-b)):=by
 show some (AV.int .i64 (IntKind.wrap .i64 (a-b)))=_
 rw[ly h1 h2]
theorem Ph {a b:Int}(h1: -9223372036854775808≤a*b)(h2:a*b≤9223372036854775807):bv .mul (.int .i64 a) (.int .i64 b)=some (.int .i64 (a*b)):=by
 show some (AV.int .i64 (IntKind.wrap .i64 (a*b)))=_
 rw[ly h1 h2]
theorem adM {x:Opd}{g key:Nat}{k:IntKind}{n:Int}{hg:Nat→Option (Nat×Blk)}(h1: -9223372036854775808≤n)(h2:n≤9223372036854775807):aH (.conv .i64 x) g key [.int k n] hg=some {res:=.int .i64 n}:=by
 show some (Eff.mk (AV.int .i64 (IntKind.wrap .i64 n)) [] [] [])=_
 rw[ly h1 h2]
end Go.AM
namespace Go.AM
mutual
theorem AV.ren_congr {φ ψ:Nat→Nat→Tgt}: ∀a:AV,(∀k∈a.keys true,∀g,φ k g=ψ k g)→a.ren φ=a.ren ψ
 | .any,_| .int _ _,_| .bool _,_| .str _,_| .con _,_=>by simp[AV.ren]
 | .agg cs,h=>by simp only[AV.ren];rw[iA cs (by simpa[AV.keys] using h)]
 | .rp cs,h=>by simp only[AV.ren];rw[iA cs (by simpa[AV.keys] using h)]
 | .fn f cs,h=>by simp only[AV.ren];rw[iA cs (by simpa[AV.keys] using h)]
 | .tup cs,h=>by simp only[AV.ren];rw[iA cs (by simpa[AV.keys] using h)]
 | .sl s es,h=>by simp only[AV.ren];rw[vo es (by simpa[AV.keys] using h)]
 | .ref k g o,h=>by simp only[AV.ren];rw[h k (by simp[AV.keys])]
 | .er k g i o,h=>by simp only[AV.ren];rw[h k (by simp[AV.keys])]
 | .vs k g n,h=>by simp only[AV.ren];rw[h k (by simp[AV.keys])]
 | .vw k g o n,h=>by simp only[AV.ren];rw[h k (by simp[AV.keys])]
 | .mp k g,h=>by simp only[AV.ren];rw[h k (by simp[AV.keys])]
 | .ifc t v,h=>by simp only[AV.ren];rw[AV.ren_congr v (by simpa[AV.keys] using h)]
theorem iA {φ ψ:Nat→Nat→Tgt}: ∀l:List AV,(∀k∈ce true l,∀g,φ k g=ψ k g)→cP φ l=cP ψ l
 | [],_=>rfl
 |a::r,h=>by
  simp only[ce,B4] at h;simp only[cP];rw[AV.ren_congr a fun k hk=>h k (.inl hk),iA r fun k hk=>h k (.inr hk)]
theorem vo {φ ψ:Nat→Nat→Tgt}: ∀l:List (List AV),(∀k∈kR true l,∀g,φ k g=ψ k g)→i7 φ l=i7 ψ l
 | [],_=>rfl
 |a::r,h=>by
  simp only[kR,B4] at h;simp only[i7];rw[iA a fun k hk=>h k (.inl hk),vo r fun k hk=>h k (.inr hk)]
end
abbrev Fzs:=List (Nat×Nat×Blk)
def FzOk (hp:aw):Fzs→Prop
 | []=>True
 |(k,g,b)::r=>(cU hp k fun z=>z=some (g,b))∧b.pure=true∧FzOk hp r
def φF:Fzs→Nat→Nat→Tgt
 | [],k,g=>.to k g
 |(k',g',b)::r,k,g=>bif Nat.beq k' k then (bif Nat.beq g' g then .frz b else .dead) else φF r k g
theorem FzOk.at {hp:aw}: ∀{Fz:Fzs},FzOk hp Fz→ ∀x∈Fz,aQ hp x.1=some (x.2.1,x.2.2)∧x.2.2.pure=true
 |(k,g,b)::r,⟨h1,h2,h3⟩,x,hx=>by
  rcases AK.1 hx with rfl|hx
  ·exact ⟨bG.1 h1,h2⟩
  ·exact FzOk.at h3 x hx
theorem eZ {a b:Nat}(h:a≠b):Nat.beq a b=false:=by
 cases hb:Nat.beq a b with
 |false=>rfl
 |true=>exact absurd (Nat.eq_of_beq_eq_true hb) h
theorem Xv {hp:aw}: ∀{Fz:Fzs},FzOk hp Fz→ ∀k g,k∈Fz.map (·.1)→φF Fz k g=match aQ hp k with
  |some (g',b)=>if g'=g then (bif b.pure then .frz b else .dead) else .dead
  |none=>.dead
 |(k',g',b)::r,h,k,g,hk=>by
  by_cases e:k'=k
  ·subst e
   obtain ⟨h1,h2⟩:=h.at (k',g',b) (by simp)
   simp only at h1 h2;rw[h1];simp only[φF,Nat.beq_refl,cond_true,h2]
   by_cases e2:g'=g
   ·subst e2;simp
   ·rw[eZ e2,Ac e2];rfl
  ·simp only[φF,eZ e,cond_false]
   exact Xv h.2.2 k g (by simpa[Ne.symm e] using hk)
theorem Xu: ∀{Fz:Fzs}{k:Nat},k∉Fz.map (·.1)→ ∀g,φF Fz k g= .to k g
 | [],_,_,_=>rfl
 |(k',g',b)::r,k,hk,g=>by
  simp only[Ao,AK,not_or] at hk;simp only[φF,eZ (Ne.symm hk.1),cond_false];exact Xu hk.2 g
theorem SM {hp:aw}{Fz:Fzs}(h:FzOk hp Fz):qe (aQ hp) (Fz.map (·.1))=φF Fz:=by
 funext k g
 unfold qe iR
 by_cases hk:k∈Fz.map (·.1)
 ·have hc:(Fz.map (·.1)).contains k=true:=by simpa using hk
  rw[hc,cond_true,cond_true,Xv h k g hk];cases aQ hp k<;>rfl
 ·have hc:(Fz.map (·.1)).contains k=false:=by
   cases hq:(Fz.map (·.1)).contains k with
   |false=>rfl
   |true=>exact absurd (by simpa using hq) hk
  rw[hc,cond_false,Xu hk]
def LOk (tm:List (Nat×AV))(φ:Nat→Nat→Tgt):List (Nat×AV)→Prop
 | []=>True
 |(t,v)::r=>(ma tm t fun u=>u.ren φ=v)∧LOk tm φ r
def KOk (hp:aw)(D:List Nat)(φ:Nat→Nat→Tgt):aw→Prop
 | []=>True
 |(k,z)::r=>(bif D.contains k then z=none else cU hp k fun y=>match y with
  |none=>z=none
  |some (g,b)=>z=some (g,b.ren φ))∧KOk hp D φ r
theorem LOk.get {tm:List (Nat×AV)}{φ:Nat→Nat→Tgt}: ∀{L:List (Nat×AV)},LOk tm φ L→bJ (L++iy φ tm)=bJ (iy φ tm)
 | [],_=>rfl
 |(t,v)::r,⟨h1,h2⟩=>by
  funext u
  simp only[BY,bJ,h2.get];split
  ·rename_i e;subst e
   rw[gZ] at h1;rw[jg,h1]
  ·rfl
theorem GR: ∀{D:List Nat}{h:aw}{k:Nat},aQ (cW D++h) k=if D.contains k then none else aQ h k
 | [],h,k=>by simp[cW]
 |d::D,h,k=>by
  simp only[cW,BY,aQ,GR (D:=D)]
  by_cases e:d=k
  ·subst e;simp
  ·simp[e,Ne.symm e]
theorem KOk.get {hp:aw}{D:List Nat}{φ:Nat→Nat→Tgt}: ∀{K:aw},KOk hp D φ K→aQ (K++(cW D++renH φ hp))=aQ (cW D++renH φ hp)
 | [],_=>rfl
 |(k,z)::r,⟨h1,h2⟩=>by
  funext u
  simp only[BY,aQ,h2.get];split
  ·rename_i e;subst e
   rw[GR];cases hc:D.contains k with
   |true=>rw[hc] at h1;rw[Ad rfl];exact h1
   |false=>
    rw[hc,cond_false,bG] at h1;rw[Ac (by simp)]
    rw[jq];cases hk:aQ hp k with
    |none=>rw[hk] at h1;rw[h1];rfl
    |some y=>obtain ⟨g,b⟩:=y;rw[hk] at h1;rw[h1];rfl
  ·rfl
section
variable {G:Nat→Fun} {rs:List RVar} {m:Nat} {t:Ret}
theorem aar {todo:List AItem}{tm:List (Nat×AV)}{hp:aw}{ctr:Nat}(Fz:Fzs)(L:List (Nat×AV))(K:aw)
  (hF:FzOk hp Fz) (hL:LOk tm (φF Fz) L) (hK:KOk hp (Fz.map (·.1)) (φF Fz) K)
  (h: ∀T H,Ev G ⟨todo,⟨L++T,K++H,ctr⟩,rs,m⟩ t) (hd:ob todo=true:=by rfl):Ev G ⟨todo,⟨tm,hp,ctr⟩,rs,m⟩ t:=by
 have q:=h (iy (φF Fz) tm) (cW (Fz.map (·.1))++renH (φF Fz) hp)
 have hs:AS.Same ((AS.mk tm hp ctr).frz (Fz.map (·.1))) ⟨L++iy (φF Fz) tm,K++(cW (Fz.map (·.1))++renH (φF Fz) hp),ctr⟩:=by
  refine ⟨?_,?_,rfl⟩
  ·show bJ (iy (qe (aQ hp) _) tm)=_
   rw[SM hF];exact hL.get.symm
  ·show aQ (cW _++renH (qe (aQ hp) _) hp)=_
   rw[SM hF];exact hK.get.symm
 exact z7 hd (Wk0.trans (B:=(AS.mk tm hp ctr).frz (Fz.map (·.1))) ⟨rfl,fun C U a w r=>r.frz _⟩ (.of_same hs)) q
end
theorem Blk.ren_pure {φ:Nat→Nat→Tgt}{b:Blk}(h:b.pure=true):b.ren φ=b:=by
 cases b with
 |mp es=>rfl
 |cells cs=>simp only[Blk.ren];rw[f8 φ cs h]
 |vec s es=>simp only[Blk.ren];rw[fU φ es h]
section
variable {G:Nat→Fun} {hp:aw} {f:Nat} {args args':List AV} {g dst:Nat} {E:Prop} {k:Eff→Prop} {r r':AV} {bs:List (Bool×Blk)}
end
theorem vn {tm:List (Nat×AV)}{hp:aw}{ctr:Nat}{rs:List RVar}{a:AV}(ha:ig ⟨tm,hp,ctr⟩ rs=some a)(h:a.pure=true):fg ⟨tm,hp,ctr⟩ rs 0=some ⟨a,[]⟩:=by
 unfold fg;rw[ha];simp[h]
def φR:Fzs→Nat→Nat→Nat→Tgt
 | [],_,_,_=>.dead
 |(k',g',_)::r,i,k,g=>bif Nat.beq k' k then (bif Nat.beq g' g then .to i 0 else .dead) else φR r (i+1) k g
theorem sK {hp:aw}: ∀{Rz:Fzs},FzOk hp Rz→cx (aQ hp) (Rz.map (·.1))= []
 | [],_=>rfl
 |(k,g,b)::r,h=>by
  obtain ⟨h1,h2⟩:=h.at (k,g,b) (by simp)
  simp only at h1 h2
  have hb:b.keys= []:=by
   cases b with
   |mp es=>rfl
   |cells cs=>exact gV true cs h2
   |vec s es=>exact jS true es h2
  simp only[Ao,cx,h1,hb,sK h.2.2,Bs]
theorem Og: ∀{l:List Nat},dP l=true→gw l=l
 | [],_=>rfl
 |k::r,h=>by
  simp only[dP,Av,Bool.not_eq_true'] at h;simp only[gw,Og h.2,h.1,cond_false]
theorem Yd {hp:aw}: ∀{Rz:Fzs}(i:Nat),FzOk hp Rz→ ∀k g,k∈Rz.map (·.1)→φR Rz i k g=match aQ hp k with
  |some (g',_)=>if g'=g then (match idx k (Rz.map (·.1)) with|some j=>.to (i+j) 0|none=>.dead) else .dead
  |none=>.dead
 |(k',g',b)::r,i,h,k,g,hk=>by
  by_cases e:k'=k
  ·subst e
   obtain ⟨h1,_⟩:=h.at (k',g',b) (by simp)
   simp only at h1;rw[h1];simp only[φR,Nat.beq_refl,cond_true,Ao,idx,if_true,Nat.add_zero]
   by_cases e2:g'=g
   ·subst e2;simp
   ·rw[eZ e2,Ac e2];rfl
  ·simp only[φR,eZ e,cond_false,Ao,idx,Ac e]
   rw[Yd (i+1) h.2.2 k g (by simpa[Ne.symm e] using hk)]
   cases aQ hp k with
   |none=>rfl
   |some x=>
    dsimp only;split
    ·cases idx k (r.map (·.1)) with
     |none=>rfl
     |some j=>simp only[Option.map_some];rw[show i+1+j=i+(j+1) from by omega]
    ·rfl
theorem Fm {hp:aw}{φ:Nat→Nat→Tgt}: ∀{Rz:Fzs},FzOk hp Rz→gg hp φ 0 (Rz.map (·.1))=some (Rz.map fun x=>(false,x.2.2))
 | [],_=>rfl
 |(k,g,b)::r,h=>by
  obtain ⟨h1,h2⟩:=h.at (k,g,b) (by simp)
  simp only at h1 h2;simp only[Ao,gg,h1,Fm h.2.2,Blk.ren_pure h2];simp
theorem yA {tm:List (Nat×AV)}{hp:aw}{ctr:Nat}{rs:List RVar}{a r':AV}{bs:List (Bool×Blk)}(Rz:Fzs)(ha:ig ⟨tm,hp,ctr⟩ rs=some a)(hF:FzOk hp Rz)(hk:a.keys true=Rz.map (·.1))(hn:dP (Rz.map (·.1))=true)(hne:Rz.map (·.1)≠ [])
  (hr:a.ren (φR Rz 0)=r') (hb:(Rz.map fun x=>(false,x.2.2))=bs):fg ⟨tm,hp,ctr⟩ rs 0=some ⟨r',bs⟩:=by
 unfold fg;rw[ha];dsimp only
 have hp0:a.pure=false:=by
  cases h:a.pure with
  |false=>rfl
  |true=>exact absurd (by rw[←hk];exact AV.keys_pure true a h) hne
 rw[hp0];simp only[Bool.and_false,cond_false,List.range_zero,Bo];have hall: ∀l:List Nat,l.filter (fun k=>decide (0≤k))=l:=fun l=>List.filter_eq_self.2 (by simp)
 have hN:iM hp 0 a=Rz.map (·.1):=by
  unfold iM;simp only[List.range_zero,cx,Bs,hk,hall,sK hF];exact Og hn
 have hφ:a.ren (rF hp 0 (Rz.map (·.1)))=r':=by
  rw[←hr];refine AV.ren_congr a fun k hk' g=>?_
  rw[hk] at hk';rw[Yd 0 hF k g hk'];unfold rF;cases aQ hp k with
  |none=>rfl
  |some x=>
   obtain ⟨g',b⟩:=x;simp only[A5,Nat.not_lt_zero,if_false];split
   ·cases idx k (Rz.map (·.1))<;>rfl
   ·rfl
 rw[hN,Fm hF];simp only[Option.map_some,hφ,hb]
theorem XZ {tm:List (Nat×AV)}{hp:aw}{ctr:Nat}{rs:List RVar}{k g n:Nat}{b:Blk}(ha:ig ⟨tm,hp,ctr⟩ rs=some (.vs k g n))(hF:cU hp k fun z=>z=some (g,b))(hb:b.pure=true){n':Nat}{b':Blk}(hn:n=n')(hb':b=b'):
  fg ⟨tm,hp,ctr⟩ rs 0=some ⟨.vs 0 0 n',[(false,b')]⟩:=by
 subst hn;subst hb'
 exact yA [(k,g,b)] ha ⟨hF,hb,trivial⟩ rfl rfl (by simp) (by simp[AV.ren,φR]) rfl
theorem aaQ {a:Int}(h1:0≤a)(h2:a≤4294967295):IntKind.wrap .u32 a=a:=by
 have h:IntKind.wrap .u32 a=a % 4294967296:=by first|rfl|simp[IntKind.wrap,IntKind.bits,IntKind.signed]
 rw[h];omega
theorem uG {a:Int}(h1:0≤a)(h2:a≤255):IntKind.wrap .u8 a=a:=by
 have h:IntKind.wrap .u8 a=a % 256:=by first|rfl|simp[IntKind.wrap,IntKind.bits,IntKind.signed]
 rw[h];omega
theorem aaP {a:Int}(h1:0≤a)(h2:a≤18446744073709551615):IntKind.wrap .u64 a=a:=by
 have h:IntKind.wrap .u64 a=a % 18446744073709551616:=by first|rfl|simp[IntKind.wrap,IntKind.bits,IntKind.signed]
 rw[h];omega
theorem adL {x:Opd}{g key:Nat}{k:IntKind}{n:Int}{hg:Nat→Option (Nat×Blk)}(h1:0≤n)(h2:n≤4294967295):aH (.conv .u32 x) g key [.int k n] hg=some {res:=.int .u32 n}:=by
 show some (Eff.mk (AV.int .u32 (IntKind.wrap .u32 n)) [] [] [])=_
 rw[aaQ h1 h2]
theorem afq {x:Opd}{g key:Nat}{k:IntKind}{n:Int}{hg:Nat→Option (Nat×Blk)}(h1:0≤n)(h2:n≤255):aH (.conv .u8 x) g key [.int k n] hg=some {res:=.int .u8 n}:=by
 show some (Eff.mk (AV.int .u8 (IntKind.wrap .u8 n)) [] [] [])=_
 rw[uG h1 h2]
theorem adK {x:Opd}{g key:Nat}{k:IntKind}{n:Int}{hg:Nat→Option (Nat×Blk)}(h1:0≤n)(h2:n≤18446744073709551615):aH (.conv .u64 x) g key [.int k n] hg=some {res:=.int .u64 n}:=by
 show some (Eff.mk (AV.int .u64 (IntKind.wrap .u64 n)) [] [] [])=_
 rw[aaP h1 h2]
theorem Pg {a b:Int}(h0:0≤a)(hb:0<b)(h2:a≤9223372036854775807):bv .quo (.int .i64 a) (.int .i64 b)=some (.int .i64 (a/ b)):=by
 show (if b=0 then none else some (AV.int .i64 (IntKind.wrap .i64 (a.tdiv b))))=_
 rw[Ac (by omega),Int.tdiv_eq_ediv_of_nonneg h0]
 have h3:=Int.ediv_nonneg h0 (Int.le_of_lt hb);have h4:=Int.ediv_le_self b h0;rw[ly (by omega) (by omega)]
theorem Pf {a b:Int}(h0:0≤a)(hb:0<b):bv .rem (.int .i64 a) (.int .i64 b)=some (.int .i64 (a % b)):=by
 show (if b=0 then none else some (AV.int .i64 (a.tmod b)))=_
 rw[Ac (by omega),Int.tmod_eq_emod_of_nonneg h0]
theorem Qg {x:Opd}{g key:Nat}{a:Int}{hg:Nat→Option (Nat×Blk)}(h1: -9223372036854775807≤a)(h2:a≤9223372036854775807):aH (.un .neg x) g key [.int .i64 a] hg=some {res:=.int .i64 (-a)}:=by
 show some (Eff.mk (AV.int .i64 (IntKind.wrap .i64 (0-a))) [] [] [])=_
 rw[ly (by omega) (by omega)]
 rw[show 0-a= -a from by omega]
theorem aeG {n bytes:Nat}(h:n* (bytes+1)≤140737488355328):ng n bytes=true:=by simpa[ng] using h
end Go.AM
namespace Go.AM
end Go.AM
namespace Go.AM
theorem xr {α:Sort _}{p q:α→Prop}{a:α}(h:p a)(k:q a): ∃a,p a∧q a:=⟨a,h,k⟩
theorem ai {a b:Prop}(h:a)(k:b):a∧b:=⟨h,k⟩
theorem aO {a b:Prop}(k:b)(h:a:=by omega):a∧b:=⟨h,k⟩
theorem aB {m n:Nat}{b:Prop}(k:b)(h:m≤n:=by omega):Nat.ble m n=true∧b:=⟨ahe h,k⟩
theorem aR {n m:Nat}{b:Prop}(k:b)(h:n* (m+1)≤140737488355328:=by omega):ng n m=true∧b:=⟨aeG h,k⟩
section
variable {p q:Prop}
theorem cD {c:Prop}[Decidable c](h1:p)(h:c:=by omega):condC (decide c) p q:=ag7 h h1
theorem dD {c:Prop}[Decidable c](h1:q)(h: ¬c:=by omega):condC (decide c) p q:=ag8 h h1
theorem cB {a b:Int}(h1:p)(h:a=b:=by omega):condC (a==b) p q:=ag9 h h1
theorem dB {a b:Int}(h1:q)(h: ¬a=b:=by omega):condC (a==b) p q:=aha h h1
theorem cN {a b:Int}(h1:p)(h: ¬a=b:=by omega):condC (a !=b) p q:=ag2 h h1
theorem dN {a b:Int}(h1:q)(h:a=b:=by omega):condC (a !=b) p q:=ag3 h h1
end
section
variable {k:AV→Prop} {a b:Int}
theorem zQ (h:k (.int .i64 (a/ b)))(h0:0≤a:=by omega)(hb:0<b:=by omega)(h2:a≤9223372036854775807:=by omega): ∃v,bv .quo (.int .i64 a) (.int .i64 b)=some v∧k v:=⟨_,Pg h0 hb h2,h⟩
theorem zR (h:k (.int .i64 (a % b)))(h0:0≤a:=by omega)(hb:0<b:=by omega): ∃v,bv .rem (.int .i64 a) (.int .i64 b)=some v∧k v:=⟨_,Pf h0 hb,h⟩
theorem zS (h:k (.int .i64 (a-b)))(h1: -9223372036854775808≤a-b:=by omega)(h2:a-b≤9223372036854775807:=by omega): ∃v,bv .sub (.int .i64 a) (.int .i64 b)=some v∧k v:=⟨_,Pd h1 h2,h⟩
theorem zA (h:k (.int .i64 (a+b)))(h1: -9223372036854775808≤a+b:=by omega)(h2:a+b≤9223372036854775807:=by omega): ∃v,bv .add (.int .i64 a) (.int .i64 b)=some v∧k v:=⟨_,Pj h1 h2,h⟩
theorem zM (h:k (.int .i64 (a*b)))(h1: -9223372036854775808≤a*b:=by omega)(h2:a*b≤9223372036854775807:=by omega): ∃v,bv .mul (.int .i64 a) (.int .i64 b)=some v∧k v:=⟨_,Ph h1 h2,h⟩
end
section
variable {k:Eff→Prop} {a:Int} {x:Opd} {g key:Nat} {hg:Nat→Option (Nat×Blk)} {q:IntKind}
theorem zN (h:k {res:=.int .i64 (-a)})(h1: -9223372036854775807≤a:=by omega)(h2:a≤9223372036854775807:=by omega): ∃e,aH (.un .neg x) g key [.int .i64 a] hg=some e∧k e:=⟨_,Qg h1 h2,h⟩
theorem zC (h:k {res:=.int .i64 a})(h1: -9223372036854775808≤a:=by omega)(h2:a≤9223372036854775807:=by omega): ∃e,aH (.conv .i64 x) g key [.int q a] hg=some e∧k e:=⟨_,adM h1 h2,h⟩
theorem zC4 (h:k {res:=.int .u32 a})(h1:0≤a:=by omega)(h2:a≤4294967295:=by omega): ∃e,aH (.conv .u32 x) g key [.int q a] hg=some e∧k e:=⟨_,adL h1 h2,h⟩
theorem zC1 (h:k {res:=.int .u8 a})(h1:0≤a:=by omega)(h2:a≤255:=by omega): ∃e,aH (.conv .u8 x) g key [.int q a] hg=some e∧k e:=⟨_,afq h1 h2,h⟩
theorem zC8 (h:k {res:=.int .u64 a})(h1:0≤a:=by omega)(h2:a≤18446744073709551615:=by omega): ∃e,aH (.conv .u64 x) g key [.int q a] hg=some e∧k e:=⟨_,adK h1 h2,h⟩
end
end Go.AM
