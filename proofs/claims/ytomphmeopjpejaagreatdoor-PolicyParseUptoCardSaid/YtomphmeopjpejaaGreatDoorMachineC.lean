/- An abstract machine: its functions give what the calls of the program give. -/
import Derived.Test.YtomphmeopjpejaaGreatDoorMachineB
import Derived.ProofKit
import Derived.OpenShut
import Derived.Carry
import Derived.JoinedCond
set_option linter.unusedSectionVars false
set_option linter.unusedVariables false
set_option linter.unusedSimpArgs false
namespace Go.AM
open Go.RowKit
inductive Ty where
 |bool
 |int (k:IntKind)
 |str
 |sl (e:Ty)
 |st (fs:List Ty)
 |arr (n:Nat) (e:Ty)
 deriving Inhabited
mutual
def Ty.cells:Ty->Nat
 | .st fs=>pQ fs
 | .arr n e=>n*Ty.cells e
 |_=>1
def pQ:List Ty->Nat
 | []=>0
 |t::r=>Ty.cells t+pQ r
end
mutual
def Ty.T:Ty->B7->Prop
 | .bool,as=> ∃b,as= [.bool b]
 | .int k,as=> ∃n:Int,as= [.int k n]/\k.min<=n/\n<=k.max
 | .str,as=> ∃s:B5,as= [.str s]/\s.length<=maxLen
 | .sl e,as=> ∃es:B6,as= [.sl (Ty.cells e) es]/\(∀x∈es,Ty.T e x)/\es.length<=maxLen
 | .st fs,as=>TT fs as
 | .arr n e,as=> ∃l:B6,l.length=n/\as=l.flatten/\ ∀x∈l,Ty.T e x
def TT:List Ty->B7->Prop
 | [],as=>as= []
 |t::r,as=> ∃a b,as=a++b/\Ty.T t a/\TT r b
end
def tyF (P:Program)(r:TypeId->Option Ty):Nat->List Field->Option (List Ty)
 |_,[]=>some []
 |off,f::fs=>match r f.type with
  |some τ=>if f.offset=off/\τ.cells=P.cellsOf f.type then (tyF P r (off+τ.cells) fs).map (τ:: ·) else none
  |none=>none
def rG (P:Program):Nat->TypeId->Option Ty
 |0,_=>none
 |m+1,t=>match P.underlying t with
  |some .bool=>some .bool
  |some (.int k)=>some (.int k)
  |some .string=>some .str
  |some (.slice e)=>match rG P m e with
   |some τ=>if 0<τ.cells/\τ.cells=P.cellsOf e then some (.sl τ) else none
   |none=>none
  |some (.struct fs)=>match tyF P (rG P m) 0 fs.toList with
   |some l=>if pQ l=P.cellsOf t then some (.st l) else none
   |none=>none
  |some (.array n e)=>match rG P m e with
   |some τ=>if τ.cells=P.cellsOf e/\n*τ.cells=P.cellsOf t then some (.arr n τ) else none
   |none=>none
  |_=>none
mutual
def AV.bk:AV->Nat
 | .str s=>s.length+1
 | .sl _ es=>jj es+1
 | .agg cs=>bkL cs
 |_=>1
def bkL:B7->Nat
 | []=>0
 |a::r=>AV.bk a+bkL r
def jj:B6->Nat
 | []=>0
 |a::r=>bkL a+jj r
end
theorem oy: ∀a b:B7,bkL (a++b)=bkL a+bkL b
 | [],b=>by simp[bkL]
 |x::r,b=>by simp only[BD,bkL,oy r b];omega
theorem nv: ∀l:B6,bkL l.flatten=jj l
 | []=>rfl
 |a::r=>by simp only[List.flatten_cons,oy,jj,nv r]
structure Bulk where
 f: {H:Type}->DataW H->Nat
 g: {H:Type}->List (DataW H)->Nat
 str: ∀{H:Type}(b:B5),f (H:=H) (.lit (.string b))=b.length+1
 lit: ∀{H:Type}(l:Lit),1<=f (H:=H) (.lit l)
 nil: ∀{H:Type},f (H:=H) .nil=1
 slice: ∀{H:Type}(es sp:List (DataW H)),f (.slice es sp)=g es+g sp+1
 agg: ∀{H:Type}(es:List (DataW H)),f (.agg es)=g es+1
 none: ∀{H:Type},g (H:=H) []=0
 cons: ∀{H:Type}(d:DataW H)(r:List (DataW H)),g (d::r)=f d+g r
section
variable {H:Type} {enc:TypeId×Value->H} {P:Program} {w:World} {base:Nat} {spare:Nat->Bool} {held:Bool} {E:Env} {B:Bulk}
theorem Bp {α β:Type}{f:α->Option β}: ∀{l:List α}{r:List β},l.mapM f=some r->r.length=l.length/\ ∀i,i<l.length-> ∃a b,l[i]? =some a/\r[i]? =some b/\f a=some b
 | [],r,h=>by
  grind
 |x::l,r,h=>by
  simp only[List.mapM_cons,Option.pure_def,Option.bind_eq_bind,Option.bind_eq_some_iff,Option.some.injEq] at h;obtain ⟨y,h1,ys,h2,rfl⟩:=h;obtain ⟨q1,q2⟩:=Bp h2
  grind
theorem DY {a:Addr}{n:Nat}{cs:List Value}(h:w.cells? base a n=some cs):cs.length=n/\ ∀j,j<n->w.cell? (a.add j)=some (cs.getD j undef):=by
 grind [World.cells?,Bp,List.length_range]
structure CellsV (E:Env)(B:Bulk)(τ:Ty)(cs:List Value)(d:DataW H)(as:B7):Prop where
 t:τ.T as
 len:as.length=cs.length
 cells:cs.length=τ.cells
 one: ∀i,i<as.length->(cs.getD i undef).oneCell'=true
 v: ∀i,i<as.length->V E (cs.getD i undef) (as.getD i .any)
 bk:bkL as<=B.f d
theorem mf {τ:Ty}{v:Value}{d:DataW H}{a:AV}(ht:τ.T [a])(hc:τ.cells=1)(h1:v.oneCell'=true)(hv:V E v a)(hb:a.bk<=B.f d):CellsV E B τ [v] d [a] where
 t:=ht
 len:=rfl
 cells:=by rw[hc];rfl
 one i hi:=by
  grind
 v i hi:=by
  grind
 bk:=by grind [bkL]
theorem aa6 (a:Addr)(i j:Nat)(ha:a.spot=none):(a.add i).add j=⟨a.block,a.off+i+j,none⟩:=by
 obtain ⟨b,o,s⟩:=a
 grind [Addr.add]
theorem ab8 (hro: ∀b o u,w.cell? ⟨b,o,none⟩=some u->u.oneCell'=true->E.ro b o u){τ:Ty}{e:TypeId}(hτ:τ.cells=P.cellsOf e)(h0:0<τ.cells){r:List Value->Option (DataW H×List MemPlace)}(ih: ∀cs d ps,r cs=some (d,ps)-> ∃as,CellsV E B τ cs d as){a:Addr}{len:Nat}{es:List (DataW H×List MemPlace)}(h:((List.range len).mapM λi=>(w.cells? base (a.add (i*P.cellsOf e)) (P.cellsOf e)).bind r)=some es):
  ∃(ess:B6)(u:Nat->Nat->Value),ess.length=len/\(∀x∈ess,τ.T x)/\(∀i,i<ess.length->(ess.getD i []).length=τ.cells)/\(ess≠ []->a.spot=none)/\
   (∀i,i<ess.length-> ∀j,j<τ.cells->E.ro a.block (a.off+i*τ.cells+j) (u i j))/\(∀i,i<ess.length-> ∀j,j<τ.cells->V E (u i j) ((ess.getD i []).getD j .any))/\
   jj ess<=B.g (es.map (·.1)):=by
 obtain ⟨hlen,hat⟩:=Bp h;rw[List.length_range] at hlen hat
 have hrow: ∀i,i<len-> ∃d ps cs as,es[i]? =some (d,ps)/\w.cells? base (a.add (i*P.cellsOf e)) (P.cellsOf e)=some cs/\CellsV E B τ cs d as:=λi hi=>by
  grind [Option.bind_eq_some_iff]
 have hspot:0<len->a.spot=none:=λhl=>by
  obtain ⟨d,ps,cs,as,q1,q2,q3⟩:=hrow 0 hl;obtain ⟨z1,z2⟩:=DY q2;have:=z2 0 (by grind)
  simp only[Nat.zero_mul,Addr.add,if_true] at this;unfold World.cell? at this;split at this
  all_goals simp_all
 -- the rows, one after the other
 have key: ∀n,n<=len-> ∃(ess:B6)(u:Nat->Nat->Value),ess.length=n/\(∀x∈ess,τ.T x)/\(∀i,i<n->(ess.getD i []).length=τ.cells)/\
   (∀i,i<n-> ∀j,j<τ.cells->E.ro a.block (a.off+i*τ.cells+j) (u i j))/\(∀i,i<n-> ∀j,j<τ.cells->V E (u i j) ((ess.getD i []).getD j .any))/\
   jj ess<=B.g ((es.take n).map (·.1)):=by
  intro n
  induction n with
  |zero=>grind [jj]
  |succ n ihn=>
   intro hn;obtain ⟨ess,u,k1,k2,k3,k4,k5,k6⟩:=ihn (by omega)
   obtain ⟨d,ps,cs,as,q1,q2,q3⟩:=hrow n (by omega)
   obtain ⟨z1,z2⟩:=DY q2;have hal:as.length=τ.cells:=by rw[q3.len,q3.cells]
   have hg: ∀i,(ess++[as]).getD i []=if i<n then ess.getD i [] else if i=n then as else []:=λi=>by
    simp only[Ai]
    by_cases h1:i<n
    ·grind
    ·rw[Aa h1,Be (by omega)]
     by_cases h2:i=n
     ·subst h2;simp[k1]
     ·rw[Aa h2]
      rw[AA (by simp;omega)];rfl
   refine ⟨ess++[as],λi j=>if i<n then u i j else cs.getD j undef,by simp[k1],?_,?_,?_,?_,?_⟩
   ·intro x hx
    rcases BE.1 hx with hx|hx
    ·exact k2 x hx
    ·obtain rfl:=BO.1 hx;exact q3.t
   ·intro i hi
    rw[hg]
    by_cases h1:i<n
    all_goals grind
   ·intro i hi j hj
    by_cases h1:i<n
    ·grind
    ·obtain rfl:i=n:=by omega
     simp only[h1,if_false];refine hro _ _ _ ?_ (q3.one j (by omega))
     have:=z2 j (by omega)
     rw[aa6 _ _ _ (hspot (by omega)),<-hτ] at this
     exact this
   ·intro i hi j hj
    rw[hg]
    by_cases h1:i<n
    ·grind
    ·obtain rfl:i=n:=by omega
     simp only[h1,if_false,if_true];exact q3.v j (by omega)
   ·have e1:es.take (n+1)=es.take n++[(d,ps)]:=by
     grind [List.take_add_one]
    have e2:jj (ess++[as])=jj ess+bkL as:=by
     rw[<-nv,<-nv];simp[oy]
    have e3: ∀(l:List (DataW H))(d:DataW H),B.g (l++[d])=B.g l+B.f d:=λl=>by
     induction l with
     |nil=>intro d;simp[B.cons,B.none]
     |cons x r ih=>intro d;simp only[BD,B.cons,ih];omega
    rw[e1,e2];simp only[List.map_append,An,A6,e3];have:=q3.bk;omega
 obtain ⟨ess,u,k1,k2,k3,k4,k5,k6⟩:=key len (A7 _);refine ⟨ess,u,k1,k2,λi hi=>k3 i (by omega),λhne=>hspot ?_,λi hi=>k4 i (by omega),λi hi=>k5 i (by omega),by grind⟩
 grind
end
open Go.RowKit
section
variable {H:Type} {enc:TypeId×Value->H} {P:Program} {w:World} {base:Nat} {held:Bool} {E:Env} {B:Bulk}
theorem Dq {r:TypeId->List Value->Option (DataW H×List MemPlace)}{q:TypeId->Option Ty}(ih: ∀t τ cs d ps,q t=some τ->r t cs=some (d,ps)-> ∃as,CellsV E B τ cs d as)(cs:List Value):
  ∀(fs:List Field)(off:Nat)(l:List Ty)(xs:List (DataW H×List MemPlace)),tyF P q off fs=some l->
   fs.mapM (λf=>r f.type ((cs.drop f.offset).take (P.cellsOf f.type)))=some xs->cs.length=off+pQ l->
   ∃as,TT l as/\as.length=pQ l/\(∀i,i<as.length->(cs.getD (off+i) undef).oneCell'=true)/\(∀i,i<as.length->V E (cs.getD (off+i) undef) (as.getD i .any))/\bkL as<=B.g (xs.map (·.1))
 | [],off,l,xs,h1,h2,h3=>by
  obtain rfl: []=l:=by grind [tyF]
  exact ⟨[],rfl,rfl,by simp,by simp,by simp[bkL]⟩
 |f::fs,off,l,xs,h1,h2,h3=>by
  simp only[tyF] at h1;split at h1
  ·rename_i τ hτ
   split at h1
   ·rename_i hc
    obtain ⟨rfl,hc2⟩:=hc;obtain ⟨l',hl,rfl⟩:=map_some h1;simp only[List.mapM_cons,Option.pure_def,Option.bind_eq_bind,Option.bind_eq_some_iff,Option.some.injEq] at h2;obtain ⟨x,q1,ys,q2,rfl⟩:=h2;obtain ⟨a,ha⟩:=ih f.type τ _ x.1 x.2 hτ q1;simp only[pQ] at h3;obtain ⟨b,k1,k2,k3,k4,k5⟩:=Dq ih cs fs (f.offset+τ.cells) l' ys hl q2 (by omega)
    have hal:a.length=τ.cells:=by rw[ha.len,ha.cells]
    have hg: ∀i,i<a.length->((cs.drop f.offset).take (P.cellsOf f.type)).getD i undef=cs.getD (f.offset+i) undef:=λi hi=>by
     grind
    refine ⟨a++b,⟨a,b,rfl,ha.t,k1⟩,by grind [pQ],λi hi=>?_,λi hi=>?_,?_⟩
    ·by_cases h:i<a.length
     ·have:=ha.one i h;grind
     ·have:=k3 (i-a.length) (by grind)
      grind
    ·by_cases h:i<a.length
     ·have:=ha.v i h;grind
     grind
    ·have:=ha.bk
     simp only[An,B.cons,oy];omega
   ·cases h1
  ·cases h1
theorem OB {r:List Value->Option (DataW H×List MemPlace)}{τ:Ty}{e:TypeId}(hτ:τ.cells=P.cellsOf e)(ih: ∀cs d ps,r cs=some (d,ps)-> ∃as,CellsV E B τ cs d as)(cs:List Value):
  ∀(n k:Nat)(xs:List (DataW H×List MemPlace)),(List.range' k n).mapM (λi=>r ((cs.drop (i*P.cellsOf e)).take (P.cellsOf e)))=some xs->cs.length=(k+n)*τ.cells->
   ∃l:B6,l.length=n/\(∀x∈l,τ.T x)/\l.flatten.length=n*τ.cells/\(∀i,i<l.flatten.length->(cs.getD (k*τ.cells+i) undef).oneCell'=true)/\
    (∀i,i<l.flatten.length->V E (cs.getD (k*τ.cells+i) undef) (l.flatten.getD i .any))/\jj l<=B.g (xs.map (·.1))
 |0,k,xs,h,_=>⟨[],rfl,by simp,by simp,by simp,by simp,by simp[jj]⟩
 |n+1,k,xs,h,hl=>by
  rw[List.range'_succ] at h;simp only[List.mapM_cons,Option.pure_def,Option.bind_eq_bind,Option.bind_eq_some_iff,Option.some.injEq] at h;obtain ⟨x,q1,ys,q2,rfl⟩:=h;obtain ⟨a,ha⟩:=ih _ x.1 x.2 q1;obtain ⟨l,k1,k2,k3,k4,k5,k6⟩:=OB hτ ih cs n (k+1) ys q2 (by grind)
  have hal:a.length=τ.cells:=by rw[ha.len,ha.cells]
  have hm:(k+1)*τ.cells=k*τ.cells+τ.cells:=Nat.succ_mul _ _
  have hg: ∀i,i<a.length->((cs.drop (k*P.cellsOf e)).take (P.cellsOf e)).getD i undef=cs.getD (k*τ.cells+i) undef:=λi hi=>by
   grind
  refine ⟨a::l,by simp[k1],?_,by grind,λi hi=>?_,λi hi=>?_,?_⟩
  ·intro y hy
   rcases AI.1 hy with rfl|hy
   ·exact ha.t
   grind
  ·simp only[List.flatten_cons,Ao] at hi
   by_cases h:i<a.length
   ·have:=ha.one i h;grind
   ·have:=k4 (i-a.length) (by omega)
    grind
  ·simp only[List.flatten_cons,Ao] at hi⊢
   by_cases h:i<a.length
   ·have:=ha.v i h;grind
   ·have:=k5 (i-a.length) (by omega)
    rw[hm,show k*τ.cells+τ.cells+(i-a.length)=k*τ.cells+i from by omega] at this
    grind
  ·have:=ha.bk
   simp only[An,B.cons,jj];omega
theorem abT (hro: ∀b o u,w.cell? ⟨b,o,none⟩=some u->u.oneCell'=true->E.ro b o u): ∀(m:Nat)(t:TypeId)(τ:Ty)(n:Nat)(cs:List Value)(d:DataW H)(ps:List MemPlace),
  rG P m t=some τ->DataW.trod enc P w base (λ_=>true) held n t cs=some (d,ps)-> ∃as,CellsV E B τ cs d as:=by
 intro m
 induction m with
 |zero=>intro t τ n cs d ps h;cases h
 |succ m ih=>
  intro t τ n cs d ps hty h;cases n with
  |zero=>cases h
  |succ n=>
   simp only[rG] at hty;split at hty
   ·rename_i hu
    obtain rfl:=Ad hty;simp only[DataW.trod,hu] at h;split at h<;>rename_i hy<;>try (injections;done)
    all_goals first
     |(obtain ⟨rfl,rfl⟩:=Prod.mk.inj (Ad h);exact ⟨_,mf ⟨_,rfl⟩ rfl rfl (.bool _) (B.lit _)⟩)
     |(cases h;done)
   ·rename_i k hu
    obtain rfl:=Ad hty;simp only[DataW.trod,hu] at h;split at h<;>rename_i hy<;>(first|(injections;done)|(cases h;done)|cases hy)
    split at h
    ·rename_i hc
     obtain ⟨rfl,rfl⟩:=Prod.mk.inj (Ad h);obtain ⟨rfl,hw⟩:=hc;simp only[Lit.wf,At,AK] at hw;exact ⟨_,mf ⟨_,rfl,hw.1,hw.2⟩ rfl rfl (.int _ _) (B.lit _)⟩
    ·cases h
   ·rename_i hu
    obtain rfl:=Ad hty;simp only[DataW.trod,hu] at h;split at h<;>rename_i hy<;>(first|(injections;done)|(cases h;done)|cases hy)
    split at h
    ·rename_i s hc
     obtain ⟨rfl,rfl⟩:=Prod.mk.inj (Ad h);refine ⟨[.str s.data.toList],mf ⟨_,rfl,by simp_all⟩ rfl rfl ?_ (by rw[B.str];simp[AV.bk])⟩
     have:V E (.string ⟨s.data.toList.toArray⟩) (.str s.data.toList):=.str _;simp_all
    ·cases h
   ·rename_i e hu
    split at hty
    ·rename_i τ' hτ'
     split at hty
     ·rename_i hc
      obtain rfl:=Ad hty;simp only[DataW.trod,hu] at h;split at h<;>rename_i hy<;>(first|(injections;done)|(cases h;done)|cases hy)
      ·obtain ⟨rfl,rfl⟩:=Prod.mk.inj (Ad h)
       refine ⟨[.sl τ'.cells []],mf ⟨[],rfl,by simp,by simp⟩ rfl rfl ?_ (by rw[B.nil];simp[AV.bk,jj])⟩
       exact .sl _ [] _ 0 0 rfl (by simp) (A7 _) (λ_ _=>undef) (λq=>absurd rfl q) (by simp)
      ·rename_i a len cap
       split at h
       ·rename_i hb
        simp only[if_true,Option.bind_eq_some_iff] at h;obtain ⟨elems,h1,h2⟩:=h;obtain ⟨rest,h3,h4⟩:=map_some h2;obtain ⟨rfl,rfl⟩:=Prod.mk.inj h4;obtain ⟨ess,u,k1,k2,k3,k4,k5,k6,k7⟩:=ab8 (E:=E) (B:=B) (P:=P) (w:=w) (base:=base) hro hc.2 hc.1 (λcs d ps hr=>ih e τ' n cs d ps hτ' hr) h1
        refine ⟨[.sl τ'.cells ess],mf ⟨ess,rfl,k2,by omega⟩ rfl rfl ?_ (by rw[B.slice];grind [AV.bk])⟩
        refine .sl _ ess _ len cap k1.symm k3 hb.2.1 u (λhne=>⟨a.block,a.off,?_,k5⟩) k6
        have:=k4 hne;obtain ⟨b,o,s⟩:=a
        grind
       ·cases h
     ·cases hty
    ·cases hty
   ·rename_i fs hu
    split at hty
    ·rename_i l hl
     split at hty
     ·rename_i hc
      obtain rfl:=Ad hty;simp only[DataW.trod,hu] at h;split at h
      ·rename_i hcl
       obtain ⟨xs,h1,h2⟩:=map_some h;obtain ⟨rfl,rfl⟩:=Prod.mk.inj h2;obtain ⟨as,k1,k2,k3,k4,k5⟩:=Dq (P:=P) (λt τ cs d ps q r=>ih t τ n cs d ps q r) cs fs.toList 0 l xs hl h1 (by grind)
       refine ⟨as,⟨k1,by grind,by rw[hcl,<-hc];rfl,λi hi=>by grind,λi hi=>by grind,by rw[B.agg];omega⟩⟩
      ·cases h
     ·cases hty
    ·cases hty
   ·rename_i k e hu
    split at hty
    ·rename_i τ' hτ'
     split at hty
     ·rename_i hc
      obtain rfl:=Ad hty;simp only[DataW.trod,hu] at h;split at h
      ·rename_i hcl
       obtain ⟨xs,h1,h2⟩:=map_some h;obtain ⟨rfl,rfl⟩:=Prod.mk.inj h2;rw[List.range_eq_range'] at h1;obtain ⟨l,k1,k2,k3,k4,k5,k6⟩:=OB hc.1 (λcs d ps r=>ih e τ' n cs d ps hτ' r) cs k 0 xs h1 (by grind)
       refine ⟨l.flatten,⟨⟨l,k1,rfl,k2⟩,by grind,by rw[hcl,<-hc.2];rfl,λi hi=>by grind,λi hi=>by grind,by rw[B.agg,nv];omega⟩⟩
      ·cases h
     ·cases hty
    ·cases hty
   ·cases hty
def Sg:Ty->B7->AV
 | .st _,as=>.agg as
 | .arr _ _,as=>.agg as
 |_,[a]=>a
 |_,_=>.any
def sG:List Ty->B6->Prop
 | [],[]=>True
 |τ::r,a::s=>τ.T a/\sG r s
 |_,_=>False
def qz:List Ty->B6->B7
 |τ::r,a::s=>Sg τ a::qz r s
 |_,_=>[]
def vh (P:Program)(m:Nat):List TypeId->Option (List Ty)
 | []=>some []
 |t::r=>match rG P m t,vh P m r with
  |some τ,some l=>some (τ::l)
  |_,_=>none
end
open Go.RowKit
def Ty.isAgg:Ty->Bool
 | .st _=>true
 | .arr _ _=>true
 |_=>false
def PJ (P:Program)(t:TypeId):Bool:=P.readableRec t&&decide (t<P.types.size)
section
variable {H:Type} {enc:TypeId×Value->H} {P:Program} {w:World} {E:Env} {B:Bulk} {N:Nums} {G:Nat->Fun}
theorem Yl {m:Nat}{t:TypeId}{τ:Ty}(h:rG P m t=some τ):(τ.isAgg=true/\((∃fs,P.underlying t=some (.struct fs))∨ ∃n e,P.underlying t=some (.array n e)))∨
  (τ.isAgg=false/\(∀a,Sg τ [a]=a)/\(P.underlying t=some .bool∨(∃k,P.underlying t=some (.int k))∨P.underlying t=some .string∨ ∃e,P.underlying t=some (.slice e))):=by
 cases m with
 |zero=>cases h
 |succ m=>
  simp only[rG] at h;split at h
  ·obtain rfl:=Ad h
   rename_i hu;exact .inr ⟨rfl,λa=>rfl,.inl hu⟩
  ·obtain rfl:=Ad h
   rename_i hu;exact .inr ⟨rfl,λa=>rfl,.inr (.inl ⟨_,hu⟩)⟩
  ·obtain rfl:=Ad h
   rename_i hu;exact .inr ⟨rfl,λa=>rfl,.inr (.inr (.inl hu))⟩
  ·rename_i hu
   split at h
   ·split at h
    ·obtain rfl:=Ad h
     exact .inr ⟨rfl,λa=>rfl,.inr (.inr (.inr ⟨_,hu⟩))⟩
    ·cases h
   ·cases h
  ·rename_i hu
   split at h
   ·split at h
    ·obtain rfl:=Ad h
     exact .inl ⟨rfl,.inl ⟨_,hu⟩⟩
    ·cases h
   ·cases h
  ·rename_i hu
   split at h
   ·split at h
    ·obtain rfl:=Ad h
     exact .inl ⟨rfl,.inr ⟨_,_,hu⟩⟩
    ·cases h
   ·cases h
  ·cases h
theorem ago (hro: ∀b o u,w.cell? ⟨b,o,none⟩=some u->u.oneCell'=true->E.ro b o u){m:Nat}{t:TypeId}{τ:Ty}(hτ:rG P m t=some τ){base:Nat}{v:Value}{d:DataW H}{ps:List MemPlace}(hok:Value.okWide P w .any base t v)(h:DataW.Trod enc P w 0 (λ_=>true) true t v d ps): ∃as,τ.T as/\V E v (Sg τ as)/\bkL as<=B.f d:=by
 obtain ⟨n,hn⟩:=h;obtain ⟨as,hA⟩:=abT (E:=E) (B:=B) hro m t τ n _ d ps hτ hn;refine ⟨as,hA.t,?_,hA.bk⟩;rcases Yl hτ with ⟨h1,h2⟩|⟨h1,h2,h3⟩
 ·have hv: ∃cs:Array Value,v= .agg cs:=by
   grind [Value.okWide]
  obtain ⟨cs,rfl⟩:=hv;have e:Sg τ as= .agg as:=by cases τ<;>simp[Ty.isAgg] at h1<;>rfl
  rw[e]
  have ecs: ∀i,((Value.agg cs).cells.toList).getD i undef=cs.getD i undef:=λi=>by
   simp[Value.cells,Ai,Aj]
  refine .agg cs as (by have:=hA.len;grind [Value.cells]) (λi hi=>?_) λi hi=>?_
  ·rw[<-ecs];exact hA.one i hi
  ·rw[<-ecs];exact hA.v i hi
 ·have hv:v.cells.toList= [v]:=by
   rcases h3 with hu|⟨k,hu⟩|hu|⟨e,hu⟩<;>simp only[Value.okWide,hu,Cell.okWide] at hok<;>cases v<;>simp_all[Cell.ok,Value.cells]
  have hl:=hA.len;rw[hv] at hl;obtain ⟨a,rfl⟩: ∃a,as= [a]:=List.length_eq_one_iff.1 (by grind)
  rw[h2];have:=hA.v 0 (by simp)
  grind
theorem OC (hro: ∀b o u,w.cell? ⟨b,o,none⟩=some u->u.oneCell'=true->E.ro b o u){m:Nat}{base:Nat}: ∀{ts:List TypeId}{τs:List Ty}{vs:List Value}{ds:List (DataW H)}{ps:List MemPlace},vh P m ts=some τs->
  (∀(j:Nat) t v,ts[j]? =some t->vs[j]? =some v->Value.okWide P w .any base t v)->DataW.TrodAll enc P w 0 (λ_=>true) true ts vs ds ps->
  ∃ass,sG τs ass/\(qz τs ass).length=vs.length/\(∀i,i<vs.length->V E (vs.getD i undef) ((qz τs ass).getD i .any))/\jj ass<=B.g ds
 | [],τs,[],[],ps,h1,h2,h3=>by
  obtain rfl: []=τs:=by grind [vh]
  exact ⟨[],trivial,rfl,by simp,by simp[jj]⟩
 |t::ts,τs,v::vs,d::ds,ps,h1,h2,h3=>by
  simp only[vh] at h1;split at h1
  ·rename_i τ l q1 q2
   obtain rfl:=Ad h1;obtain ⟨p,q,z1,z2,z3⟩:=h3;obtain ⟨as,k1,k2,k3⟩:=ago (E:=E) (B:=B) hro q1 (h2 0 t v rfl rfl) z1;obtain ⟨ass,y1,y2,y3,y4⟩:=OC hro q2 (λj t v a b=>h2 (j+1) t v (by simpa using a) (by simpa using b)) z2
   refine ⟨as::ass,⟨k1,y1⟩,by grind [qz],λi hi=>?_,by simp only[jj,B.cons];omega⟩
   grind [qz]
  ·cases h1
 | [],_,_::_,_,_,_,_,h3=>h3.elim
 | [],_,[],_::_,_,_,_,h3=>h3.elim
 |_::_,_,[],_,_,_,_,h3=>h3.elim
 |_::_,_,_::_,[],_,_,_,h3=>h3.elim
theorem vR {base:Nat}{spare:Nat->Bool}{held:Bool}: ∀{ts:List TypeId}{vs:List Value}{ds:List (DataW H)}{ps:List MemPlace},DataW.TrodAll enc P w base spare held ts vs ds ps->ds.length=ts.length
 | [],[],[],_,_=>rfl
 |_::_,_::_,_::_,_,h=>by
  obtain ⟨p,q,h1,h2,h3⟩:=h;simp[vR h2]
 | [],_::_,_,_,h=>h.elim
 | [],[],_::_,_,h=>h.elim
 |_::_,[],_,_,h=>h.elim
 |_::_,_::_,[],_,h=>h.elim
def GlW (N:Nums)(W:World):Prop:= ∀g cs,N.gl g=some cs-> ∃u:Nat->Value,∀j,j<cs.length->W.cell? ⟨g,j,none⟩=some (u j)/\(u j).oneCell'=true/\ ∀E,V E (u j) (cs.getD j .any)
section
variable {N:Nums}{C:Ctx}{W:World}
theorem YQ (h:N.gl=λ_=>none)(W:World):GlW N W:=λg cs hg=>by grind
def GoW (N:Nums)(W:World):Prop:= ∀g o,N.go g=some o->W.heap[g]? =some o
theorem aft (hgo:GoW N W)(hw:C.W0=W)(hX: ∀b,¬C.X b)(hS: ∀b,¬C.S0 b):GoC N C:=λg o hg=>by
 have h1:=hgo g o hg
 grind
theorem aaZ {w:World}{a:Addr}{u:Value}(h:w.cell? a=some u):a.block<w.heap.size:=by
 grind [World.cell?]
theorem afu (hgl:GlW N W)(hw:C.W0=W)(hX: ∀b,¬C.X b)(hS: ∀b,¬C.S0 b):GlC N C:=λg cs hg _=>by
 obtain ⟨u,hu⟩:=hgl g cs hg;refine .rp g 0 cs u (λj hj=>?_) λj hj=>(hu j hj).2.2 _
 obtain ⟨h1,h2,_⟩:=hu j hj;have:=aaZ h1;rw[<-hw] at h1 this;exact ⟨this,hX g,hS g,by grind,h2⟩
end
theorem Yf {W:World}(hgl:GlW N W)(hgo:GoW N W)(hG:GOk P N G)(hm:P.follows .mixedOrders=true)(hl:laidOutB P=true){f k:Nat}{fn:Func}(hf:N.num f=k){tb:TypeId}(hb:P.underlying tb=some .bool)(hres:fn.resultTypes= #[tb]){m:Nat}{τs:List Ty}(hτ:vh P m fn.params.toList=some τs)(hpar:fn.params.toList.all (PJ P)=true){s:ChangeSpec}(hvars:s.vars= [])(hspec: ∀(ds:List (DataW H)),ds.length=fn.params.size->(s.fn H ds).results= [.lit (.bool true)]/\(s.fn H ds).args=ds/\(s.fn H ds).vars= []){base:Nat}{args:Array Value}{ds gs:List (DataW H)}{before:List MemPlace}(hval: ∀(j:Nat) t v,fn.params[j]? =some t->args[j]? =some v->Value.okWide P W .any base t v)(hW:DataW.Whole enc P fn.params.toList s.vars false W args.toList ds gs before)(hgive: ∀ass,sG τs ass->jj ass<=B.g (ds++gs)->ag G f (qz τs ass) [] ⟨.bool true,[]⟩):
  Calls P k args W λe W'=> ∃v,e= .returned v/\s.post enc P fn false true false false W args v W':=by
 have hW':=hW;obtain ⟨p,q,hA,hV,rfl,hfz,hnd⟩:=hW;rw[hvars] at hV
 have hgs:gs= []/\q= []:=by cases gs with
  |nil=>exact ⟨rfl,hV⟩
  |cons=>exact hV.elim
 obtain ⟨rfl,rfl⟩:=hgs;subst hf
 let C:Ctx:= {num:=N.num,tnum:=N.tnum,W0:=W,X:=λ_=>False,S0:=λ_=>False,π:=λ_=>⟨0,0,0,0,true⟩,n:=0}
 have hro: ∀b o u,W.cell? ⟨b,o,none⟩=some u->u.oneCell'=true->(aP C C.S0 C.π (ij 0) (hpB []) W).ro b o u:=λb o u h1 h2=>⟨id,h1,h2⟩
 obtain ⟨ass,k1,k2,k3,k4⟩:=OC (E:=aP C C.S0 C.π (ij 0) (hpB []) W) (B:=B) hro hτ (λj t v a b=>hval j t v (by simpa using a) (by simpa using b)) hA
 have hent:Entry C N args (qz τs ass) []:=by
  refine ⟨⟨rfl,afu hgl rfl (λ_ h=>h) (λ_ h=>h),aft hgo rfl (λ_ h=>h) (λ_ h=>h)⟩,rfl,⟨.refl _ _,λb h=>h.elim,λb h=>h.elim,λb h=>h.elim,λk g hu=>hu.2,λk g b q=>by grind [hpB],λk k' x x' q=>by grind,λk b q=>by grind⟩,by rw[k2];simp,λi hi=>?_⟩
  grind [Array.getD_eq_getD_getElem?]
 refine (jX hG hm (hgive ass k1 (by grind)) C args hent).mono λe W' he=>?_
 obtain ⟨v,rfl,S1,β1,hr⟩:=he;have hv:v= .bool true:=by have:=hr.val;generalize aP C S1 β1 _ _ W'=E' at this;cases this;rfl
 subst hv;have hbelow:Below W.heap.size W W':=Kept.below hr.kept;have hlen:=vR hA;obtain ⟨s1,s2,s3⟩:=hspec ds (by grind)
 have hlt:=hA.lt;refine ⟨_,rfl,ds,[],p++[],[],p,[],hW',?_,?_,?_,hbelow.frame _,λh=>by cases h⟩
 ·rw[Bb,s1,hres]
  exact ChangeShapes.trodAll_mk1 (shut_bool hb true)
 ·rw[Bb,s2]
  clear hW' hτ hval hent k1 k2 k3 k4 hgive hspec hfz hnd;generalize fn.params.toList=ts at hA hpar;generalize args.toList=vs at hA
  have go: ∀(ts:List TypeId)(vs:List Value)(ds:List (DataW H))(p:List MemPlace),(∀t∈ts,PJ P t=true)->(∀x∈p,x.block<W.heap.size)->DataW.TrodAll enc P W 0 (λ_=>true) true ts vs ds p->
    DataW.TrodAll enc P W' 0 (λb=>decide (b<W.heap.size)) true ts vs ds p:=by
   intro ts
   induction ts with
   | nil => intro vs ds p _ _ h
            match vs,ds,h with
            | [],[],h=>exact h
   | cons t ts ih => intro vs ds p ht hp h
                     match vs,ds,h with
                     |v::vs,d::ds,h=>
                      obtain ⟨p1,p2,h1,h2,rfl⟩:=h;have:=ht t (by simp)
                      simp only[PJ,At,AK] at this;exact ⟨p1,p2,Below.trod hl this.1 this.2 h1 hbelow (λx hx=>hp x (by simp[hx])),ih vs ds p2 (λt ht'=>ht t (by simp[ht'])) (λx hx=>hp x (by simp[hx])) h2,rfl⟩
  grind
 ·rw[Bb,s3,hvars];rfl
end
def OkF (P:Program)(N:Nums)(f:Nat):Fun->Prop
 | .code F=> ∃fn,P.funcs[N.num f]? =some fn/\ly P N F.raw fn=some F
 | .prim _ p=>(∃fn,P.funcs[N.num f]? =some fn/\fn.body.isSome=true/\fn.name≠ "runtime.NumGoroutine")/\ ∀args bs t,p args bs=some t->fq P N f args bs t
 | .none=>True
section
variable {P:Program}{N:Nums}
theorem uv {G:Nat->Fun}(h: ∀f,OkF P N f (G f)):GOk P N G:=h
theorem ay {f:Nat}{b:Bool}{x y:Fun}(h1:b=true->OkF P N f x)(h2:b=false->OkF P N f y):OkF P N f (bif b then x else y):=by
 grind
theorem ax {f k i:Nat}{F:AFunc}(hi:N.num k=i)(h:(P.funcs[i]?).bind (ly P N F.raw)=some F):OkF P N f (bif Nat.beq f k then .code F else .none):=by
 subst hi;refine ay (λe=>?_) λ_=>trivial
 obtain rfl:=Nat.eq_of_beq_eq_true e;obtain ⟨fn,h1,h2⟩:=Option.bind_eq_some_iff.1 h;exact ⟨fn,h1,h2⟩
end
theorem Se {τ:Ty}{r:List Ty}{ass:B6}(h:sG (τ::r) ass): ∃a s,ass=a::s/\τ.T a/\sG r s:=by
 cases ass with
 |nil=>exact h.elim
 |cons a s=>exact ⟨a,s,rfl,h.1,h.2⟩
theorem VT {ass:B6}(h:sG [] ass):ass= []:=by
 cases ass with
 |nil=>rfl
 |cons a s=>exact h.elim
def Ix (hg:Nat->Cl)(k:Nat):Bool:=match hg k with
 |some (_,b)=>b.pure
 |none=>true
section
variable (G:Nat->Fun)(n:Nat)
def aff (A:AS)(o:AOper):Cc:=match o.op with
 | .call f args=>match (f::args).map (evo A.tm) with
  | .fn f cap::as=>
   let args:=bif isB f then cap++as else as++cap
   let D:=gZ (aY A.hp) (G (bV f)).raw args
   let K:=(cm true args).filter λk=> !D.contains k&& !Ix (aY A.hp) k
   match K with
   | []=>[]
   |K=>
    let L:=bU (aY A.hp) K
    match L.filter (Ix (aY A.hp)) with
    | []=>(bU (aY A.hp) L).filter (Ix (aY A.hp))
    |P=>P
  |_=>[]
 |_=>[]
def OV (ih:Cfg->C3)(c:Cfg):C3:=
 match c.todo with
 | .inReg (o::_) _ _ false::_=>match aff G c.A o with
  | []=>ja G ih c
  |d::r=>ih {c with A:=c.A.frz (d::r)}
 |_=>ja G ih c
def Ag:Cfg->C3:=Nat.rec (λ_=>none) (λ_ ih=>OV G ih) n
theorem Tz (c:Cfg):Ag G (n+1) c=OV G (Ag G n) c:=rfl
end
theorem BV {G:Nat->Fun}: ∀(n:Nat){c:Cfg}{t:Ret},Ag G n c=some t->Ev G c t
 |0,_,_,h=>by cases h
 |n+1,c,t,h=>by
  have hs:ja G (Ag G n) c=some t->Ev G c t:=λh=>.step (Ag G n) (λ_ _ k=>BV n k) h
  rw[Tz] at h;obtain ⟨todo,A,rs,m⟩:=c;unfold OV at h;split at h
  ·rename_i o rest i dn k e
   dsimp only at e;subst e;split at h
   ·exact hs h
   ·rename_i d r _
    exact Ev.weakR (A':=A.frz (d::r)) ⟨rfl,λC U a w q=>q.frz _⟩ (BV n h)
  ·exact hs h
theorem Qx {G:Nat->Fun}{f:Nat}{F:AFunc}{args:B7}{bs:C5}{t:Ret}(n:Nat)(hf:G f= .code F)(hl:args.length=F.np)(h:Ag G n (F.start args bs)=some t):ag G f args bs t:=by
 grind [ag,BV]
open Classical in
theorem wT {G:Nat->Fun}{hp:az}{f g dst:Nat}{vals args':B7}{bs':C5}{R:Co}{a:AV}{k:Eff->Prop}(hG:ag G f args' bs' ⟨pnV a,R⟩)(h: ∀G':Nat->Fun,(G' f).raw=(G f).raw->ag G' f args' bs' ⟨a,R⟩->CallG G' hp f vals g dst False k):
  ∃c e,fg (aY hp) (G f).raw vals=some c/\ag G f c.args c.bs ⟨pnV a,R⟩/\ck (aY hp) c g dst ⟨a,R⟩=some e/\k e:=by
 let G':Nat->Fun:=λx=>if x=f then .prim (G f).raw (λas bs=>if as=args'/\bs=bs' then some ⟨a,R⟩ else none) else G x
 have hf:G' f= .prim (G f).raw (λas bs=>if as=args'/\bs=bs' then some ⟨a,R⟩ else none):=Ac rfl
 have hr:(G' f).raw=(G f).raw:=by rw[hf];rfl
 have hg:ag G' f args' bs' ⟨a,R⟩:=by unfold ag;rw[hf];simp
 cases h G' hr hg with
 |mk c r e h1 h2 h3 h4=>
  unfold ag at h2;rw[hf] at h2;dsimp only at h2;split at h2
  ·rename_i q
   obtain rfl:=Ad h2;rw[hr] at h1;exact ⟨c,e,h1,by rw[q.1,q.2];exact hG,h3,h4⟩
  ·cases h2
 |stop h=>exact h.elim
section
variable {G:Nat->Fun} {o:AOper} {rest:Cb} {i:Nat} {dn:Df} {k:C1} {tm:Cf} {hp:az} {ctr:Nat} {rs:CT} {m:Nat} {t:Ret}
open Classical in
theorem aH (f:Nat){cap vs args':B7}{bs':C5}{R:Co}{a:AV}{fo:Opd}{as:Do}(hG:ag G f args' bs' ⟨pnV a,R⟩)(h: ∀G':Nat->Fun,(G' f).raw=(G f).raw->ag G' f args' bs' ⟨a,R⟩->CallG G' hp f (vs++cap) (ctr+i) (o.dst.getD 0) False λe=>ef ⟨tm,e.wr++hp,ctr⟩ rs m e.res=some t)(hw:bL tm o.guard=some true:=by rfl)(hop:o.op= .call fo as:=by rfl)(hv:(fo::as).map (evo tm)= .fn f cap::vs:=by rfl)(hb:isB f=false:=by rfl):Ev G ⟨.inReg (o::rest) i dn false::k,⟨tm,hp,ctr⟩,rs,m⟩ t:=by
 obtain ⟨c,e,h1,h2,h3,h4⟩:=wT hG h;have hf0:bV f=f:=by unfold bV;rw[hb];rfl
 have hun:dv (pnV a)=some a:=rfl;unfold ag at h2;cases hGf:G f with
 |code F=>
  rw[hGf] at h2;refine .panS (e:=e) (λc'=>if c'=F.start c.args c.bs then some ⟨pnV a,R⟩ else none) (λc' t' q=>?_) hw ?_ h4
  ·try dsimp only at q
   split at q
   ·rename_i hc;rw[hc,<-Ad q];exact h2.2
   ·cases q
  ·unfold iR
   rw[hop]
   try dsimp only
   rw[hv];unfold nH
   try dsimp only
   rw[hf0,hb,cond_false,h1]
   try dsimp only
   rw[hGf]
   try dsimp only
   rw[Ac h2.1,Ac rfl]
   try dsimp only
   unfold jG;rw[hun];exact h3
 |prim raw p=>
  rw[hGf] at h2;refine .panS (e:=e) (λ_=>none) (λc' t' q=>by cases q) hw ?_ h4
  unfold iR;rw[hop]
  try dsimp only
  rw[hv];unfold nH
  try dsimp only
  rw[hf0,hb,cond_false,h1]
  try dsimp only
  rw[hGf];dsimp only at h2⊢;rw[h2]
  try dsimp only
  unfold jG;rw[hun];exact h3
 |none=>
  rw[hGf] at h2;exact h2.elim
theorem jN {x:Opd}{T:Nat}{v:AV}(ht:ef ⟨tm,hp,ctr⟩ rs m (.ifc T v)=some t)(hw:bL tm o.guard=some true:=by rfl)(hop:o.op= .panic x:=by rfl)(hv:evo tm x= .ifc T v:=by rfl):Ev G ⟨.inReg (o::rest) i dn false::k,⟨tm,hp,ctr⟩,rs,m⟩ t:=by
 refine .panS (e:= {res:=.ifc T v}) (λ_=>none) (λc' t' q=>by cases q) hw ?_ ht
 grind [iR]
end
inductive PB where
 |cells (cs:B7)
 |vec (s:Nat) (es:B6)
 |nest (s:Nat) (pre rows:B6)
abbrev Dr:=List (Bool×PB)
def PB.blk:PB->Blk
 | .cells cs=>.cells cs
 | .vec s es=>.vec s es
 | .nest s pre rows=>.vec s (pre++rows)
abbrev Pzs:=List (Nat×Nat×PB)
def zP:Pzs->Fzs
 | []=>[]
 |(k,g,b)::r=>(k,g,b.blk)::zP r
def mkR:Dr->Co
 | []=>[]
 |(f,b)::r=>(f,b.blk)::mkR r
theorem ra: ∀Z:Pzs,(zP Z).map (·.1)=Z.map (·.1)
 | []=>rfl
 |(k,g,b)::r=>by simp[zP,ra r]
def FW (Dz Fz:Fzs):B6->Prop
 | []=>True
 |a::r=>iJ Dz Fz a/\FW Dz Fz r
def yi (Dz Fz:Fzs):B6->B6
 | []=>[]
 |a::r=>iQ Dz Fz a::yi Dz Fz r
def Jh:B6->Cc
 | []=>[]
 |a::r=>kSL true a++Jh r
theorem qe (φ:Nat->Nat->Tgt): ∀a b:B6,fU φ (a++b)=fU φ a++fU φ b
 | [],b=>rfl
 |x::r,b=>by simp[fU,qe φ r b]
theorem yI (all:Bool): ∀a b:B6,iy all (a++b)=iy all a++iy all b
 | [],b=>rfl
 |x::r,b=>by simp[iy,yI all r b]
theorem CR {Dz Fz:Fzs}: ∀l:B6,FW Dz Fz l->fU (φX Dz Fz) l=yi Dz Fz l
 | [],_=>rfl
 |a::r,h=>by simp only[fU,yi];rw[iI a h.1,CR r h.2]
theorem N9 {Dz Fz:Fzs}: ∀l:B6,FW Dz Fz l->iy true l=Jh l
 | [],_=>rfl
 |a::r,h=>by simp only[iy,Jh];rw[iY a h.1,N9 r h.2]
def PB.okX (Dz Fz:Fzs):PB->Prop
 | .cells cs=>iJ Dz Fz cs
 | .vec _ es=>ab es=true
 | .nest _ pre rows=>ab pre=true/\FW Dz Fz rows
def PB.renX (Dz Fz:Fzs):PB->PB
 | .cells cs=>.cells (iQ Dz Fz cs)
 | .vec s es=>.vec s es
 | .nest s pre rows=>.nest s pre (yi Dz Fz rows)
def PB.kS:PB->Cc
 | .cells cs=>kSL true cs
 | .vec _ _=>[]
 | .nest _ _ rows=>Jh rows
section
variable {Dz Fz:Fzs}{b:PB}(h:b.okX Dz Fz)
include h
theorem PB.renX_eq:b.blk.ren (φX Dz Fz)=(b.renX Dz Fz).blk:=by
 cases b with
 |cells cs=>exact congrArg Blk.cells (iI cs h)
 |vec s es=>exact congrArg (Blk.vec s) (dh _ es h)
 |nest s pre rows=>exact congrArg (Blk.vec s) (by rw[qe,dh _ pre h.1,CR rows h.2])
theorem PB.kS_eq:b.blk.keys=b.kS:=by
 cases b with
 |cells cs=>exact iY cs h
 |vec s es=>exact jn true es h
 |nest s pre rows=>exact (by rw[yI,jn true pre h.1,N9 rows h.2];rfl:iy true (pre++rows)=Jh rows)
end
def bZ (Dz Fz:Fzs):Pzs->C5
 | []=>[]
 |(_,_,b)::r=>(b.renX Dz Fz).blk::bZ Dz Fz r
def j9 (Dz Fz:Fzs):Pzs->Prop
 | []=>True
 |(_,_,b)::r=>b.okX Dz Fz/\j9 Dz Fz r
theorem abH {Dz Fz:Fzs}: ∀{Z:Pzs},j9 Dz Fz Z->((zP Z).map λx=>x.2.2.ren (φX Dz Fz))=bZ Dz Fz Z
 | [],_=>rfl
 |(k,g,b)::r,h=>by simp only[zP,An,bZ];rw[PB.renX_eq h.1,abH h.2]
theorem OA {Dz Fz:Fzs}: ∀{Z:Pzs},j9 Dz Fz Z-> ∀x∈Z,x.2.2.okX Dz Fz
 |(k,g,b)::r,h,x,hx=>by
  rcases AI.1 hx with rfl|hx
  ·exact h.1
  ·exact OA h.2 x hx
def ji (Z:Pzs):Cc->Cc
 | []=>[]
 |k::r=>one Z k++ji Z r
where one:Pzs->Nat->Cc
 | [],_=>[]
 |(k',_,b)::r,k=>bif Nat.beq k' k then b.kS else one r k
theorem Uc: ∀{Z:Pzs}{hp:az},AtOk hp (zP Z)-> ∀k∈Z.map (·.1),∃x∈Z,ji.one Z k=x.2.2.kS/\aY hp k=some (x.2.1,x.2.2.blk)
 |(k',g,b)::r,hp,h,k,hk=>by
  by_cases e:k'=k
  ·subst e
   exact ⟨(k',g,b),by simp,by simp[ji.one],bG.1 h.1⟩
  ·obtain ⟨x,h1,h2,h3⟩:=Uc (Z:=r) h.2 k (by grind)
   grind [ji.one,fh]
theorem xF {hp:az}{Z:Pzs}{Dz Fz:Fzs}(hA:AtOk hp (zP Z))(hb:j9 Dz Fz Z): ∀D:Cc,(∀k∈D,(∃x,aY hp k=some x)->k∈Z.map (·.1))->(∀k∈D,k∉Z.map (·.1)->aY hp k=none)->bU (aY hp) D=ji Z D
 | [],_,_=>rfl
 |k::r,h,h'=>by
  simp only[bU,ji];rw[xF hA hb r (λx hx=>h x (by simp[hx])) λx hx=>h' x (by simp[hx])]
  congr 1
  by_cases hk:k∈Z.map (·.1)
  ·obtain ⟨x,h1,h2,h3⟩:=Uc hA k hk
   rw[h2,h3];exact PB.kS_eq (OA hb x h1)
  ·rw[h' k (by simp) hk]
   have: ∀{Z:Pzs},k∉Z.map (·.1)->ji.one Z k= []:=by
    intro Z
    induction Z<;>grind [ji.one,fh]
   grind
def JU (Z:Pzs)(E:Cc):Cc:=E++fy ((ji Z E).filter λk=> !E.contains k)
def JS (Z:Pzs)(raw:Bool)(args:B7):Cc:=
 match kSL raw args with
 | []=>[]
 |D=>JU Z (fy ((D++ji Z D)++ji Z (D++ji Z D)))
theorem ado {hp:az}{raw:Bool}{args:B7}{Z:Pzs}{Fz:Fzs}(hD:AtOk hp (zP Z))(hok:iJ (zP Z) Fz args)(hbok:j9 (zP Z) Fz Z)(hE:JS Z raw args=Z.map (·.1)):gZ (aY hp) raw args=(zP Z).map (·.1):=by
 rw[ra,<-hE];unfold gZ JS;rw[iY args hok];have key: ∀D:Cc,(∀k∈D,k∈Z.map (·.1))->bU (aY hp) D=ji Z D:=λD h=>xF hD hbok D (λk hk _=>h k hk) λk hk hn=>absurd (h k hk) hn
 cases hk:kSL raw args<;>grind [JS,eF,ru,JU]
def P8:B6->Prop
 | []=>True
 |a::r=>se a/\P8 r
def yj (φ:Nat->Nat->Tgt):B6->B6
 | []=>[]
 |a::r=>oo φ a::yj φ r
theorem CU {φ:Nat->Nat->Tgt}(hφ:NoFrz φ): ∀l:B6,P8 l->fU φ l=yj φ l
 | [],_=>rfl
 |a::r,h=>by simp only[fU,yj];rw[kJ hφ a h.1,CU hφ r h.2]
def PB.okS:PB->Prop
 | .cells cs=>se cs
 | .vec _ es=>ab es=true
 | .nest _ pre rows=>ab pre=true/\P8 rows
def PB.renS (φ:Nat->Nat->Tgt):PB->PB
 | .cells cs=>.cells (oo φ cs)
 | .vec s es=>.vec s es
 | .nest s pre rows=>.nest s pre (yj φ rows)
theorem PB.renS_eq {φ:Nat->Nat->Tgt}(hφ:NoFrz φ){b:PB}(h:b.okS):b.blk.ren φ=(b.renS φ).blk:=by
 cases b with
 |cells cs=>exact congrArg Blk.cells (kJ hφ cs h)
 |vec s es=>exact congrArg (Blk.vec s) (dh _ es h)
 |nest s pre rows=>exact congrArg (Blk.vec s) (by rw[qe,dh _ pre h.1,CU hφ rows h.2])
def Gj:Dr->Prop
 | []=>True
 |(_,b)::r=>b.okS/\Gj r
def wP (ψ:Nat->Nat->Tgt):Cc->Cc->Dr->Pzs
 |k::K,g::Q,(_,b)::R=>(k,g,b.renS ψ)::wP ψ K Q R
 |_,_,_=>[]
def hP:Pzs->az
 | []=>[]
 |(k,g,b)::r=>(k,some (g,b.blk))::hP r
theorem abe {ψ:Nat->Nat->Tgt}(hψ:NoFrz ψ): ∀{R:Dr}(K Q:Cc),Gj R->wX ψ K Q (mkR R)=hP (wP ψ K Q R)
 | [],K,Q,_=>by cases K<;>cases Q<;>rfl
 |(fl,b)::R,[],_,_=>rfl
 |(fl,b)::R,_::_,[],_=>rfl
 |(fl,b)::R,k::K,g::Q,h=>by simp only[mkR,wX,wP,hP];rw[PB.renS_eq hψ h.1,abe hψ K Q h.2]
def fP:Pzs->(az->Prop)->Prop
 | [],K=>K []
 |(k,g,.cells cs)::r,K=>fL cs λcs=>fP r λl=>K ((k,some (g,.cells cs))::l)
 |(k,g,.vec s es)::r,K=>fP r λl=>K ((k,some (g,.vec s es))::l)
 |(k,g,.nest s pre rows)::r,K=>fLL rows λrows=>fP r λl=>K ((k,some (g,.vec s (pre++rows)))::l)
theorem y9: ∀{l:Pzs}{K:az->Prop},fP l K↔K (hP l)
 | [],K=>Iff.rfl
 |(k,g,.cells cs)::r,K=>by simp only[fP];rw[pg];exact y9
 |(k,g,.vec s es)::r,K=>by simp only[fP];exact y9
 |(k,g,.nest s pre rows)::r,K=>by simp only[fP];rw[Bx];exact y9
theorem yH: ∀R:Dr,(mkR R).length=R.length
 | []=>rfl
 |(f,b)::r=>by simp[mkR,yH r]
theorem MZ (R:Dr):(mkR R).isEmpty=R.isEmpty:=by cases R<;>rfl
theorem CH: ∀Z:Pzs,(zP Z).length=Z.length
 | []=>rfl
 |(k,g,b)::r=>by simp[zP,CH r]
theorem ahw {G:Nat->Fun}{hp:az}{f:Nat}{args:B7}{g dst:Nat}{E:Prop}{k:Eff->Prop}{r:AV}{R:Dr}(Dz:Pzs)(Fz:Fzs)(hD:AtOk hp (zP Dz))(hF:FzOk hp Fz)(hE:JS Dz (G f).raw args=Dz.map (·.1))(hK:(kSL true args).filter (λk=> !(Dz.map (·.1)).contains k)=Fz.map (·.1))(hne:kSL true args≠ [])(hok:iJ (zP Dz) Fz args)(hbok:j9 (zP Dz) Fz Dz)(hG:ag G f (iQ (zP Dz) Fz args) (bZ (zP Dz) Fz Dz) ⟨r,mkR R⟩)(hd:(R.isEmpty&&r.dry)=false)(hl:Nat.ble Dz.length R.length=true)(hn:d9 (bN (zP Dz) dst 0 (mkR R))=true)(hro:r.okS)(hRo:Gj R)(h:fA (r.renS (ψX (bN (zP Dz) dst 0 (mkR R)) (cw (zP Dz) (mkR R) g))) λr'=>fP (wP (ψX (bN (zP Dz) dst 0 (mkR R)) (cw (zP Dz) (mkR R) g)) (bN (zP Dz) dst 0 (mkR R)) (cw (zP Dz) (mkR R) g) R) λw'=>k {res:=r',wr:=w'++bW (Fz.map (·.1)),rd:=Fz.map (·.1)++Dz.map (·.1)}):CallG G hp f args g dst E k:=by
 rw[<-iI args hok,<-abH hbok] at hG;have hKz:(cm true args).filter (λk=> !((zP Dz).map (·.1)).contains k)=Fz.map (·.1):=by grind [iY,ra]
 refine .mk _ _ _ (xG hD hF (ado hD hok hbok hE) hKz (wZ hok hne)) hG (uR hD (by grind [MZ]) (by rw[CH,yH];exact Nat.le_of_ble_eq_true hl) hn (tp hro)) ?_
 grind [AV.renS_eq,NoFrz.ψ,abe,ra,y9,zc]
def flP (Zs:Fzs):Pzs->Dg->Dr
 |(_,_,b)::r,f::fs=>(f,b.renX Zs [])::flP Zs r fs
 |(_,_,b)::r,[]=>(false,b.renX Zs [])::flP Zs r []
 | [],_=>[]
def FlP:Pzs->Dg->Prop
 | [],[]=>True
 |(_,g,_)::r,f::fs=>f=decide (g=0)/\FlP r fs
 |_,_=>False
def si (Z:Pzs)(m:Nat)(r:AV):Cc:=
 let D:=(r.kS true++ji Z (List.range m)).filter (λk=>decide (m<=k))
 fy ((D++ji Z D).filter (λk=>decide (m<=k)))
theorem Jq {Zs:Fzs}{m:Nat}: ∀(Ez Nz:Pzs)(fl:Dg),FlP Ez fl->(∀x∈Ez,x.1<m)->(∀x∈Nz,m<=x.1)->j9 Zs [] (Ez++Nz)->(zP (Ez++Nz)).map (λx=>(decide (x.1<m/\x.2.1=0),x.2.2.ren (φX Zs [])))=mkR (flP Zs (Ez++Nz) fl)
 | [],[],[],_,_,_,_=>rfl
 | [],(k,g,b)::Nz,[],h1,h2,h3,h4=>by
  have:=Jq (Zs:=Zs) [] Nz [] trivial (by simp) (λx hx=>h3 x (by simp[hx])) h4.2
  have hk: ¬k<m:=by simp_all
  simp only[A9] at this;simp only[A9,zP,An,flP,mkR,hk,false_and,decide_false,this];rw[PB.renX_eq h4.1]
 |(k,g,b)::Ez,Nz,f::fl,h1,h2,h3,h4=>by
  have:=Jq (Zs:=Zs) Ez Nz fl h1.2 (λx hx=>h2 x (by simp[hx])) h3 h4.2
  have hk:k<m:=h2 (k,g,b) (by simp)
  simp only[BD,zP,An,flP,mkR,hk,true_and,this,h1.1];rw[PB.renX_eq h4.1]
 | [],_,_::_,h1,_,_,_=>h1.elim
 |_::_,_,[],h1,_,_,_=>h1.elim
theorem rU {tm:Cf}{hp:az}{ctr:Nat}{rs:CT}{m:Nat}{a:AV}(Ez Nz:Pzs)(fl:Dg)(ha:kw ⟨tm,hp,ctr⟩ rs=some a)(hm:0<m)(hA:AtOk hp (zP (Ez++Nz)))(hE:Ez.map (·.1)=List.range m)(hN:si (Ez++Nz) m a=Nz.map (·.1))(hok:a.okX (zP (Ez++Nz)) [])(hbok:j9 (zP (Ez++Nz)) [] (Ez++Nz))(hfl:FlP Ez fl):
  fC ⟨tm,hp,ctr⟩ rs m=some ⟨a.renX (zP (Ez++Nz)) [],mkR (flP (zP (Ez++Nz)) (Ez++Nz) fl)⟩:=by
 unfold fC;rw[ha];dsimp only;have hm0:(m==0)=false:=by grind
 rw[hm0,Bo,cond_false];have hkk:(zP (Ez++Nz)).map (·.1)=List.range m++Nz.map (·.1):=by rw[ra,List.map_append,hE]
 have hNk:jm hp m a=Nz.map (·.1):=by
  grind [jm,si,AV.kS_eq,xF,eF]
 have hspec:=o8 (hp:=hp) (m:=m) (r:=a);rw[hNk] at hspec;rw[hNk,Ub hA hkk hspec.2 hspec.1,<-hkk,tZ hA];simp only[Option.map_some]
 rw[AV.renX_eq a hok,Jq Ez Nz fl hfl (λx hx=>by
  have:x.1∈Ez.map (·.1):=Bd.2 ⟨x,hx,rfl⟩
  grind) (λx hx=>hspec.2 _ (Bd.2 ⟨x,hx,rfl⟩)) hbok]
section
variable {G:Nat->Fun}{k:C1}{tm:Cf}{hp:az}{ctr:Nat}{rs:CT}{m:Nat}{t:Ret}(Ez Nz:Pzs)(fl:Dg)(hm:0<m)(hA:AtOk hp (zP (Ez++Nz)))(hE:Ez.map (·.1)=List.range m)(hbok:j9 (zP (Ez++Nz)) [] (Ez++Nz))(hfl:FlP Ez fl)(h:jC tm hp (fQ rs) (je λa=>si (Ez++Nz) m a=Nz.map (·.1)/\a.okX (zP (Ez++Nz)) []/\Ret.mk (a.renX (zP (Ez++Nz)) []) (mkR (flP (zP (Ez++Nz)) (Ez++Nz) fl))=t))
include hm hA hE hbok hfl h
theorem adr:Ev G ⟨.code .ret::k,⟨tm,hp,ctr⟩,rs,m⟩ t:=by
 obtain ⟨a,h1,h2,h3,rfl⟩:=mI (ctr:=ctr) h
 grind [Vh,rU]
theorem aaI:Ev G ⟨[],⟨tm,hp,ctr⟩,rs,m⟩ t:=by
 obtain ⟨a,h1,h2,h3,rfl⟩:=mI (ctr:=ctr) h
 grind [Vm,rU]
end
def GY (Fz:Fzs):B6->(B6->Prop)->Prop
 | [],K=>K []
 |a::r,K=>qf Fz a λa=>GY Fz r λl=>K (a::l)
theorem CW {Fz:Fzs}: ∀(l:B6){K:B6->Prop},GY Fz l K-> ∃v,fU (φF Fz) l=v/\K v
 | [],K,h=>⟨_,rfl,h⟩
 |a::r,K,h=>by
  obtain ⟨v,h1,h2⟩:=kL a h;obtain ⟨l,h3,h4⟩:=CW r h2
  grind [fU]
def abj (Fz:Fzs):PB->(Blk->Prop)->Prop
 | .cells cs,K=>qf Fz cs λl=>K (.cells l)
 | .vec s es,K=>ab es=true/\K (.vec s es)
 | .nest s pre rows,K=>ab pre=true/\GY Fz rows λl=>K (.vec s (pre++l))
theorem WQ {Fz:Fzs}: ∀(b:PB){K:Blk->Prop},abj Fz b K-> ∃v,b.blk.ren (φF Fz)=v/\K v
 | .cells cs,K,h=>by obtain ⟨l,h1,h2⟩:=kL cs h;grind [PB.blk,Blk.ren]
 | .vec s es,K,h=>⟨_,by simp only[PB.blk,Blk.ren,dh _ es h.1],h.2⟩
 | .nest s pre rows,K,h=>by obtain ⟨l,h1,h2⟩:=CW rows h.2;exact ⟨_,by simp only[PB.blk,Blk.ren,qe,dh _ pre h.1,h1],h2⟩
def QD (Fz:Fzs)(hp:az):Pzs->(az->Prop)->Prop
 | [],K=>K []
 |(k,g,b)::r,K=>bif (Fz.map (·.1)).contains k then False else (dU hp k λy=>y=some (g,b.blk))/\abj Fz b λb'=>QD Fz hp r λl=>K ((k,some (g,b'))::l)
theorem Od {Fz:Fzs}{hp:az}: ∀(ks:Pzs){K:az->Prop},QD Fz hp ks K-> ∃L,KOk hp (Fz.map (·.1)) (φF Fz) L/\K L
 | [],K,h=>⟨[],trivial,h⟩
 |(k,g,b)::r,K,h=>by
  unfold QD at h;cases hc:(Fz.map (·.1)).contains k with
  |true=>grind
  |false=>
   rw[hc,cond_false,bG] at h;obtain ⟨hk,h⟩:=h;obtain ⟨b',h1,h2⟩:=WQ b h;obtain ⟨L,h3,h4⟩:=Od r h2;refine ⟨(k,some (g,b'))::L,⟨?_,h3⟩,h4⟩
   grind [bG]
section
variable {G:Nat->Fun}{todo:C1}{tm:Cf}{hp:az}{ctr:Nat}{rs:CT}{m:Nat}
theorem dC {t:Ret}(Fz:Fzs)(ts:Cc)(ks:Pzs)(hF:FzOk hp Fz)(h:Bu Fz tm ts λL=>QD Fz hp ks λK=> ∀T H,Ev G ⟨todo,⟨L++T,K++H,ctr⟩,rs,m⟩ t)(hd:mU todo=true:=by rfl):Ev G ⟨todo,⟨tm,hp,ctr⟩,rs,m⟩ t:=by
 grind [vG,Od,JV]
theorem LLLe.app {P:Env->Prop}: ∀(pre:B6){a b:B6},LLLe P a b->LLLe P (pre++a) (pre++b)
 | [],_,_,h=>h
 |x::r,_,_,h=>⟨LLe.refl x,LLLe.app r h⟩
theorem cu {x0 x1 x2 x3 x4 x5 x6 x7 x8 x9:Cl}:x0=x0/\x1=x1/\x2=x2/\x3=x3/\x4=x4/\x5=x5/\x6=x6/\x7=x7/\x8=x8/\x9=x9/\True:=⟨rfl,rfl,rfl,rfl,rfl,rfl,rfl,rfl,rfl,rfl,trivial⟩
theorem lD {x0 x1 x2 x3 x4 x5 x6 x7 x8:Cl}:x0=x0/\x1=x1/\x2=x2/\x3=x3/\x4=x4/\x5=x5/\x6=x6/\x7=x7/\x8=x8/\True:=⟨rfl,rfl,rfl,rfl,rfl,rfl,rfl,rfl,rfl,trivial⟩
theorem gq {x0 x1 x2 x3 x4 x5 x6 x7 x8 x9 x10 x11:Cl}:x0=x0/\x1=x1/\x2=x2/\x3=x3/\x4=x4/\x5=x5/\x6=x6/\x7=x7/\x8=x8/\x9=x9/\x10=x10/\x11=x11/\True:=⟨rfl,rfl,rfl,rfl,rfl,rfl,rfl,rfl,rfl,rfl,rfl,rfl,trivial⟩
theorem Ph {x0 x1 x2 x3 x4 x5 x6:Cl}:x0=x0/\x1=x1/\x2=x2/\x3=x3/\x4=x4/\x5=x5/\x6=x6/\True:=⟨rfl,rfl,rfl,rfl,rfl,rfl,rfl,trivial⟩
theorem nL {x0 x1 x2 x3 x4 x5:Cl}:x0=x0/\x1=x1/\x2=x2/\x3=x3/\x4=x4/\x5=x5/\True:=⟨rfl,rfl,rfl,rfl,rfl,rfl,trivial⟩
theorem WG {x0 x1 x2 x3 x4 x5 x6 x7:Cl}:x0=x0/\x1=x1/\x2=x2/\x3=x3/\x4=x4/\x5=x5/\x6=x6/\x7=x7/\True:=⟨rfl,rfl,rfl,rfl,rfl,rfl,rfl,rfl,trivial⟩
abbrev iC:Dg:=[true,true,true,true,true,true,true,true,true]
abbrev de:Dg:=[true,true,true,true,true,true,true,true,true,true]
abbrev iw:Dg:=[true,true,true,true,true,true,true,true,true,true,true,true]
abbrev ttt8:Dg:=[true,true,true,true,true,true,true,true]
theorem Pj (tm:Cf)(hp:az)(ctr m:Nat)(a:AV):rh ⟨tm,hp,ctr⟩ m a=fC ⟨[(0,a)],hp,ctr⟩ [.t 0] m:=rfl
theorem bt {a:AV}{t:Ret}(Ez Nz:Pzs)(fl:Dg)(e:Ret.mk (pnV (a.renX (zP (Ez++Nz)) [])) (mkR (flP (zP (Ez++Nz)) (Ez++Nz) fl))=t)(hrs:ou rs=true:=by rfl)(hm:0<m:=by exact Nat.succ_pos _)(hA:AtOk hp (zP (Ez++Nz)):=by repeat' (first|exact trivial|refine ⟨rfl,?_⟩))(hE:Ez.map (·.1)=List.range m:=by rfl)(hN:si (Ez++Nz) m a=Nz.map (·.1):=by kernel_rfl)(hok:a.okX (zP (Ez++Nz)) []:=by repeat' (first|exact trivial|rfl|assumption|refine And.intro ?_ ?_|(simp[PB.okX,PB.okS,aM,ab,AV.pure,AV.okS,AV.okX, *];done)|fail))(hbok:j9 (zP (Ez++Nz)) [] (Ez++Nz):=by repeat' (first|exact trivial|rfl|assumption|refine And.intro ?_ ?_|(simp[PB.okX,PB.okS,aM,ab,AV.pure,AV.okS,AV.okX, *];done)|fail))(hfl:FlP Ez fl:=by repeat' (first|exact trivial|refine ⟨(by first|rfl|exact (Al (by omega)).symm),?_⟩)):ef ⟨tm,hp,ctr⟩ rs m a=some t:=by
 have h:rh ⟨tm,hp,ctr⟩ m a=some ⟨a.renX (zP (Ez++Nz)) [],mkR (flP (zP (Ez++Nz)) (Ez++Nz) fl)⟩:=by
  rw[Pj];exact rU Ez Nz fl rfl hm hA hE hN hok hbok hfl
 subst e;unfold ef;cases rs with
 |nil=>grind
 |cons x r=>
  cases x with
  |dfd sp=>cases hrs
  |t n=>grind
  |cell n sz=>grind
end
section
variable {G:Nat->Fun} {hp:az} {f:Nat} {args:B7} {g dst:Nat} {E:Prop} {k:Eff->Prop} {r:AV} {R:Dr}
theorem kP (Dz:Pzs)(Fz:Fzs)(hD:AtOk hp (zP Dz))(hF:FzOk hp Fz)(hG:ag G f (iQ (zP Dz) Fz args) (bZ (zP Dz) Fz Dz) ⟨r,mkR R⟩)(h:fA (r.renS (ψX (bN (zP Dz) dst 0 (mkR R)) (cw (zP Dz) (mkR R) g))) λr'=>fP (wP (ψX (bN (zP Dz) dst 0 (mkR R)) (cw (zP Dz) (mkR R) g)) (bN (zP Dz) dst 0 (mkR R)) (cw (zP Dz) (mkR R) g) R) λw'=>k {res:=r',wr:=w'++bW (Fz.map (·.1)),rd:=Fz.map (·.1)++Dz.map (·.1)})(hE:JS Dz (G f).raw args=Dz.map (·.1):=by kernel_rfl)(hK:(kSL true args).filter (λk=> !(Dz.map (·.1)).contains k)=Fz.map (·.1):=by rfl)(hne:kSL true args≠ []:=by exact List.cons_ne_nil _ _)(hok:iJ (zP Dz) Fz args:=by repeat' (first|exact trivial|rfl|assumption|refine And.intro ?_ ?_|(simp[PB.okX,PB.okS,PB.renS,aM,ab,AV.pure,Blk.renS,Blk.okS,Blk.okX,AV.okS,AV.okX, *];done)|omega|fail))(hbok:j9 (zP Dz) Fz Dz:=by repeat' (first|exact trivial|rfl|assumption|refine And.intro ?_ ?_|(simp[PB.okX,PB.okS,PB.renS,aM,ab,AV.pure,Blk.renS,Blk.okS,Blk.okX,AV.okS,AV.okX, *];done)|omega|fail))(hd:(R.isEmpty&&r.dry)=false:=by rfl)(hl:Nat.ble Dz.length R.length=true:=by rfl)(hn:d9 (bN (zP Dz) dst 0 (mkR R))=true:=by rfl)(hro:r.okS:=by repeat' (first|exact trivial|rfl|assumption|refine And.intro ?_ ?_|(simp[PB.okX,PB.okS,PB.renS,aM,ab,AV.pure,Blk.renS,Blk.okS,Blk.okX,AV.okS,AV.okX, *];done)|omega|fail))(hRo:Gj R:=by repeat' (first|exact trivial|rfl|assumption|refine And.intro ?_ ?_|(simp[PB.okX,PB.okS,PB.renS,aM,ab,AV.pure,Blk.renS,Blk.okS,Blk.okX,AV.okS,AV.okX, *];done)|omega|fail)):CallG G hp f args g dst E k:=ahw Dz Fz hD hF hE hK hne hok hbok hG hd hl hn hro hRo h
end
section
variable {G:Nat->Fun} {tm:Cf} {hp:az} {rs:CT} {ctr m:Nat} {k:C1} {t:Ret}
section
variable {b1 b2 b3:Prop}(Ez Nz:Pzs)(fl:Dg)
theorem da (e:b3)(hm:0<m:=by exact Nat.succ_pos _)(hA:AtOk hp (zP (Ez++Nz)):=by repeat' (first|exact trivial|refine ⟨rfl,?_⟩))(hE:Ez.map (·.1)=List.range m:=by rfl)(hbok:j9 (zP (Ez++Nz)) [] (Ez++Nz):=by repeat' (first|exact trivial|rfl|assumption|refine And.intro ?_ ?_|(simp[PB.okX,PB.okS,PB.renS,aM,ab,AV.pure,Blk.renS,Blk.okS,Blk.okX,AV.okS,AV.okX, *];done)|omega|fail))(hfl:FlP Ez fl:=by repeat' (first|exact trivial|refine ⟨(by first|rfl|exact (Al (by omega)).symm),?_⟩))(h:jC tm hp (fQ rs) (je λa=>si (Ez++Nz) m a=Nz.map (·.1)/\a.okX (zP (Ez++Nz)) []/\Ret.mk (a.renX (zP (Ez++Nz)) []) (mkR (flP (zP (Ez++Nz)) (Ez++Nz) fl))=t)=(b1/\b2/\b3):=by exact rfl)(h1:b1:=by kernel_rfl)(h2:b2:=by repeat' (first|exact trivial|rfl|assumption|refine And.intro ?_ ?_|(simp[PB.okX,PB.okS,PB.renS,aM,ab,AV.pure,Blk.renS,Blk.okS,Blk.okX,AV.okS,AV.okX, *];done)|omega|fail)):Ev G ⟨.code .ret::k,⟨tm,hp,ctr⟩,rs,m⟩ t:=adr Ez Nz fl hm hA hE hbok hfl (h.mpr ⟨h1,h2,e⟩)
theorem db (e:b3)(hm:0<m:=by exact Nat.succ_pos _)(hA:AtOk hp (zP (Ez++Nz)):=by repeat' (first|exact trivial|refine ⟨rfl,?_⟩))(hE:Ez.map (·.1)=List.range m:=by rfl)(hbok:j9 (zP (Ez++Nz)) [] (Ez++Nz):=by repeat' (first|exact trivial|rfl|assumption|refine And.intro ?_ ?_|(simp[PB.okX,PB.okS,PB.renS,aM,ab,AV.pure,Blk.renS,Blk.okS,Blk.okX,AV.okS,AV.okX, *];done)|omega|fail))(hfl:FlP Ez fl:=by repeat' (first|exact trivial|refine ⟨(by first|rfl|exact (Al (by omega)).symm),?_⟩))(h:jC tm hp (fQ rs) (je λa=>si (Ez++Nz) m a=Nz.map (·.1)/\a.okX (zP (Ez++Nz)) []/\Ret.mk (a.renX (zP (Ez++Nz)) []) (mkR (flP (zP (Ez++Nz)) (Ez++Nz) fl))=t)=(b1/\b2/\b3):=by exact rfl)(h1:b1:=by kernel_rfl)(h2:b2:=by repeat' (first|exact trivial|rfl|assumption|refine And.intro ?_ ?_|(simp[PB.okX,PB.okS,PB.renS,aM,ab,AV.pure,Blk.renS,Blk.okS,Blk.okX,AV.okS,AV.okX, *];done)|omega|fail)):Ev G ⟨[],⟨tm,hp,ctr⟩,rs,m⟩ t:=aaI Ez Nz fl hm hA hE hbok hfl (h.mpr ⟨h1,h2,e⟩)
end
end
section
variable {G:Nat->Fun} {o:AOper} {rest:Cb} {i:Nat} {dn:Df} {k:C1} {tm:Cf} {hp:az} {ctr:Nat} {rs:CT} {m:Nat} {t:Ret}
section
variable (f:Nat)(esr:DF){cap vs args':B7}{bs':C5}{R:Co}{a:AV}{fo:Opd}{as:Do}(hG:ag G f args' bs' ⟨pnV a,R⟩)
include hG
theorem qQ (h: ∀G':Nat->Fun,(G' f).raw=(G f).raw->ag G' f args' bs' ⟨a,R⟩->CallG G' (bW (wkR esr)++hp) f (vs++cap) (ctr+i) (o.dst.getD 0) False λe=>ef ⟨tm,e.wr++(bW (wkR esr)++hp),ctr⟩ rs m e.res=some t)(hq:rC G ctr i o.dst rest (i+1) ⟨tm,hp,ctr⟩ esr)(hd: ∀x∈dn,o.after.contains x.1=true/\jf (wkR esr) x.2.1=false/\jf (wkR esr) x.2.2.1=false)(hr:ou rs=true:=by rfl)(hn:d9 (wkR esr)=true:=by rfl)(hw:bL tm o.guard=some true:=by rfl)(hop:o.op= .call fo as:=by rfl)(hv:(fo::as).map (evo tm)= .fn f cap::vs:=by rfl)(hb:isB f=false:=by rfl):Ev G ⟨.inReg (o::rest) i dn true::k,⟨tm,hp,ctr⟩,rs,m⟩ t:=by
 classical
 obtain ⟨c,e,h1,h2,h3,h4⟩:=wT hG h;have hf0:bV f=f:=by grind [bV]
 have hun:dv (pnV a)=some a:=rfl;unfold ag at h2;cases hGf:G f with
 |code F=>
  rw[hGf] at h2;refine .panM (e:=e) (λc'=>if c'=F.start c.args c.bs then some ⟨pnV a,R⟩ else none) esr (λc' t' q=>?_) hw ?_ hd hr hq hn h4
  all_goals grind [iR,nH,jG]
 |prim raw p=>
  rw[hGf] at h2;refine .panM (e:=e) (λ_=>none) esr (λc' t' q=>by cases q) hw ?_ hd hr hq hn h4
  grind [iR,nH,jG]
 |none=>
  grind
theorem wn (h: ∀G':Nat->Fun,(G' f).raw=(G f).raw->ag G' f args' bs' ⟨a,R⟩->CallG G' hp f (vs++cap) (ctr+i) (o.dst.getD 0) False λe=>ef ⟨tm,e.wr++hp,ctr⟩ rs m e.res=some t)(hd:(dn.all λx=>o.after.contains x.1)=true:=by rfl)(hr:ou rs=true:=by rfl)(hw:bL tm o.guard=some true:=by rfl)(hop:o.op= .call fo as:=by rfl)(hv:(fo::as).map (evo tm)= .fn f cap::vs:=by rfl)(hb:isB f=false:=by rfl):Ev G ⟨.inReg [o] i dn true::k,⟨tm,hp,ctr⟩,rs,m⟩ t:=
 qQ f [] hG h trivial (λx hx=>⟨List.all_eq_true.1 hd x hx,rfl,rfl⟩) hr rfl hw hop hv hb
end
end
theorem nd {tm:Cf}{hp:az}{ctr:Nat}{sp:AV->Option B6}{rs:CT}{m kf k g:Nat}{a b:AV}{c l:B7}{t:Ret}(Ez Nz:Pzs)(fl:Dg)(hD:bI tm D0= .fn kf [.ref k g 0])(hkf:isB kf=false)(hs:sp a=some [c])(hk:aY hp k=some (g,.cells l))(hl:c.length=l.length)(hb:kw ⟨tm,(k,some (g,.cells c))::hp,ctr⟩ rs=some b)(hA:AtOk ((k,some (g,.cells c))::hp) (zP (Ez++Nz)))(hm:0<m)(hE:Ez.map (·.1)=List.range m)(hN:si (Ez++Nz) m b=Nz.map (·.1))(hok:b.okX (zP (Ez++Nz)) [])(hbok:j9 (zP (Ez++Nz)) [] (Ez++Nz))(hfl:FlP Ez fl)(e:Ret.mk (b.renX (zP (Ez++Nz)) []) (mkR (flP (zP (Ez++Nz)) (Ez++Nz) fl))=t):ef ⟨tm,hp,ctr⟩ (.dfd sp::rs) m a=some t:=by
 grind [ef,mG,rU]
section
variable {G:Nat->Fun} {o:AOper} {rest:Cb} {i:Nat} {dn:Df} {k:C1} {tm:Cf} {hp:az} {ctr:Nat} {rs:CT} {m:Nat} {t:Ret}
theorem jp (f fb:Nat){cap vs args':B7}{bs':C5}{R:Co}{a:AV}{fo:Opd}{as:Do}(hG:ag G f args' bs' ⟨pnV a,R⟩)(h: ∀G':Nat->Fun,(G' f).raw=(G f).raw->ag G' f args' bs' ⟨a,R⟩->CallG G' hp f (cap++vs) (ctr+i) (o.dst.getD 0) False λe=>ef ⟨tm,e.wr++hp,ctr⟩ rs m e.res=some t)(hw:bL tm o.guard=some true:=by rfl)(hop:o.op= .call fo as:=by rfl)(hv:(fo::as).map (evo tm)= .fn fb cap::vs:=by rfl)(hb:isB fb=true:=by rfl)(hf0:bV fb=f:=by rfl):Ev G ⟨.inReg (o::rest) i dn false::k,⟨tm,hp,ctr⟩,rs,m⟩ t:=by
 classical
 obtain ⟨c,e,h1,h2,h3,h4⟩:=wT hG h;have hun:dv (pnV a)=some a:=rfl;unfold ag at h2;cases hGf:G f with
 |code F=>
  rw[hGf] at h2;refine .panS (e:=e) (λc'=>if c'=F.start c.args c.bs then some ⟨pnV a,R⟩ else none) (λc' t' q=>?_) hw ?_ h4
  all_goals grind [iR,nH,jG]
 |prim raw p=>
  rw[hGf] at h2;refine .panS (e:=e) (λ_=>none) (λc' t' q=>by cases q) hw ?_ h4
  grind [iR,nH,jG]
 |none=>
  grind
end
theorem oz (w:World)(o:Obj):w.alloc o=more w #[o]:=by
 grind [World.alloc,more,Array.append_singleton]
theorem Dk (w:World)(os:Array Obj){k:Nat}(h:k<w.heap.size):(more w os).heap[k]? =w.heap[k]? :=by grind [more]
section
variable {w:World}{os:Array Obj}{p:Addr}(h:(w.cell? p).isSome=true)
include h
theorem NX:p.block<w.heap.size:=by
 grind [World.cell?]
theorem VL:(more w os).cell? p=w.cell? p:=by
 grind [World.cell?,Dk]
theorem Nb:(more w os).frozen? p=w.frozen? p:=by
 grind [World.frozen?,Dk,NX]
end
theorem Mz (a b:Array Obj)(i:Nat)(f:Obj->Obj)(h:i<a.size):(a++b).modify i f=a.modify i f++b:=by
 grind
theorem WB {w:World}{os:Array Obj}{p:Addr}{v:Value}(h:p.block<w.heap.size):(more w os).setCell p v=more (w.setCell p v) os:=by
 grind [World.setCell,more,Mz]
theorem Dh (w:World):more w #[]=w:=by simp[more]
end Go.AM
