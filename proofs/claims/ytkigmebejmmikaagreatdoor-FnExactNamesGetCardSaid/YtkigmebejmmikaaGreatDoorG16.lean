/- Texts joined. Conditions: as each theorem names them. -/
import Derived.Shelf.SlSortCmp.SmallK
import Derived.Shelf.SlicesE.Clone
import Derived.Shelf.Small.Bits
import Derived.Ground.SlsfProg
import Derived.Test.YtkigmebejmmikaaGreatDoorProg
import Derived.Test.YtkigmebejmmikaaGreatDoorG15
import Derived.Test.YtkigmebejmmikaaGreatDoorG18
set_option maxRecDepth 100000
set_option maxHeartbeats 32000000
set_option linter.unusedVariables false
set_option linter.unusedSimpArgs false
namespace Go.Proofs.YtkigmebejmmikaaGreatDoor
open Go.RowKit Go.Proofs.Tryz
theorem Qey{told:Bool}{p:Fd × Vl}:∀(l:List (Fd × Vl)),(∀q∈l,q.1.tag≠p.1.tag)->H4 told p.1.tag (.mk 61 [] p.1.tag [p.2]) false (l.map Cw)=if told then(Ql p l).map Cw else l.map Cw:=by
 have hdone:∀(l:List (Fd × Vl)),(∀q∈l,q.1.tag≠p.1.tag)->H4 told p.1.tag (.mk 61 [] p.1.tag [p.2]) true (l.map Cw)=l.map Cw:=by
  intro l;induction l with
  |nil=>intro _;simp[H4]
  |cons q l ih=>
   intro h;have h1:=h q aI;have i:=ih fun z hz=>h z (by simp[hz]);rw[av];unfold H4;rw[i];have e:(Cw q).tag=q.1.tag:=rfl;rw[e];split
   ·simp[h1]
   rfl
 intro l;induction l with
 |nil=>intro _;cases told<;>simp[H4,Ql,Cw]
 |cons q l ih=>
  intro h;have h1:=h q aI;have i:=ih fun z hz=>h z (by simp[hz]);have j:=hdone l fun z hz=>h z (by simp[hz]);have e:(Cw q).tag=q.1.tag:=rfl;have e2:(Cw p)=.mk 61 [] p.1.tag [p.2]:=rfl;rw[av];unfold H4;rw[i,j,e];by_cases hle:p.1.tag<=q.1.tag
  ·rw[if_pos hle];cases told
   ·simp[h1]
   simp[h1,Ql,hle,e2]
  rw[if_neg hle];cases told
  ·simp
  simp[Ql,hle]
theorem Qe1{S:List Ty}{ps:List (Fd × Vl)}{p:Fd × Vl}(h:p.1.tag∉ps.map (·.1.tag)):H4 (Au p.2 != Kn S p.1) p.1.tag (.mk 61 [] p.1.tag [p.2]) false ((Fg S ps).map Cw)=(Fg S (ps++[p])).map Cw:=by
 rw[Qey _ fun q hq e=>h (e ▸ am (f:=fun q:Fd × Vl=>q.1.tag) (En q hq).1),Gx];unfold Qu;by_cases he:Au p.2=Kn S p.1
 ·rw[if_pos he];simp[he]
 rw[if_neg he];simp[he]
theorem Qgg{S:List Ty}{ps:List (Fd × Vl)}:(Fg S ps).length<=ps.length:=by
 refine Pd (P:=fun ps=>(Fg S ps).length<=ps.length) (As _) (fun ps p ih=>?_) ps;rw[Gx,ag];unfold Qu;split
 ·omega
 rw[(Gu p _).length_eq];simp;omega
theorem Qek{α:Type}[BEq α][LawfulBEq α]:∀(l m:List α),l.Nodup->(∀x∈l,x∈m)->l.length<=m.length:=by
 intro l;induction l with
 |nil=>simp
 |cons x l ih=>
  intro m hn hs;have hx:=hs x aI;have:=ih (m.erase x) (List.nodup_cons.1 hn).2 (fun y hy=>(List.mem_erase_of_ne eL).2 (hs y f5));exact i7
structure FI(K:Kd->List UInt8->Option (Vl × List UInt8))(fs:List Fd)(t1:List UInt8)(b1:Bool)(ps:List (Fd × Vl))(tt:List UInt8):Prop where
 e:b1=true->ps=[]
 r:b1=false->C9 K fs 1000 [] t1=C9 K fs (1000 - ps.length) ps tt
 l:ps.length+tt.length<=t1.length
 m:∀p∈ps,p.1∈fs
 n:(ps.map (·.1.tag)).Nodup
def FN(K:Kd->List UInt8->Option (Vl × List UInt8))(fs:List Fd)(t1:List UInt8)(b1:Bool)(ps:List (Fd × Vl))(tt:List UInt8)(bb:Bool):Prop:=
 (if b1 then none else C9 K fs 1000 [] t1)=(if bb then none else match Ae 125 tt with|some z=>some (ps,z)|none=>none)
theorem FI.few{K:Kd->List UInt8->Option (Vl × List UInt8)}{fs:List Fd}{t1 tt:List UInt8}{b1:Bool}{ps:List (Fd × Vl)}(h:FI K fs t1 b1 ps tt):ps.length<=fs.length:=by
 have:=Qek (ps.map (·.1.tag)) (fs.map (·.tag)) h.n fun x hx=>by obtain⟨p,hp,rfl⟩:=au.1 hx;exact am (h.m p hp)
 simpa using this
theorem FI.init(K:Kd->List UInt8->Option (Vl × List UInt8))(fs:List Fd)(t1:List UInt8)(b1:Bool):FI K fs t1 b1 [] t1:=⟨fun _=>rfl,fun _=>rfl,by simp,by simp,by simp⟩
section
variable {K:Kd->List UInt8->Option (Vl × List UInt8)} {fs:List Fd} {t1 tt t' t'':List UInt8} {ps:List (Fd × Vl)} {p:Fd × Vl}
theorem FI.more(h:FI K fs t1 false ps tt)(hl:t1.length<=900):C9 K fs 1000 [] t1=match Cu K fs tt with
  |none=>none
  |some (p,r)=>if p.1.tag∈ps.map (·.1.tag)then none else match Ae 44 r with
   |some q=>C9 K fs (999 - ps.length) (ps++[p]) q
   |none=>match Ae 125 r with|some q=>some (ps++[p],q)|none=>none:=by
 rw[h.r rfl];obtain⟨m,hm⟩:∃m,1000 - ps.length=m+1:=⟨999 - ps.length,by have:=h.l;omega⟩
 rw[hm,show 999 - ps.length=m by omega];rfl
theorem FI.step(h:FI K fs t1 false ps tt)(hK:Cu K fs tt=some (p,t'))(hp:p.1∈fs)(hs:p.1.tag∉ps.map (·.1.tag))(hg:t'.length<tt.length)(hc:Ae 44 t'=some t'')(hl:t1.length<=900):FI K fs t1 false (ps++[p]) t'':=by
 refine⟨fun h=>Bool.noConfusion h,fun _=>?_,?_,fun q hq=>?_,?_⟩
 ·rw[h.more hl,hK];simp only[if_neg hs,hc];congr 1
  simp
 ·have:=h.l;rw[Ax.1 hc]at hg;simp at hg ⊢;omega
 ·rcases ae.1 hq with hq|hq
  ·exact h.m q hq
  rw[an]at hq;subst hq;exact hp
 rw[aw,List.nodup_append];exact⟨h.n,by simp,fun a ha b hb e=>by simp at hb;subst hb e;exact hs ha⟩
theorem FI.no(h:FI K fs t1 false ps tt)(hl:t1.length<=900)(hK:∀p r,Cu K fs tt=some (p,r)->p.1.tag∈ps.map (·.1.tag))(qs:List (Fd × Vl))(z:List UInt8):FN K fs t1 false qs z true:=by
 unfold FN;rw[if_neg aH,if_pos rfl,h.more hl];cases hk:Cu K fs tt with
 |none=>rfl
 |some y=>obtain⟨p,r⟩:=y;simp only[if_pos (hK p r hk)]
theorem FI.last(h:FI K fs t1 false ps tt)(hK:Cu K fs tt=some (p,t'))(hs:p.1.tag∉ps.map (·.1.tag))(hc:Ae 44 t'=none)(hl:t1.length<=900):FN K fs t1 false (ps++[p]) t' false:=by
 unfold FN;rw[if_neg aH,if_neg aH,h.more hl,hK];simp only[if_neg hs,hc]
theorem FI.bad(qs:List (Fd × Vl))(z:List UInt8):FN K fs t1 true qs z true:=by simp[FN]
end
theorem FN.fin{S:List Ty}{K:Kd->List UInt8->Option (Vl × List UInt8)}{ty:Ty}{t t1 tt:List UInt8}{b1 bb:Bool}{ps:List (Fd × Vl)}(h2:ty.sort=82)(h:FN K ty.fields t1 b1 ps tt bb)(h1:t1=(Aj [123] t false).getD t)(hb1:b1=(Aj [123] t false).isNone)(hn:Aj [125] t1 b1=none):
  Jn S K ty t=if (Aj [125] tt bb).isNone then none else some (.mk 82 [] 0 ((Fg S ps).map Cw),(Aj [125] tt bb).getD tt):=by
 have h3:=h;unfold FN at h3;rw[Be]at h1 hb1 hn ⊢;simp only[ak,if_false]at h1 hb1;unfold Jn;rw[if_neg cC];cases hy:Ae 123 t with
 |none=>
  rw[hy]at hb1;simp only[Option.isNone_none]at hb1;subst hb1;simp only[if_true]at h3;simp only;cases bb with
  |true=>simp
  |false=>
   simp only[ak,if_false]at h3 ⊢;cases hz:Ae 125 tt with
   |none=>simp
   |some z=>rw[hz]at h3;cases h3
 |some r=>
  rw[hy]at h1 hb1;simp only[Option.isNone_some,Option.getD_some]at h1 hb1;subst h1 hb1;simp only[ak,if_false]at hn h3;simp only;rw[if_neg cC,hn];simp only;rw[h3];cases bb with
  |true=>simp
  |false=>
   simp only[ak,if_false];cases Ae 125 tt with
   |none=>simp
   |some z=>simp[Fg]
theorem Rz{st:UInt8}{f:Fd}(h:Q5 st f):f.given.length<=14:=by
 by_cases hs:st=69
 ·rw[(h.2.2.2.1 hs).2];simp
 by_cases hg:f.given=[]
 ·rw[hg];simp
 have:=((h.2.2.2.2 hs).2 hg).2.2
 unfold Bw at this
 split at this
 ·split at this
  ·rename_i n hd
   have:=Cb.1 hd
   rw[this.2]
   have:=Df 5 n (by have e:10 ^ (5+1)=1000000:=rfl;omega)
   omega
  cases this
 split at this
 ·simp only[Bool.and_eq_true,decide_eq_true_eq]at this
  have h4:=this.2
  unfold Dq at h4
  simp only[Bool.and_eq_true,decide_eq_true_eq,List.length_dropLast,List.length_drop]at h4
  omega
 split at this
 ·simp only[decide_eq_true_eq]at this;rw[this];simp
 cases this
end Go.Proofs.YtkigmebejmmikaaGreatDoor
namespace Go.Proofs
open Go.Shelf
end Go.Proofs
namespace Go.Proofs.YtkigmebejmmikaaGreatDoor
open Go.RowKit Go.Proofs.Tryz
def Qi6(o:Option (List Ty × Kd))(x:List UInt8):Option Vl:=match o with
 |some y=>Pt y.1 y.2 x
 |none=>none
section
attribute [local go_sem] Qjy Qiu Qil Qgp ByteArray.mk_append_mk
def T7(o:Option (List UInt8))(w:World)(e:Ending)(w':World):Prop:=e=.returned (.tuple #[.string ⟨(o.getD []).toArray⟩,.bool o.isSome])/\Below w w w'
theorem Xu.cases{s d x:List UInt8}{w w1:World}{e:Ending}(h:Xu s d x w e w1):Below w w w1/\((Qi6 (D3 s d) x=none/\∃(v:Value) (q:Option Addr),e=.returned (.tuple #[v,.pointer q,.bool false])) \/
  ∃S k v xv xs b,D3 s d=some (S,k)/\Qi6 (D3 s d) x=some v/\e=.returned (.tuple #[xv,.pointer (some ⟨b,0,none⟩),.bool true])/\Ah xs=S/\Mc w1 xv xs/\Fh (fun c=>w.heap.size<=c) w1 b (Cd S k v)):=by
 obtain⟨hb1,hm⟩:=h;refine⟨hb1,?_⟩;cases hb:D3 s d with
 |none=>
  rw[hb]at hm;obtain⟨v,q,he⟩:=hm;exact .inl ⟨rfl,v,q,he⟩
 |some y=>
  rw[hb]at hm;simp only at hm;cases hv:Pt y.1 y.2 x with
  |none=>
   rw[hv]at hm;obtain⟨v,q,he⟩:=hm;exact .inl ⟨hv,v,q,he⟩
  |some v=>
   rw[hv]at hm;obtain⟨xv,xs,b,he,h1,h2,hat⟩:=hm;exact .inr ⟨y.1,y.2,v,xv,xs,b,rfl,hv,he,h1,h2,hat⟩
end
end Go.Proofs.YtkigmebejmmikaaGreatDoor
