/- Texts joined. Conditions: as each theorem names them. -/
import Derived.Shelf.SlSortCmp.SmallK
import Derived.Shelf.SlicesE.Clone
import Derived.Shelf.Small.Bits
import Derived.Ground.SlsfProg
import Derived.Test.YtkigmebejmmikaaGreatDoorProg
import Derived.Test.YtkigmebejmmikaaGreatDoorV15
import Derived.Test.YtkigmebejmmikaaGreatDoorV18
set_option maxRecDepth 100000
set_option maxHeartbeats 32000000
set_option linter.unusedVariables false
set_option linter.unusedSimpArgs false
namespace Go.Proofs.YtkigmebejmmikaaGreatDoor
open Go.RowKit Go.Proofs.Tryz
theorem Qlc{told:Bool}{p:Fd × Vl}:∀(l:List (Fd × Vl)),(∀q∈l,q.1.tag≠p.1.tag)->Kf told p.1.tag (.mk 61 [] p.1.tag [p.2]) false (l.map C5)=if told then(Z8 p l).map C5 else l.map C5:=by
 have hdone:∀(l:List (Fd × Vl)),(∀q∈l,q.1.tag≠p.1.tag)->Kf told p.1.tag (.mk 61 [] p.1.tag [p.2]) true (l.map C5)=l.map C5:=by
  intro l;induction l with
  |nil=>intro _;simp[Kf]
  |cons q l ih=>
   intro h;have h1:=h q aL;have i:=ih fun z hz=>h z gd;rw[ax];unfold Kf;rw[i];have e:(C5 q).tag=q.1.tag:=rfl;rw[e];split
   ·simp[h1]
   rfl
 intro l;induction l with
 |nil=>intro _;cases told<;>simp[Kf,Z8,C5]
 |cons q l ih=>
  intro h;have h1:=h q aL;have i:=ih fun z hz=>h z gd;have j:=hdone l fun z hz=>h z gd;have e:(C5 q).tag=q.1.tag:=rfl;have e2:(C5 p)=.mk 61 [] p.1.tag [p.2]:=rfl;rw[ax];unfold Kf;rw[i,j,e];by_cases hle:p.1.tag<=q.1.tag
  ·rw[if_pos hle];cases told
   ·simp[h1]
   simp[h1,Z8,hle,e2]
  rw[if_neg hle];cases told
  ·simp
  simp[Z8,hle]
theorem Qj6{S:List Ty}{ps:List (Fd × Vl)}{p:Fd × Vl}(h:p.1.tag∉ps.map (·.1.tag)):Kf (Ay p.2 != Mh S p.1) p.1.tag (.mk 61 [] p.1.tag [p.2]) false ((Mg S ps).map C5)=(Mg S (ps++[p])).map C5:=by
 rw[Qlc _ fun q hq e=>h (e ▸ ao (f:=fun q:Fd × Vl=>q.1.tag) (Pg q hq).1),N4];unfold Qae;by_cases he:Ay p.2=Mh S p.1
 ·rw[if_pos he];simp[he]
 rw[if_neg he];simp[he]
theorem Qjf{S:List Ty}{ps:List (Fd × Vl)}:(Mg S ps).length<=ps.length:=by
 refine Tj (P:=fun ps=>(Mg S ps).length<=ps.length) (Ar _) (fun ps p ih=>?_) ps;rw[N4,ah];unfold Qae;split
 ·omega
 rw[(Mp p _).length_eq];simp;omega
theorem Qhj{α:Type}[BEq α][LawfulBEq α]:∀(l m:List α),l.Nodup->(∀x∈l,x∈m)->l.length<=m.length:=by
 intro l;induction l with
 |nil=>simp
 |cons x l ih=>
  exact kJ
structure FI(K:Kd->List UInt8->Option (Vl × List UInt8))(fs:List Fd)(t1:List UInt8)(b1:Bool)(ps:List (Fd × Vl))(tt:List UInt8):Prop where
 e:b1=true->ps=[]
 r:b1=false->J6 K fs 1000 [] t1=J6 K fs (1000 - ps.length) ps tt
 l:ps.length+tt.length<=t1.length
 m:∀p∈ps,p.1∈fs
 n:(ps.map (·.1.tag)).Nodup
def FN(K:Kd->List UInt8->Option (Vl × List UInt8))(fs:List Fd)(t1:List UInt8)(b1:Bool)(ps:List (Fd × Vl))(tt:List UInt8)(bb:Bool):Prop:=
 (if b1 then none else J6 K fs 1000 [] t1)=(if bb then none else match Aj 125 tt with|some z=>some (ps,z)|none=>none)
theorem FI.few{K:Kd->List UInt8->Option (Vl × List UInt8)}{fs:List Fd}{t1 tt:List UInt8}{b1:Bool}{ps:List (Fd × Vl)}(h:FI K fs t1 b1 ps tt):ps.length<=fs.length:=by
 have:=Qhj (ps.map (·.1.tag)) (fs.map (·.tag)) h.n fun x hx=>by obtain⟨p,hp,rfl⟩:=aw.1 hx;exact ao (h.m p hp)
 simpa using this
theorem FI.init(K:Kd->List UInt8->Option (Vl × List UInt8))(fs:List Fd)(t1:List UInt8)(b1:Bool):FI K fs t1 b1 [] t1:=⟨fun _=>rfl,fun _=>rfl,by simp,by simp,by simp⟩
section
variable {K:Kd->List UInt8->Option (Vl × List UInt8)} {fs:List Fd} {t1 tt t' t'':List UInt8} {ps:List (Fd × Vl)} {p:Fd × Vl}
theorem FI.more(h:FI K fs t1 false ps tt)(hl:t1.length<=900):J6 K fs 1000 [] t1=match H6 K fs tt with
  |none=>none
  |some (p,r)=>if p.1.tag∈ps.map (·.1.tag)then none else match Aj 44 r with
   |some q=>J6 K fs (999 - ps.length) (ps++[p]) q
   |none=>match Aj 125 r with|some q=>some (ps++[p],q)|none=>none:=by
 rw[h.r rfl];obtain⟨m,hm⟩:∃m,1000 - ps.length=m+1:=⟨999 - ps.length,by have:=h.l;omega⟩
 rw[hm,show 999 - ps.length=m by omega];rfl
theorem FI.step(h:FI K fs t1 false ps tt)(hK:H6 K fs tt=some (p,t'))(hp:p.1∈fs)(hs:p.1.tag∉ps.map (·.1.tag))(hg:t'.length<tt.length)(hc:Aj 44 t'=some t'')(hl:t1.length<=900):FI K fs t1 false (ps++[p]) t'':=by
 refine⟨fun h=>Bool.noConfusion h,fun _=>?_,?_,fun q hq=>?_,?_⟩
 ·rw[h.more hl,hK];simp only[if_neg hs,hc];congr 1
  simp
 ·have:=h.l;rw[Bl.1 hc]at hg;simp at hg ⊢;omega
 ·rcases af.1 hq with hq|hq
  ·exact h.m q hq
  rw[ap]at hq;subst hq;exact hp
 rw[ay,List.nodup_append];exact⟨h.n,by simp,fun a ha b hb e=>by simp at hb;subst hb e;exact hs ha⟩
theorem FI.no(h:FI K fs t1 false ps tt)(hl:t1.length<=900)(hK:∀p r,H6 K fs tt=some (p,r)->p.1.tag∈ps.map (·.1.tag))(qs:List (Fd × Vl))(z:List UInt8):FN K fs t1 false qs z true:=by
 unfold FN;rw[if_neg aJ,if_pos rfl,h.more hl];cases hk:H6 K fs tt with
 |none=>rfl
 |some y=>obtain⟨p,r⟩:=y;simp only[if_pos (hK p r hk)]
theorem FI.last(h:FI K fs t1 false ps tt)(hK:H6 K fs tt=some (p,t'))(hs:p.1.tag∉ps.map (·.1.tag))(hc:Aj 44 t'=none)(hl:t1.length<=900):FN K fs t1 false (ps++[p]) t' false:=by
 unfold FN;rw[if_neg aJ,if_neg aJ,h.more hl,hK];simp only[if_neg hs,hc]
theorem FI.bad(qs:List (Fd × Vl))(z:List UInt8):FN K fs t1 true qs z true:=by simp[FN]
end
theorem FN.fin{S:List Ty}{K:Kd->List UInt8->Option (Vl × List UInt8)}{ty:Ty}{t t1 tt:List UInt8}{b1 bb:Bool}{ps:List (Fd × Vl)}(h2:ty.sort=82)(h:FN K ty.fields t1 b1 ps tt bb)(h1:t1=(An [123] t false).getD t)(hb1:b1=(An [123] t false).isNone)(hn:An [125] t1 b1=none):
  P3 S K ty t=if (An [125] tt bb).isNone then none else some (.mk 82 [] 0 ((Mg S ps).map C5),(An [125] tt bb).getD tt):=by
 have h3:=h;unfold FN at h3;rw[Bk]at h1 hb1 hn ⊢;simp only[an,if_false]at h1 hb1;unfold P3;rw[if_neg cj];cases hy:Aj 123 t with
 |none=>
  rw[hy]at hb1;simp only[Option.isNone_none]at hb1;subst hb1;simp only[if_true]at h3;simp only;cases bb with
  |true=>simp
  |false=>
   simp only[an,if_false]at h3 ⊢;cases hz:Aj 125 tt with
   |none=>simp
   |some z=>rw[hz]at h3;cases h3
 |some r=>
  rw[hy]at h1 hb1;simp only[Option.isNone_some,Option.getD_some]at h1 hb1;subst h1 hb1;simp only[an,if_false]at hn h3;simp only;rw[if_neg cj,hn];simp only;rw[h3];cases bb with
  |true=>simp
  |false=>
   simp only[an,if_false];cases Aj 125 tt with
   |none=>simp
   |some z=>simp[Mg]
theorem Tx{st:UInt8}{f:Fd}(h:Xp st f):f.given.length<=14:=by
 by_cases hs:st=69
 ·rw[(h.2.2.2.1 hs).2];simp
 by_cases hg:f.given=[]
 ·rw[hg];simp
 have:=((h.2.2.2.2 hs).2 hg).2.2
 unfold Cf at this
 split at this
 ·split at this
  ·rename_i n hd
   have:=Cm.1 hd
   rw[this.2]
   have:=C0 5 n (by have e:10 ^ (5+1)=1000000:=rfl;omega)
   omega
  cases this
 split at this
 ·simp only[Bool.and_eq_true,decide_eq_true_eq]at this
  have h4:=this.2
  unfold Du at h4
  simp only[Bool.and_eq_true,decide_eq_true_eq,List.length_dropLast,List.length_drop]at h4
  omega
 split at this
 ·simp only[decide_eq_true_eq]at this;rw[this];simp
 cases this
end Go.Proofs.YtkigmebejmmikaaGreatDoor
namespace Go.Proofs
open Go.Shelf
def Tryz.lays125_ren:Go.Shelf.Ren:=⟨fun|125=>112|128=>148|129=>149|n=>n,fun|46=>159|3=>3|51=>189|53=>191|4=>4|5=>5|9=>9|n=>n,fun|n=>n⟩
theorem Tryz.lays125:Go.Proofs.Lays.n125 Tryz.prog Tryz.lays125_ren:={
 mixed:=by kernel_rfl
 f125:=Tryz.func112.trans (congrArg some (by kernel_rfl))
 f128:=Tryz.func148.trans (congrArg some (by kernel_rfl))
 f129:=Tryz.func149.trans (congrArg some (by kernel_rfl))
 t3:=Tryz.underlying3
 a3:=Tryz.isAgg3
 z3:=Tryz.sizeOf3
 v3:=Tryz.zeroValue3
 t4:=Tryz.underlying4
 a4:=Tryz.isAgg4
 z4:=Tryz.sizeOf4
 v4:=Tryz.zeroValue4
 t5:=Tryz.underlying5
 a5:=Tryz.isAgg5
 z5:=Tryz.sizeOf5
 v5:=Tryz.zeroValue5
 t9:=Tryz.underlying9
 a9:=Tryz.isAgg9
 z9:=Tryz.sizeOf9
 v9:=Tryz.zeroValue9
 t46:=Tryz.underlying159
 a46:=Tryz.isAgg159
 z46:=Tryz.sizeOf159
 v46:=Tryz.zeroValue159
 t51:=Tryz.underlying189
 a51:=Tryz.isAgg189
 z51:=Tryz.sizeOf189
 v51:=Tryz.zeroValue189
 t53:=Tryz.underlying191
 a53:=Tryz.isAgg191
 z53:=Tryz.sizeOf191
 v53:=Tryz.zeroValue191}
def Tryz.laysE41_ren:Go.Shelf.Ren:=⟨fun|41=>73|n=>n,fun|22=>40|23=>42|4=>4|n=>n,fun|n=>n⟩
theorem Tryz.laysE41:Go.Proofs.SlLaysE0.n41 Tryz.prog Tryz.laysE41_ren:={
 mixed:=by kernel_rfl
 f41:=⟨Tryz.f73.name,by decide,Tryz.func73.trans (congrArg some (by kernel_rfl))⟩
 t4:=Tryz.underlying4
 a4:=Tryz.isAgg4
 z4:=Tryz.sizeOf4
 v4:=Tryz.zeroValue4
 t22:=Tryz.underlying40
 a22:=Tryz.isAgg40
 z22:=Tryz.sizeOf40
 v22:=Tryz.zeroValue40}
def Tryz.laysF6_ren:Go.Shelf.Ren:=⟨fun|6=>74|15=>112|14=>111|28=>148|29=>149|20=>140|21=>141|22=>142|23=>143|24=>144|25=>145|26=>146|27=>147|46=>163|47=>164|48=>165|49=>166|50=>167|57=>178|n=>n,fun|22=>40|24=>42|25=>134|3=>3|39=>159|0=>0|53=>189|55=>191|4=>4|46=>183|45=>182|50=>140|5=>5|9=>9|66=>198|70=>202|76=>207|77=>208|n=>n,fun|n=>n⟩
theorem Tryz.laysF6:Go.Proofs.SlLaysF0.n6 Tryz.prog Tryz.laysF6_ren:={
 mixed:=by kernel_rfl
 f6:=⟨Tryz.f74.name,by decide,Tryz.func74.trans (congrArg some (by kernel_rfl))⟩
 f14:=⟨Tryz.f111.name,by decide,Tryz.func111.trans (congrArg some (by kernel_rfl))⟩
 f15:=Tryz.func112.trans (congrArg some (by kernel_rfl))
 f20:=⟨Tryz.f140.name,by decide,Tryz.func140.trans (congrArg some (by kernel_rfl))⟩
 f21:=⟨Tryz.f141.name,by decide,Tryz.func141.trans (congrArg some (by kernel_rfl))⟩
 f22:=⟨Tryz.f142.name,by decide,Tryz.func142.trans (congrArg some (by kernel_rfl))⟩
 f23:=⟨Tryz.f143.name,by decide,Tryz.func143.trans (congrArg some (by kernel_rfl))⟩
 f24:=⟨Tryz.f144.name,by decide,Tryz.func144.trans (congrArg some (by kernel_rfl))⟩
 f25:=⟨Tryz.f145.name,by decide,Tryz.func145.trans (congrArg some (by kernel_rfl))⟩
 f26:=⟨Tryz.f146.name,by decide,Tryz.func146.trans (congrArg some (by kernel_rfl))⟩
 f27:=⟨Tryz.f147.name,by decide,Tryz.func147.trans (congrArg some (by kernel_rfl))⟩
 f28:=Tryz.func148.trans (congrArg some (by kernel_rfl))
 f29:=Tryz.func149.trans (congrArg some (by kernel_rfl))
 f46:=⟨Tryz.f163.name,by decide,Tryz.func163.trans (congrArg some (by kernel_rfl))⟩
 f47:=Tryz.func164.trans (congrArg some (by kernel_rfl))
 f48:=Tryz.func165.trans (congrArg some (by kernel_rfl))
 f49:=⟨Tryz.f166.name,by decide,Tryz.func166.trans (congrArg some (by kernel_rfl))⟩
 f50:=⟨Tryz.f167.name,by decide,Tryz.func167.trans (congrArg some (by kernel_rfl))⟩
 f57:=⟨Tryz.f178.name,by decide,Tryz.func178.trans (congrArg some (by kernel_rfl))⟩
 t0:=Tryz.underlying0
 a0:=Tryz.isAgg0
 z0:=Tryz.sizeOf0
 v0:=Tryz.zeroValue0
 t3:=Tryz.underlying3
 a3:=Tryz.isAgg3
 z3:=Tryz.sizeOf3
 v3:=Tryz.zeroValue3
 t4:=Tryz.underlying4
 a4:=Tryz.isAgg4
 z4:=Tryz.sizeOf4
 v4:=Tryz.zeroValue4
 t5:=Tryz.underlying5
 a5:=Tryz.isAgg5
 z5:=Tryz.sizeOf5
 v5:=Tryz.zeroValue5
 t9:=Tryz.underlying9
 a9:=Tryz.isAgg9
 z9:=Tryz.sizeOf9
 v9:=Tryz.zeroValue9
 t22:=Tryz.underlying40
 a22:=Tryz.isAgg40
 z22:=Tryz.sizeOf40
 v22:=Tryz.zeroValue40
 t25:=Tryz.underlying134
 a25:=Tryz.isAgg134
 z25:=Tryz.sizeOf134
 v25:=Tryz.zeroValue134
 t39:=Tryz.underlying159
 a39:=Tryz.isAgg159
 z39:=Tryz.sizeOf159
 v39:=Tryz.zeroValue159
 t45:=Tryz.underlying182
 a45:=Tryz.isAgg182
 z45:=Tryz.sizeOf182
 v45:=Tryz.zeroValue182
 t46:=Tryz.underlying183
 a46:=Tryz.isAgg183
 z46:=Tryz.sizeOf183
 v46:=Tryz.zeroValue183
 t50:=Tryz.underlying140
 a50:=Tryz.isAgg140
 z50:=Tryz.sizeOf140
 v50:=Tryz.zeroValue140
 t53:=Tryz.underlying189
 a53:=Tryz.isAgg189
 z53:=Tryz.sizeOf189
 v53:=Tryz.zeroValue189
 t55:=Tryz.underlying191
 a55:=Tryz.isAgg191
 z55:=Tryz.sizeOf191
 v55:=Tryz.zeroValue191
 t66:=Tryz.underlying198
 a66:=Tryz.isAgg198
 z66:=Tryz.sizeOf198
 v66:=Tryz.zeroValue198
 t70:=Tryz.underlying202
 a70:=Tryz.isAgg202
 z70:=Tryz.sizeOf202
 v70:=Tryz.zeroValue202
 t76:=Tryz.underlying207
 a76:=Tryz.isAgg207
 z76:=Tryz.sizeOf207
 v76:=Tryz.zeroValue207
 t77:=Tryz.underlying208
 a77:=Tryz.isAgg208
 z77:=Tryz.sizeOf208
 v77:=Tryz.zeroValue208}
end Go.Proofs
namespace Go.Proofs.YtkigmebejmmikaaGreatDoor
open Go.RowKit Go.Proofs.Tryz
def Zl(o:Option (List Ty × Kd))(x:List UInt8):Option Vl:=match o with
 |some y=>Kz y.1 y.2 x
 |none=>none
theorem Qbg{s d x:List UInt8}{v:Vl}(h:Zl (Cx s d) x=some v):∃S k,Cx s d=some (S,k)/\Nv S/\Ch k/\Ce S k/\Bt k=d/\Gb S 12 k v/\Ay v=x/\x.length<=400:=by
 cases hb:Cx s d with
 |none=>rw[hb]at h;cases h
 |some y=>
  obtain⟨S,k⟩:=y;rw[hb]at h;obtain⟨g1,_,_,g4,g5,g6⟩:=Jz hb;obtain⟨h1,h2,h3⟩:=(Kr g1.1.1 g4).1 h;exact⟨S,k,rfl,g1,g4,g6,g5,h1,h2,h3⟩
section
attribute [local go_sem] Qo1 Qof Qnv Qlx ByteArray.mk_append_mk
def Qw(o:Option (List UInt8))(w:World)(e:Ending)(w':World):Prop:=e=.returned (.tuple #[.string ⟨(o.getD []).toArray⟩,.bool o.isSome])/\Below w w w'
theorem Mv.cases{s d x:List UInt8}{w w1:World}{e:Ending}(h:Mv s d x w e w1):Below w w w1/\((Zl (Cx s d) x=none/\∃(v:Value) (q:Option Addr),e=.returned (.tuple #[v,.pointer q,.bool false])) \/
  ∃S k v xv xs b,Cx s d=some (S,k)/\Zl (Cx s d) x=some v/\e=.returned (.tuple #[xv,.pointer (some ⟨b,0,none⟩),.bool true])/\Ag xs=S/\G8 w1 xv xs/\Gx (fun c=>w.heap.size<=c) w1 b (Cj S k v)):=by
 obtain⟨hb1,hm⟩:=h;refine⟨hb1,?_⟩;cases hb:Cx s d with
 |none=>
  rw[hb]at hm;obtain⟨v,q,he⟩:=hm;exact .inl ⟨rfl,v,q,he⟩
 |some y=>
  rw[hb]at hm;simp only at hm;cases hv:Kz y.1 y.2 x with
  |none=>
   rw[hv]at hm;obtain⟨v,q,he⟩:=hm;exact .inl ⟨hv,v,q,he⟩
  |some v=>
   rw[hv]at hm;obtain⟨xv,xs,b,he,h1,h2,hat⟩:=hm;exact .inr ⟨y.1,y.2,v,xv,xs,b,rfl,hv,he,h1,h2,hat⟩
theorem Qha{o:Option (List Ty × Kd)}{x:List UInt8}{f:List Ty->Kd->Vl->Option (List UInt8)}(h:Zl o x=none):vlB o x f=none:=by
 cases o with
 |none=>rfl
 |some y=>have h:Kz y.1 y.2 x=none:=h;simp[vlB,h]
end
end Go.Proofs.YtkigmebejmmikaaGreatDoor
