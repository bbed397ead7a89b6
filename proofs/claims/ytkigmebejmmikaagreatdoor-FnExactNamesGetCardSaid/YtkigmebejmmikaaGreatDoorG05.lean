/- Texts joined. Conditions: as each theorem names them. -/
import Derived.Shelf.Strings.SlTrimAscii
import Derived.Shelf.Strings.Prefix
import Derived.Shelf.Strings.Search3
import Derived.Shelf.Strings.Count
import Derived.Shelf.Strings.OnBuilder
import Derived.Test.YtkigmebejmmikaaGreatDoorProg
import Derived.Lib.IndexLaws
import Derived.Maps.OwnSet
import Derived.Maps.OwnOps
import Derived.StringKeys
import Derived.Deep.RegionWith
import Derived.Lib.Builder
import Derived.Lib.AppendStr
import Derived.Lib.UnsafeStr
import Derived.Lib.MakeNoZero
import Derived.Laws.Externs
import Derived.Laws.BitsLemmas
import Derived.RegionTactic
import Derived.Laws.AppendOwnNone
import Derived.Deep.MidRow
import Derived.Deep.AppendLies
import Derived.Laws.Append
import Derived.Test.YtkigmebejmmikaaGreatDoorG04
set_option maxRecDepth 100000
set_option maxHeartbeats 32000000
set_option linter.unusedVariables false
set_option linter.unusedSimpArgs false
namespace Go.Proofs.YtkigmebejmmikaaGreatDoor
open Go.RowKit Go.Proofs.Tryz
section
variable {α β:Type}
end
theorem Qfm{st:UInt8}:∀{fs:List Fd},Fds st fs->∀f∈fs,∀g∈fs,f.name=g.name->f=g:=by
 intro fs h f hf g hg e;have hp:=h.2;obtain⟨i,hi,rfl⟩:=List.getElem_of_mem hf;obtain⟨j,hj,rfl⟩:=List.getElem_of_mem hg;rw[List.pairwise_iff_getElem]at hp;rcases Nat.lt_trichotomy i j with h1|h1|h1
 ·exact absurd e (hp i j hi hj h1).1
 ·subst h1;rfl
 exact absurd e.symm (hp j i hj hi h1).1
def Fv:List UInt8:=[110,117,108,108]
theorem Qc7{l m:List (List UInt8)}(h:l.Perm m):Cq l=Cq m:=by
 induction h with
 |nil=>rfl
 |cons x _ ih=>rw[De,De,ih]
 |swap x y l=>rw[De,De,De,De];omega
 |trans _ _ h1 h2=>exact h1.trans h2
def Cx(fs:List Fd)(n:List UInt8):Option Fd:=fs.find? fun f=>decide (f.name=n)
def Cu(K:Kd->List UInt8->Option (Vl × List UInt8))(fs:List Fd)(s:List UInt8):Option ((Fd × Vl) × List UInt8):=match Cx fs (s.takeWhile Ao)with
 |none=>none
 |some f=>match Ae 58 (s.dropWhile Ao)with
  |none=>none
  |some q=>match K f.kind q with|some (v,z)=>some ((f,v),z)|none=>none
def C9(K:Kd->List UInt8->Option (Vl × List UInt8))(fs:List Fd):Nat->List (Fd × Vl)->List UInt8->Option (List (Fd × Vl) × List UInt8)
 |0,_,_=>none
 |m+1,ps,s=>match Cu K fs s with
  |none=>none
  |some (p,r)=>if p.1.tag∈ps.map (·.1.tag)then none else match Ae 44 r with
   |some q=>C9 K fs m (ps++[p]) q
   |none=>match Ae 125 r with|some q=>some (ps++[p],q)|none=>none
def Ql(p:Fd × Vl):List (Fd × Vl)->List (Fd × Vl)
 |[]=>[p]
 |q::l=>if p.1.tag<=q.1.tag then p::q::l else q::Ql p l
def Qu(S:List Ty)(a:List (Fd × Vl))(p:Fd × Vl):List (Fd × Vl):=if Au p.2=Kn S p.1 then a else Ql p a
def Jn(S:List Ty)(K:Kd->List UInt8->Option (Vl × List UInt8))(t:Ty)(s:List UInt8):Option (Vl × List UInt8):=
 if t.sort=69 then(match Ae 34 s with
  |none=>none
  |some r=>match Cx t.fields (r.takeWhile Ao)with
   |none=>none
   |some f=>match Ae 34 (r.dropWhile Ao)with|some q=>some (.mk 69 [] f.tag [],q)|none=>none)
 else match Ae 123 s with
  |none=>none
  |some r=>if t.sort=85 then(match Cu K t.fields r with
    |none=>none
    |some (p,q)=>match Ae 125 q with|some z=>some (.mk 85 [] p.1.tag [p.2],z)|none=>none)
   else match Ae 125 r with
    |some q=>some (.mk 82 [] 0 [],q)
    |none=>match C9 K t.fields 1000 [] r with|some (ps,q)=>some (.mk 82 [] 0 ((ps.foldl (Qu S) []).map Cw),q)|none=>none
def B2(S:List Ty):Nat->Kd->List UInt8->Option (Vl × List UInt8)
 |0,_,_=>none
 |d+1,k,s=>match k.signs with
  |c::_=>if c=91 then Kl (B2 S d k.part) 1000 s
   else if k.part.signs.head?=some 63 then none
   else(match Dt Fv s with
    |some q=>some (.mk 63 [] 0 [],q)
    |none=>match B2 S d k.part s with|some (v,q)=>some (.mk 63 [] 0 [v],q)|none=>none)
  |[]=>if k.base=[64]then(match B0 S k.name with
    |none=>none
    |some t=>Jn S (B2 S d) t s)
   else Ak S 1000 1 k s
theorem Dd{fs:List Fd}{n:List UInt8}{f:Fd}(h:Cx fs n=some f):f∈fs/\f.name=n:=by
 exact hY
theorem Dl{st:UInt8}{fs:List Fd}(h:Fds st fs){f:Fd}(hf:f∈fs):Bp fs f.tag=some f:=by
 have hp:=h.2;cases hq:Bp fs f.tag with
 |none=>
  have:=List.find?_eq_none.1 hq f hf;simp at this
 |some g=>
  obtain⟨h1,h2⟩:=Bz hq;obtain⟨i,hi,rfl⟩:=List.getElem_of_mem hf;obtain⟨j,hj,rfl⟩:=List.getElem_of_mem h2;rw[List.pairwise_iff_getElem]at hp;rcases Nat.lt_trichotomy i j with h3|h3|h3
  ·have:=(hp i j hi hj h3).2;omega
  ·subst h3;rfl
  have:=(hp j i hj hi h3).2;omega
theorem Pd{α:Type}{P:List α->Prop}(h0:P [])(h1:∀l x,P l->P (l++[x])):∀l,P l:=by
 intro l;rw[<-l.reverse_reverse];induction l.reverse with
 |nil=>exact h0
 |cons x t ih=>rw[List.reverse_cons];exact h1 _ _ ih
theorem Mi(p:UInt8->Bool)(s:List UInt8):(s.dropWhile p).length<=s.length:=by
 have:=congrArg List.length (List.takeWhile_append_dropWhile (p:=p) (l:=s));rw[ag]at this;omega
def PkB(P:Vl->Prop)(o:Option (Vl × List UInt8))(s:List UInt8)(c:Nat):Prop:=∀v r,o=some (v,r)->P v/\r.length<s.length/\(Au v).length+4*r.length+c<=4*s.length
theorem Qe{K:Kd->List UInt8->Option (Vl × List UInt8)}{P:Fd->Vl->Prop}{fs:List Fd}(hK:∀f∈fs,∀s,PkB (P f) (K f.kind s) s 0){s r:List UInt8}{p:Fd × Vl}(h:Cu K fs s=some (p,r)):
  p.1∈fs/\P p.1 p.2/\r.length+1<s.length/\(Au p.2).length+4*r.length+4<=4*s.length:=by
 unfold Cu at h;cases hn:Cx fs (s.takeWhile Ao)with
 |none=>rw[hn]at h;cases h
 |some f=>
  rw[hn]at h;simp only at h;cases hb:Ae 58 (s.dropWhile Ao)with
  |none=>rw[hb]at h;cases h
  |some q=>
   rw[hb]at h;simp only at h;cases hk:K f.kind q with
   |none=>rw[hk]at h;cases h
   |some y=>
    obtain⟨v,z⟩:=y;rw[hk]at h;simp only[ai,aB]at h;obtain⟨rfl,rfl⟩:=h;obtain⟨h1,h2,h3⟩:=hK f (Dd hn).1 q v z hk;have h4:=Mi Ao s;rw[Ax.1 hb,List.length_cons]at h4;exact⟨(Dd hn).1,h1,by omega,by show (Au v).length+_+4<=_;omega⟩
theorem Gu(p:Fd × Vl):∀l,(Ql p l).Perm (p::l)
 |[]=>List.Perm.refl _
 |q::l=>by
  unfold Ql;split
  ·exact List.Perm.refl _
  exact((Gu p l).cons q).trans (List.Perm.swap p q l)
theorem Su(p:Fd × Vl):∀l,l.Pairwise (fun a b=>a.1.tag<b.1.tag)->(∀q∈l,q.1.tag≠p.1.tag)->(Ql p l).Pairwise fun a b=>a.1.tag<b.1.tag
 |[],_,_=>List.pairwise_singleton _ _
 |q::l,h,hn=>by
  rw[List.pairwise_cons]at h;have hq:=hn q aI;unfold Ql;split
  ·rename_i hle;refine List.pairwise_cons.2 ⟨fun z hz=>?_,List.pairwise_cons.2 h⟩;rcases ax.1 hz with rfl|hz
   ·omega
   have:=h.1 z hz;omega
  rename_i hle;refine List.pairwise_cons.2 ⟨fun z hz=>?_,Su p l h.2 fun z hz=>hn z (by simp[hz])⟩;rcases ax.1 ((Gu p l).mem_iff.1 hz)with rfl|hz
  ·omega
  exact h.1 z hz
def Fg(S:List Ty)(ps:List (Fd × Vl)):List (Fd × Vl):=ps.foldl (Qu S) []
theorem Gx(S:List Ty)(ps:List (Fd × Vl))(p:Fd × Vl):Fg S (ps++[p])=Qu S (Fg S ps) p:=by simp[Fg]
theorem En{S:List Ty}{ps:List (Fd × Vl)}:∀q∈Fg S ps,q∈ps/\Au q.2≠Kn S q.1:=by
 suffices H:∀(ps a:List (Fd × Vl)),∀q∈ps.foldl (Qu S) a,q∈a\/q∈ps/\Au q.2≠Kn S q.1 by
  intro q hq;rcases H ps [] q hq with h|h
  ·cases h
  exact h
 intro ps;induction ps with
 |nil=>intro a q hq;exact .inl hq
 |cons p ps ih=>
  intro a q hq;rw[List.foldl_cons]at hq;rcases ih _ q hq with h|h
  ·unfold Qu at h;split at h
   ·exact .inl h
   rename_i hne;rcases ax.1 ((Gu p a).mem_iff.1 h)with rfl|h
   ·exact .inr ⟨by simp,hne⟩
   exact .inl h
  exact .inr ⟨by simp[h.1],h.2⟩
theorem Nz{S:List Ty}:∀{ps:List (Fd × Vl)},(ps.map (·.1.tag)).Nodup->(Fg S ps).Pairwise fun a b=>a.1.tag<b.1.tag:=by
 intro ps;refine Pd (P:=fun ps=>(ps.map (·.1.tag)).Nodup->(Fg S ps).Pairwise fun a b=>a.1.tag<b.1.tag) (fun _=>List.Pairwise.nil) (fun ps p ih hn=>?_) ps
 ·
  rw[aw,List.nodup_append]at hn;obtain⟨h1,_,h3⟩:=hn;rw[Gx];unfold Qu;split
  ·exact ih h1
  refine Su p _ (ih h1) fun q hq e=>?_;exact h3 _ (am (En q hq).1) p.1.tag aI e
theorem Zc(S:List Ty)(ps:List (Fd × Vl)):Cq ((Fg S ps).map fun p=>Au (Cw p))<=Cq (ps.map fun p=>Au (Cw p)):=by
 refine Pd (P:=fun ps=>Cq ((Fg S ps).map fun p=>Au (Cw p))<=Cq (ps.map fun p=>Au (Cw p))) (As _) (fun ps p ih=>?_) ps
 ·
  rw[Gx,aw];have e:∀a b:List (List UInt8),Cq (a++b)=Cq a+Cq b:=fun a b=>cJ;rw[e];unfold Qu;split
  ·omega
  rw[Qc7 ((Gu p _).map _),av,De];simp only[av,List.map_nil,De];omega
theorem R9{K:Kd->List UInt8->Option (Vl × List UInt8)}{P:Fd->Vl->Prop}{fs:List Fd}(h200:∀f∈fs,f.tag<=200)(hK:∀f∈fs,∀s,PkB (P f) (K f.kind s) s 0):∀(m:Nat) (ps:List (Fd × Vl)) (s:List UInt8) (qs:List (Fd × Vl)) (r:List UInt8),
  C9 K fs m ps s=some (qs,r)->(∀p∈ps,p.1∈fs/\P p.1 p.2)->(ps.map (·.1.tag)).Nodup->(∀p∈qs,p.1∈fs/\P p.1 p.2)/\(qs.map (·.1.tag)).Nodup/\r.length<s.length /\
   Cq (qs.map fun p=>Au (Cw p))+4*r.length+3<=Cq (ps.map fun p=>Au (Cw p))+4*s.length:=by
 intro m;induction m with
 |zero=>intro ps s qs r h;cases h
 |succ m ih=>
  intro ps s qs r h hps hnd;unfold C9 at h;cases hf:Cu K fs s with
  |none=>rw[hf]at h;cases h
  |some y=>
   obtain⟨p,z⟩:=y;rw[hf]at h;simp only at h;obtain⟨h1,h2,h3,h4⟩:=Qe hK hf;split at h
   ·cases h
   rename_i hni;have hps':∀q∈ps++[p],q.1∈fs/\P q.1 q.2:=fun q hq=>by
    rcases ae.1 hq with hq|hq
    ·exact hps q hq
    rw[an]at hq;subst hq;exact⟨h1,h2⟩
   have hnd':((ps++[p]).map (·.1.tag)).Nodup:=by
    rw[aw,List.nodup_append];exact⟨hnd,by simp,fun a ha b hb e=>by simp at hb;subst hb e;exact hni ha⟩
   have hd:=Df 2 p.1.tag (by have:=h200 _ h1;have e:10 ^ (2+1)=1000:=rfl;omega);have he:Cq ((ps++[p]).map fun p=>Au (Cw p))<=Cq (ps.map fun p=>Au (Cw p))+(Au p.2).length+5:=by
    have e:∀a b:List (List UInt8),Cq (a++b)=Cq a+Cq b:=fun a b=>cJ;rw[aw,e,av,List.map_nil,De,Kt];simp[Cq];omega
   cases hb:Ae 44 z with
   |some q=>
    rw[hb]at h;simp only at h;obtain⟨i1,i2,i3,i4⟩:=ih _ _ _ _ h hps' hnd';rw[Ax.1 hb,List.length_cons]at h3 h4;exact⟨i1,i2,by omega,by omega⟩
   |none=>
    rw[hb]at h;simp only at h;cases hb2:Ae 125 z with
    |none=>rw[hb2]at h;cases h
    |some q=>
     rw[hb2]at h;simp only[ai,aB]at h;obtain⟨rfl,rfl⟩:=h;rw[Ax.1 hb2,List.length_cons]at h3 h4;exact⟨hps',hnd',by omega,by omega⟩
theorem Sb{K:List UInt8->Option (Vl × List UInt8)}{P:Vl->Prop}(hK:∀s,PkB P (K s) s 0):∀(m:Nat) (s:List UInt8) (vs:List Vl) (r:List UInt8),
  A0 K m s=some (vs,r)->(∀x∈vs,P x)/\r.length<s.length/\Cq (vs.map Au)+4*r.length+3<=4*s.length:=by
 intro m;induction m with
 |zero=>intro s vs r h;cases h
 |succ m ih=>
  intro s vs r h;unfold A0 at h;cases hk:K s with
  |none=>rw[hk]at h;cases h
  |some q=>
   obtain⟨v,z⟩:=q;rw[hk]at h;simp only at h;obtain⟨hp,h2,h3⟩:=hK _ _ _ hk;cases hb:Ae 44 z with
   |some q=>
    rw[hb]at h;simp only at h;cases hi:A0 K m q with
    |none=>rw[hi]at h;cases h
    |some y=>
     obtain⟨us,y⟩:=y;rw[hi]at h;simp only[ai,aB]at h;obtain⟨rfl,rfl⟩:=h;obtain⟨i1,i2,i3⟩:=ih _ _ _ hi;rw[Ax.1 hb,List.length_cons]at h2 h3;exact⟨by simpa using⟨hp,i1⟩,by omega,by rw[av,De];omega⟩
   |none=>
    rw[hb]at h;simp only at h;cases hb2:Ae 93 z with
    |none=>rw[hb2]at h;cases h
    |some q=>
     rw[hb2]at h;simp only[ai,aB]at h;obtain⟨rfl,rfl⟩:=h;rw[Ax.1 hb2,List.length_cons]at h2 h3;exact⟨by simpa using hp,by omega,by simp[Cq];omega⟩
theorem Qc{S:List Ty}(hS:∀t∈S,Ed t):∀(d:Nat) (k:Kd),C0 k->∀s,PkB (Jq S d k) (B2 S d k s) s (if k.signs.head?=some 63 then 0 else 1):=by
 intro d;induction d with
 |zero=>intro k hk s v r h;cases h
 |succ d ih=>
  intro k hk s v r h;have ihf:∀{t:Ty},B0 S k.name=some t->t.sort≠69->∀f∈t.fields,∀s,PkB (Jq S d f.kind) (B2 S d f.kind s) s 0:=fun ht h9 f hf s v r h=>by
   obtain⟨h1,h2,h3⟩:=ih f.kind (Js hS ht h9 hf).1 s v r h;exact⟨h1,h2,by omega⟩
  unfold B2 at h;cases hs:k.signs with
  |cons c t=>
   rw[hs]at h;simp only at h;have hkp:=(Gh hk).1;by_cases hc:c=91
   ·subst hc;rw[if_pos rfl]at h;have hK:∀s,PkB (Jq S d k.part) (B2 S d k.part s) s 0:=fun s v r h=>by
     obtain⟨h1,h2,h3⟩:=ih k.part hkp s v r h;exact⟨h1,h2,by omega⟩
    rw[List.head?_cons,if_neg aH];unfold Kl at h;cases hb:Ae 91 s with
    |none=>rw[hb]at h;cases h
    |some q=>
     rw[hb]at h;simp only at h;have e1:=Ax.1 hb;cases hb2:Ae 93 q with
     |some z=>
      rw[hb2]at h;simp only[ai,aB]at h;obtain⟨rfl,rfl⟩:=h;have e2:=Ax.1 hb2;rw[e1,e2];exact⟨.lst hs aI aI,by simp;omega,by simp[Au,Cs,Ez,An];omega⟩
     |none=>
      rw[hb2]at h;simp only at h;cases hi:A0 (B2 S d k.part) 1000 q with
      |none=>rw[hi]at h;cases h
      |some y=>
       obtain⟨vs,z⟩:=y;rw[hi]at h;simp only at h;split at h
       ·rename_i h20;simp only[ai,aB]at h;obtain⟨rfl,rfl⟩:=h;obtain⟨i1,i2,i3⟩:=Sb hK _ _ _ _ hi;rw[e1];refine⟨.lst hs h20 i1,by simp;omega,?_⟩;rw[E4];simp only[List.length_cons,ag,B1,List.length_nil];omega
       cases h
   have h63:=(Kb hk hs).resolve_left hc;subst h63;rw[if_neg aH]at h;rw[List.head?_cons,if_pos rfl];split at h
   ·cases h
   rename_i hp;cases hw:Dt Fv s with
   |some q=>
    rw[hw]at h;simp only[ai,aB]at h;obtain⟨rfl,rfl⟩:=h;rw[Du.1 hw];exact⟨.non hs,by simp[Fv];omega,by simp[Au,Cs,Ez,Fv];omega⟩
   |none=>
    rw[hw]at h;simp only at h;cases hq:B2 S d k.part s with
    |none=>rw[hq]at h;cases h
    |some y=>
     obtain⟨x,q⟩:=y;rw[hq]at h;simp only[ai,aB]at h;obtain⟨rfl,rfl⟩:=h;obtain⟨h1,h2,h3⟩:=ih k.part hkp s x q hq;rw[if_neg hp]at h3;exact⟨.som hs h1,h2,by simp[Au,Cs,Ez,An];omega⟩
  |nil=>
   rw[hs]at h;simp only at h;rw[List.head?_nil,if_neg aI];by_cases hb:k.base=[64]
   ·rw[if_pos hb]at h;cases ht:B0 S k.name with
    |none=>rw[ht]at h;cases h
    |some t=>
     rw[ht]at h;simp only at h;have htO:=hS t (Bq ht).1;have htF:=htO.2.2.1;unfold Jn at h;by_cases h9:t.sort=69
     ·rw[if_pos h9]at h;cases hb1:Ae 34 s with
      |none=>rw[hb1]at h;cases h
      |some q=>
       rw[hb1]at h;simp only at h;cases hn:Cx t.fields (q.takeWhile Ao)with
       |none=>rw[hn]at h;cases h
       |some f=>
        rw[hn]at h;simp only at h;cases hb2:Ae 34 (q.dropWhile Ao)with
        |none=>rw[hb2]at h;cases h
        |some z=>
         rw[hb2]at h;simp only[ai,aB]at h;obtain⟨rfl,rfl⟩:=h;have hm:=(Dd hn).1;have h4:=Mi Ao q;rw[Ax.1 hb2,List.length_cons]at h4;have hd:=Df 2 f.tag (by have:=(htF.1 f hm).2.1;have e:10 ^ (2+1)=1000:=rfl;omega);rw[Ax.1 hb1];exact⟨.enm hs hb ht h9 (Dl htF hm),by simp;omega,by simp[Au,Cs,Ez];omega⟩
     rw[if_neg h9]at h;cases hb1:Ae 123 s with
     |none=>rw[hb1]at h;cases h
     |some q=>
      rw[hb1]at h;simp only at h;have e1:=Ax.1 hb1;by_cases h5:t.sort=85
      ·rw[if_pos h5]at h;cases hf:Cu (B2 S d) t.fields q with
       |none=>rw[hf]at h;cases h
       |some y=>
        obtain⟨p,z⟩:=y;rw[hf]at h;simp only at h;obtain⟨i1,i2,i3,i4⟩:=Qe (ihf ht h9) hf;cases hb2:Ae 125 z with
        |none=>rw[hb2]at h;cases h
        |some z'=>
         rw[hb2]at h;simp only[ai,aB]at h;obtain⟨rfl,rfl⟩:=h;rw[Ax.1 hb2,List.length_cons]at i3 i4;have hd:=Df 2 p.1.tag (by have:=(htF.1 p.1 i1).2.1;have e:10 ^ (2+1)=1000:=rfl;omega);rw[e1];exact⟨.uni hs hb ht h5 (Dl htF i1) i2,by simp;omega,by rw[Mb,List.length_cons,ag,Kt];simp;omega⟩
      rw[if_neg h5]at h;have h2:t.sort=82:=by
       have:=htO.1;unfold Dj at this;rcases this with h|h|h
       ·exact h
       ·exact absurd h h5
       exact absurd h h9
      cases hb2:Ae 125 q with
      |some z=>
       rw[hb2]at h;simp only[ai,aB]at h;obtain⟨rfl,rfl⟩:=h;rw[e1,Ax.1 hb2];exact⟨.rcd (fs:=[]) hs hb ht h2 aI aI aI List.Pairwise.nil,by simp;omega,by simp[Au,Cs,Ez,An];omega⟩
      |none=>
       rw[hb2]at h;simp only at h;cases hi:C9 (B2 S d) t.fields 1000 [] q with
       |none=>rw[hi]at h;cases h
       |some y=>
        obtain⟨ps,z⟩:=y;rw[hi]at h;simp only[ai,aB]at h;obtain⟨rfl,rfl⟩:=h;obtain⟨i1,i2,i3,i4⟩:=R9 (fun f hf=>(htF.1 f hf).2.1) (ihf ht h9) _ _ _ _ _ hi aI aI;have hal:=Zc S ps;rw[e1];refine⟨.rcd hs hb ht h2 (fun p hp=>Dl htF (i1 p (En p hp).1).1) (fun p hp=>(i1 p (En p hp).1).2) (fun p hp=>(En p hp).2) (Nz i2),by simp;omega,?_⟩;show (Au (.mk 82 [] 0 ((Fg S ps).map Cw))).length+_+1<=_;rw[Jk];simp only[List.length_cons,ag,B1,List.length_nil];simp[Cq]at i4;simp[Cq]at hal ⊢;omega
   rw[if_neg hb]at h;obtain⟨h1,h2⟩:=E9 hS 1000 1 k s v r hk h;have hp:Jq S (d+1) k v:=(J3 S _ _ _ h1 (d+1)).2 (by have:=(J3 S _ _ _ h1 1).1 h1;omega);obtain⟨c,t,e,_⟩:=Ms h1;rw[h2];refine⟨hp,by rw[e];simp;omega,?_⟩;rw[e];simp;omega
end Go.Proofs.YtkigmebejmmikaaGreatDoor
namespace Go.Proofs
open Go.Shelf
def Tryz.lays160_ren:Go.Shelf.Ren:=⟨fun|160=>128|232=>159|231=>122|227=>123|234=>160|233=>124|236=>161|235=>125|228=>156|271=>177|151=>158|197=>157|120=>185|152=>176|260=>175|137=>183|119=>184|224=>170|225=>169|217=>168|266=>179|n=>n,fun|9=>9|4=>4|3=>3|5=>5|117=>169|116=>168|0=>0|124=>172|21=>21|105=>194|46=>159|119=>212|139=>215|138=>214|n=>n,fun|3=>1|4=>2|n=>n⟩
theorem Tryz.lays160:Go.Proofs.Lays.n160 Tryz.prog Tryz.lays160_ren:={
 mixed:=by kernel_rfl
 f119:=Tryz.func184.trans (congrArg some (by kernel_rfl))
 f120:=Tryz.func185.trans (congrArg some (by kernel_rfl))
 f137:=Tryz.func183.trans (congrArg some (by kernel_rfl))
 f151:=Tryz.func158.trans (congrArg some (by kernel_rfl))
 f152:=Tryz.func176.trans (congrArg some (by kernel_rfl))
 f160:=Tryz.func128.trans (congrArg some (by kernel_rfl))
 f197:=Tryz.func157.trans (congrArg some (by kernel_rfl))
 f217:=Tryz.func168.trans (congrArg some (by kernel_rfl))
 f224:=Tryz.func170.trans (congrArg some (by kernel_rfl))
 f225:=Tryz.func169.trans (congrArg some (by kernel_rfl))
 f227:=Tryz.func123.trans (congrArg some (by kernel_rfl))
 f228:=Tryz.func156.trans (congrArg some (by kernel_rfl))
 f231:=Tryz.func122.trans (congrArg some (by kernel_rfl))
 f232:=Tryz.func159.trans (congrArg some (by kernel_rfl))
 f233:=Tryz.func124.trans (congrArg some (by kernel_rfl))
 f234:=Tryz.func160.trans (congrArg some (by kernel_rfl))
 f235:=Tryz.func125.trans (congrArg some (by kernel_rfl))
 f236:=Tryz.func161.trans (congrArg some (by kernel_rfl))
 f260:=Tryz.func175.trans (congrArg some (by kernel_rfl))
 f266:=Tryz.func179.trans (congrArg some (by kernel_rfl))
 f271:=Tryz.func177.trans (congrArg some (by kernel_rfl))
 t0:=Tryz.underlying0
 a0:=Tryz.isAgg0
 z0:=Tryz.sizeOf0
 v0:=Tryz.zeroValue0
 t3:=Tryz.underlying3
 a3:=Tryz.isAgg3
 z3:=Tryz.sizeOf3
 v3:=Tryz.zeroValue3
 t4:=Tryz.underlying4
 a4:=Tryz.isAgg4
 z4:=Tryz.sizeOf4
 v4:=Tryz.zeroValue4
 t5:=Tryz.underlying5
 a5:=Tryz.isAgg5
 z5:=Tryz.sizeOf5
 v5:=Tryz.zeroValue5
 t9:=Tryz.underlying9
 a9:=Tryz.isAgg9
 z9:=Tryz.sizeOf9
 v9:=Tryz.zeroValue9
 t21:=Tryz.underlying21
 a21:=Tryz.isAgg21
 z21:=Tryz.sizeOf21
 v21:=Tryz.zeroValue21
 t46:=Tryz.underlying159
 a46:=Tryz.isAgg159
 z46:=Tryz.sizeOf159
 v46:=Tryz.zeroValue159
 t105:=Tryz.underlying194
 a105:=Tryz.isAgg194
 z105:=Tryz.sizeOf194
 v105:=Tryz.zeroValue194
 t116:=Tryz.underlying168
 a116:=Tryz.isAgg168
 z116:=Tryz.sizeOf168
 t117:=Tryz.underlying169
 a117:=Tryz.isAgg169
 z117:=Tryz.sizeOf169
 v117:=Tryz.zeroValue169
 t119:=Tryz.underlying212
 a119:=Tryz.isAgg212
 z119:=Tryz.sizeOf212
 t124:=Tryz.underlying172
 a124:=Tryz.isAgg172
 z124:=Tryz.sizeOf172
 v124:=Tryz.zeroValue172
 t138:=Tryz.underlying214
 a138:=Tryz.isAgg214
 z138:=Tryz.sizeOf214
 v138:=Tryz.zeroValue214
 t139:=Tryz.underlying215
 a139:=Tryz.isAgg215
 z139:=Tryz.sizeOf215
 v139:=Tryz.zeroValue215
 g3:=by kernel_rfl
 g4:=by kernel_rfl}
def Tryz.lays161_ren:Go.Shelf.Ren:=⟨fun|161=>92|231=>122|227=>123|233=>124|235=>125|228=>156|197=>157|151=>158|260=>175|152=>176|137=>183|119=>184|224=>170|225=>169|217=>168|266=>179|n=>n,fun|9=>9|4=>4|3=>3|5=>5|117=>169|116=>168|0=>0|124=>172|105=>194|21=>21|119=>212|46=>159|139=>215|138=>214|n=>n,fun|3=>1|4=>2|n=>n⟩
theorem Tryz.lays161:Go.Proofs.Lays.n161 Tryz.prog Tryz.lays161_ren:={
 mixed:=by kernel_rfl
 f119:=Tryz.func184.trans (congrArg some (by kernel_rfl))
 f137:=Tryz.func183.trans (congrArg some (by kernel_rfl))
 f151:=Tryz.func158.trans (congrArg some (by kernel_rfl))
 f152:=Tryz.func176.trans (congrArg some (by kernel_rfl))
 f161:=Tryz.func92.trans (congrArg some (by kernel_rfl))
 f197:=Tryz.func157.trans (congrArg some (by kernel_rfl))
 f217:=Tryz.func168.trans (congrArg some (by kernel_rfl))
 f224:=Tryz.func170.trans (congrArg some (by kernel_rfl))
 f225:=Tryz.func169.trans (congrArg some (by kernel_rfl))
 f227:=Tryz.func123.trans (congrArg some (by kernel_rfl))
 f228:=Tryz.func156.trans (congrArg some (by kernel_rfl))
 f231:=Tryz.func122.trans (congrArg some (by kernel_rfl))
 f233:=Tryz.func124.trans (congrArg some (by kernel_rfl))
 f235:=Tryz.func125.trans (congrArg some (by kernel_rfl))
 f260:=Tryz.func175.trans (congrArg some (by kernel_rfl))
 f266:=Tryz.func179.trans (congrArg some (by kernel_rfl))
 t0:=Tryz.underlying0
 a0:=Tryz.isAgg0
 z0:=Tryz.sizeOf0
 v0:=Tryz.zeroValue0
 t3:=Tryz.underlying3
 a3:=Tryz.isAgg3
 z3:=Tryz.sizeOf3
 v3:=Tryz.zeroValue3
 t4:=Tryz.underlying4
 a4:=Tryz.isAgg4
 z4:=Tryz.sizeOf4
 v4:=Tryz.zeroValue4
 t5:=Tryz.underlying5
 a5:=Tryz.isAgg5
 z5:=Tryz.sizeOf5
 v5:=Tryz.zeroValue5
 t9:=Tryz.underlying9
 a9:=Tryz.isAgg9
 z9:=Tryz.sizeOf9
 v9:=Tryz.zeroValue9
 t21:=Tryz.underlying21
 a21:=Tryz.isAgg21
 z21:=Tryz.sizeOf21
 v21:=Tryz.zeroValue21
 t46:=Tryz.underlying159
 a46:=Tryz.isAgg159
 z46:=Tryz.sizeOf159
 v46:=Tryz.zeroValue159
 t105:=Tryz.underlying194
 a105:=Tryz.isAgg194
 z105:=Tryz.sizeOf194
 v105:=Tryz.zeroValue194
 t116:=Tryz.underlying168
 a116:=Tryz.isAgg168
 z116:=Tryz.sizeOf168
 t117:=Tryz.underlying169
 a117:=Tryz.isAgg169
 z117:=Tryz.sizeOf169
 v117:=Tryz.zeroValue169
 t119:=Tryz.underlying212
 a119:=Tryz.isAgg212
 z119:=Tryz.sizeOf212
 t124:=Tryz.underlying172
 a124:=Tryz.isAgg172
 z124:=Tryz.sizeOf172
 v124:=Tryz.zeroValue172
 t138:=Tryz.underlying214
 a138:=Tryz.isAgg214
 z138:=Tryz.sizeOf214
 v138:=Tryz.zeroValue214
 t139:=Tryz.underlying215
 a139:=Tryz.isAgg215
 z139:=Tryz.sizeOf215
 v139:=Tryz.zeroValue215
 g3:=by kernel_rfl
 g4:=by kernel_rfl}
def Tryz.lays99_ren:Go.Shelf.Ren:=⟨fun|99=>93|206=>126|n=>n,fun|9=>9|4=>4|3=>3|n=>n,fun|n=>n⟩
theorem Tryz.lays99:Go.Proofs.Lays.n99 Tryz.prog Tryz.lays99_ren:={
 mixed:=by kernel_rfl
 f99:=Tryz.func93.trans (congrArg some (by kernel_rfl))
 f206:=Tryz.func126.trans (congrArg some (by kernel_rfl))
 t3:=Tryz.underlying3
 a3:=Tryz.isAgg3
 z3:=Tryz.sizeOf3
 v3:=Tryz.zeroValue3
 t4:=Tryz.underlying4
 a4:=Tryz.isAgg4
 z4:=Tryz.sizeOf4
 v4:=Tryz.zeroValue4
 t9:=Tryz.underlying9
 a9:=Tryz.isAgg9
 z9:=Tryz.sizeOf9
 v9:=Tryz.zeroValue9}
def Tryz.lays100_ren:Go.Shelf.Ren:=⟨fun|100=>94|207=>127|n=>n,fun|9=>9|4=>4|3=>3|n=>n,fun|n=>n⟩
theorem Tryz.lays100:Go.Proofs.Lays.n100 Tryz.prog Tryz.lays100_ren:={
 mixed:=by kernel_rfl
 f100:=Tryz.func94.trans (congrArg some (by kernel_rfl))
 f207:=Tryz.func127.trans (congrArg some (by kernel_rfl))
 t3:=Tryz.underlying3
 a3:=Tryz.isAgg3
 z3:=Tryz.sizeOf3
 v3:=Tryz.zeroValue3
 t4:=Tryz.underlying4
 a4:=Tryz.isAgg4
 z4:=Tryz.sizeOf4
 v4:=Tryz.zeroValue4
 t9:=Tryz.underlying9
 a9:=Tryz.isAgg9
 z9:=Tryz.sizeOf9
 v9:=Tryz.zeroValue9}
def Tryz.lays143_ren:Go.Shelf.Ren:=⟨fun|143=>153|219=>152|217=>168|225=>169|224=>170|267=>171|266=>179|314=>180|n=>n,fun|9=>9|3=>3|4=>4|5=>5|46=>159|146=>210|51=>189|n=>n,fun|1=>0|n=>n⟩
theorem Tryz.lays143:Go.Proofs.Lays.n143 Tryz.prog Tryz.lays143_ren:={
 mixed:=by kernel_rfl
 f143:=Tryz.func153.trans (congrArg some (by kernel_rfl))
 f217:=Tryz.func168.trans (congrArg some (by kernel_rfl))
 f219:=Tryz.func152.trans (congrArg some (by kernel_rfl))
 f224:=Tryz.func170.trans (congrArg some (by kernel_rfl))
 f225:=Tryz.func169.trans (congrArg some (by kernel_rfl))
 f266:=Tryz.func179.trans (congrArg some (by kernel_rfl))
 f267:=Tryz.func171.trans (congrArg some (by kernel_rfl))
 f314:=Tryz.func180.trans (congrArg some (by kernel_rfl))
 t3:=Tryz.underlying3
 a3:=Tryz.isAgg3
 z3:=Tryz.sizeOf3
 v3:=Tryz.zeroValue3
 t4:=Tryz.underlying4
 a4:=Tryz.isAgg4
 z4:=Tryz.sizeOf4
 v4:=Tryz.zeroValue4
 t5:=Tryz.underlying5
 a5:=Tryz.isAgg5
 z5:=Tryz.sizeOf5
 v5:=Tryz.zeroValue5
 t9:=Tryz.underlying9
 a9:=Tryz.isAgg9
 z9:=Tryz.sizeOf9
 v9:=Tryz.zeroValue9
 t46:=Tryz.underlying159
 a46:=Tryz.isAgg159
 z46:=Tryz.sizeOf159
 v46:=Tryz.zeroValue159
 t51:=Tryz.underlying189
 a51:=Tryz.isAgg189
 z51:=Tryz.sizeOf189
 v51:=Tryz.zeroValue189
 t146:=Tryz.underlying210
 a146:=Tryz.isAgg210
 z146:=Tryz.sizeOf210
 v146:=Tryz.zeroValue210
 g1:=by kernel_rfl}
def Tryz.lays144_ren:Go.Shelf.Ren:=⟨fun|144=>119|143=>153|219=>152|217=>168|225=>169|224=>170|267=>171|266=>179|314=>180|n=>n,fun|9=>9|4=>4|3=>3|5=>5|46=>159|146=>210|51=>189|n=>n,fun|1=>0|n=>n⟩
theorem Tryz.lays144:Go.Proofs.Lays.n144 Tryz.prog Tryz.lays144_ren:={
 mixed:=by kernel_rfl
 f143:=Tryz.func153.trans (congrArg some (by kernel_rfl))
 f144:=Tryz.func119.trans (congrArg some (by kernel_rfl))
 f217:=Tryz.func168.trans (congrArg some (by kernel_rfl))
 f219:=Tryz.func152.trans (congrArg some (by kernel_rfl))
 f224:=Tryz.func170.trans (congrArg some (by kernel_rfl))
 f225:=Tryz.func169.trans (congrArg some (by kernel_rfl))
 f266:=Tryz.func179.trans (congrArg some (by kernel_rfl))
 f267:=Tryz.func171.trans (congrArg some (by kernel_rfl))
 f314:=Tryz.func180.trans (congrArg some (by kernel_rfl))
 t3:=Tryz.underlying3
 a3:=Tryz.isAgg3
 z3:=Tryz.sizeOf3
 v3:=Tryz.zeroValue3
 t4:=Tryz.underlying4
 a4:=Tryz.isAgg4
 z4:=Tryz.sizeOf4
 v4:=Tryz.zeroValue4
 t5:=Tryz.underlying5
 a5:=Tryz.isAgg5
 z5:=Tryz.sizeOf5
 v5:=Tryz.zeroValue5
 t9:=Tryz.underlying9
 a9:=Tryz.isAgg9
 z9:=Tryz.sizeOf9
 v9:=Tryz.zeroValue9
 t46:=Tryz.underlying159
 a46:=Tryz.isAgg159
 z46:=Tryz.sizeOf159
 v46:=Tryz.zeroValue159
 t51:=Tryz.underlying189
 a51:=Tryz.isAgg189
 z51:=Tryz.sizeOf189
 v51:=Tryz.zeroValue189
 t146:=Tryz.underlying210
 a146:=Tryz.isAgg210
 z146:=Tryz.sizeOf210
 v146:=Tryz.zeroValue210
 g1:=by kernel_rfl}
def Tryz.lays138_ren:Go.Shelf.Ren:=⟨fun|138=>173|195=>181|218=>182|143=>153|219=>152|217=>168|225=>169|224=>170|267=>171|266=>179|314=>180|n=>n,fun|9=>9|3=>3|4=>4|5=>5|0=>0|46=>159|146=>210|51=>189|n=>n,fun|1=>0|n=>n⟩
theorem Tryz.lays138:Go.Proofs.Lays.n138 Tryz.prog Tryz.lays138_ren:={
 mixed:=by kernel_rfl
 f138:=Tryz.func173.trans (congrArg some (by kernel_rfl))
 f143:=Tryz.func153.trans (congrArg some (by kernel_rfl))
 f195:=Tryz.func181.trans (congrArg some (by kernel_rfl))
 f217:=Tryz.func168.trans (congrArg some (by kernel_rfl))
 f218:=Tryz.func182.trans (congrArg some (by kernel_rfl))
 f219:=Tryz.func152.trans (congrArg some (by kernel_rfl))
 f224:=Tryz.func170.trans (congrArg some (by kernel_rfl))
 f225:=Tryz.func169.trans (congrArg some (by kernel_rfl))
 f266:=Tryz.func179.trans (congrArg some (by kernel_rfl))
 f267:=Tryz.func171.trans (congrArg some (by kernel_rfl))
 f314:=Tryz.func180.trans (congrArg some (by kernel_rfl))
 t0:=Tryz.underlying0
 a0:=Tryz.isAgg0
 z0:=Tryz.sizeOf0
 v0:=Tryz.zeroValue0
 t3:=Tryz.underlying3
 a3:=Tryz.isAgg3
 z3:=Tryz.sizeOf3
 v3:=Tryz.zeroValue3
 t4:=Tryz.underlying4
 a4:=Tryz.isAgg4
 z4:=Tryz.sizeOf4
 v4:=Tryz.zeroValue4
 t5:=Tryz.underlying5
 a5:=Tryz.isAgg5
 z5:=Tryz.sizeOf5
 v5:=Tryz.zeroValue5
 t9:=Tryz.underlying9
 a9:=Tryz.isAgg9
 z9:=Tryz.sizeOf9
 v9:=Tryz.zeroValue9
 t46:=Tryz.underlying159
 a46:=Tryz.isAgg159
 z46:=Tryz.sizeOf159
 v46:=Tryz.zeroValue159
 t51:=Tryz.underlying189
 a51:=Tryz.isAgg189
 z51:=Tryz.sizeOf189
 v51:=Tryz.zeroValue189
 t146:=Tryz.underlying210
 a146:=Tryz.isAgg210
 z146:=Tryz.sizeOf210
 v146:=Tryz.zeroValue210
 g1:=by kernel_rfl}
def Tryz.lays219_ren:Go.Shelf.Ren:=⟨fun|219=>152|217=>168|225=>169|224=>170|267=>171|266=>179|314=>180|n=>n,fun|9=>9|3=>3|4=>4|5=>5|46=>159|146=>210|51=>189|n=>n,fun|1=>0|n=>n⟩
theorem Tryz.lays219:Go.Proofs.Lays.n219 Tryz.prog Tryz.lays219_ren:={
 mixed:=by kernel_rfl
 f217:=Tryz.func168.trans (congrArg some (by kernel_rfl))
 f219:=Tryz.func152.trans (congrArg some (by kernel_rfl))
 f224:=Tryz.func170.trans (congrArg some (by kernel_rfl))
 f225:=Tryz.func169.trans (congrArg some (by kernel_rfl))
 f266:=Tryz.func179.trans (congrArg some (by kernel_rfl))
 f267:=Tryz.func171.trans (congrArg some (by kernel_rfl))
 f314:=Tryz.func180.trans (congrArg some (by kernel_rfl))
 t3:=Tryz.underlying3
 a3:=Tryz.isAgg3
 z3:=Tryz.sizeOf3
 v3:=Tryz.zeroValue3
 t4:=Tryz.underlying4
 a4:=Tryz.isAgg4
 z4:=Tryz.sizeOf4
 v4:=Tryz.zeroValue4
 t5:=Tryz.underlying5
 a5:=Tryz.isAgg5
 z5:=Tryz.sizeOf5
 v5:=Tryz.zeroValue5
 t9:=Tryz.underlying9
 a9:=Tryz.isAgg9
 z9:=Tryz.sizeOf9
 v9:=Tryz.zeroValue9
 t46:=Tryz.underlying159
 a46:=Tryz.isAgg159
 z46:=Tryz.sizeOf159
 v46:=Tryz.zeroValue159
 t51:=Tryz.underlying189
 a51:=Tryz.isAgg189
 z51:=Tryz.sizeOf189
 v51:=Tryz.zeroValue189
 t146:=Tryz.underlying210
 a146:=Tryz.isAgg210
 z146:=Tryz.sizeOf210
 v146:=Tryz.zeroValue210
 g1:=by kernel_rfl}
def Tryz.lays156_ren:Go.Shelf.Ren:=⟨fun|156=>37|165=>70|166=>71|169=>72|240=>109|241=>110|276=>138|277=>139|n=>n,fun|31=>63|9=>9|3=>3|4=>4|0=>0|20=>20|72=>125|76=>129|70=>123|37=>25|75=>128|127=>156|164=>178|5=>5|80=>51|n=>n,fun|n=>n⟩
theorem Tryz.lays156:Go.Proofs.Lays.n156 Tryz.prog Tryz.lays156_ren:={
 mixed:=by kernel_rfl
 f156:=Tryz.func37.trans (congrArg some (by kernel_rfl))
 f165:=Tryz.func70.trans (congrArg some (by kernel_rfl))
 f166:=Tryz.func71.trans (congrArg some (by kernel_rfl))
 f169:=Tryz.func72.trans (congrArg some (by kernel_rfl))
 f240:=Tryz.func109.trans (congrArg some (by kernel_rfl))
 f241:=Tryz.func110.trans (congrArg some (by kernel_rfl))
 f276:=Tryz.func138.trans (congrArg some (by kernel_rfl))
 f277:=Tryz.func139.trans (congrArg some (by kernel_rfl))
 t0:=Tryz.underlying0
 a0:=Tryz.isAgg0
 z0:=Tryz.sizeOf0
 v0:=Tryz.zeroValue0
 t3:=Tryz.underlying3
 a3:=Tryz.isAgg3
 z3:=Tryz.sizeOf3
 v3:=Tryz.zeroValue3
 t4:=Tryz.underlying4
 a4:=Tryz.isAgg4
 z4:=Tryz.sizeOf4
 v4:=Tryz.zeroValue4
 t9:=Tryz.underlying9
 a9:=Tryz.isAgg9
 z9:=Tryz.sizeOf9
 v9:=Tryz.zeroValue9
 t20:=Tryz.underlying20
 a20:=Tryz.isAgg20
 z20:=Tryz.sizeOf20
 v20:=Tryz.zeroValue20
 t31:=Tryz.underlying63
 a31:=Tryz.isAgg63
 z31:=Tryz.sizeOf63
 v31:=Tryz.zeroValue63
 t37:=Tryz.underlying25
 a37:=Tryz.isAgg25
 z37:=Tryz.sizeOf25
 v37:=Tryz.zeroValue25
 t70:=Tryz.underlying123
 a70:=Tryz.isAgg123
 z70:=Tryz.sizeOf123
 v70:=Tryz.zeroValue123
 t72:=Tryz.underlying125
 a72:=Tryz.isAgg125
 z72:=Tryz.sizeOf125
 v72:=Tryz.zeroValue125
 t75:=Tryz.underlying128
 a75:=Tryz.isAgg128
 z75:=Tryz.sizeOf128
 v75:=Tryz.zeroValue128
 t76:=Tryz.underlying129
 a76:=Tryz.isAgg129
 z76:=Tryz.sizeOf129
 v76:=Tryz.zeroValue129
 t127:=Tryz.underlying156
 a127:=Tryz.isAgg156
 z127:=Tryz.sizeOf156
 v127:=Tryz.zeroValue156
 t164:=Tryz.underlying178
 a164:=Tryz.isAgg178
 z164:=Tryz.sizeOf178
 v164:=Tryz.zeroValue178}
end Go.Proofs
namespace Go.Proofs.YtkigmebejmmikaaGreatDoor
open Go.RowKit Go.Proofs.Tryz
section
attribute [local go_sem] Qjy Qiu Qil Qgp ByteArray.mk_append_mk
theorem Jw(s cs:List UInt8)(w:World)(hcs:cs.length<4294967281)(ha:∀b∈cs,b.toNat<128):
  Calls prog 92 #[s,cs] w fun e w'=>e=.returned (.string ⟨(s.dropWhile (cs.contains ·)).toArray⟩)/\Below w w w':=
 Any.strings_TrimLeft_laid Tryz.lays161 aJ ⟨s.toArray⟩ ⟨cs.toArray⟩ w hcs (fun j b h=>ha b (List.mem_of_getElem? h))
theorem Kw{p:UInt8->Bool}:∀{l:List UInt8},l.dropWhile p=[]↔l.all p=true
 |[]=>aI
 |x::l=>by
  have ih:=Kw (p:=p) (l:=l);by_cases h:p x=true
  ·simp only[List.dropWhile_cons,h,if_true,List.all_cons,Bool.true_and];exact ih
  simp[h]
theorem Qc5{l cs:List UInt8}:Lib.trimS l cs=[]↔l.all (cs.contains ·)=true:=by
 unfold Lib.trimS Lib.trimLeftS Lib.trimRightS;rw[Kw];have hsp:l.reverse.takeWhile (cs.contains ·)++l.reverse.dropWhile (cs.contains ·)=l.reverse:=List.takeWhile_append_dropWhile;have htk:=Jj (p:=fun x=>cs.contains x) l.reverse;constructor
 ·intro h;rw[List.all_eq_true]at h htk ⊢;intro x hx;have hx':x∈l.reverse:=List.mem_reverse.2 hx;rw[<-hsp]at hx';rcases ae.1 hx' with hx'|hx'
  ·exact htk x hx'
  exact h x (List.mem_reverse.2 hx')
 intro h;rw[List.all_eq_true]at h ⊢;intro x hx;have hx':=List.mem_reverse.1 hx;exact h x (List.mem_reverse.1 (by rw[<-hsp];exact List.mem_append_right _ hx'))
theorem Zz(s cs:List UInt8)(w:World)(hs:s.length<=9223372036854775807)(hcs:cs.length<4294967281)(ha:∀b∈cs,b.toNat<128):
  Calls prog 128 #[s,cs] w fun e w'=>(∃r:List UInt8,e=.returned r/\(r=[]↔s.all (cs.contains ·)=true))/\Below w w w':=
 (Any.strings_Trim_laid Tryz.lays160 aJ ⟨s.toArray⟩ ⟨cs.toArray⟩ w hs hcs (fun j b h=>ha b (List.mem_of_getElem? h))).mono fun e w' ⟨h1,h2⟩=>⟨⟨_,h1,Qc5⟩,h2⟩
theorem Yj(s p:List UInt8):Lib.hasPrefix s p=p.isPrefixOf s:=by
 unfold Lib.hasPrefix;first|rfl|simp
theorem Pu(s p:List UInt8)(w:World):
  Calls prog 93 #[s,p] w fun e w'=>e=.returned (.bool (p.isPrefixOf s))/\w=w':=
 (Any.strings_HasPrefix Tryz.lays99 ⟨s.toArray⟩ ⟨p.toArray⟩ w).mono fun e w' ⟨h1,h2⟩=>⟨by rw[h1,Yj],h2.symm⟩
theorem Pw(s p:List UInt8)(w:World)(hs:s.length<=9223372036854775807):
  Calls prog 94 #[s,p] w fun e w'=>e=.returned (.bool (Lib.hasSuffix s p))/\w=w':=
 (Any.strings_HasSuffix Tryz.lays100 ⟨s.toArray⟩ ⟨p.toArray⟩ w hs).mono fun e w' ⟨h1,h2⟩=>⟨h1,h2.symm⟩
theorem Jr(s:List UInt8)(c:UInt8):(c∉s/\Lib.indexByte s c = -1)\/∃p t,s=p++c::t/\c∉p/\Lib.indexByte s c=(p.length:Int):=by
 induction s with
 |nil=>exact .inl ⟨by simp,rfl⟩
 |cons x s ih=>
  by_cases hx:x=c
  ·exact .inr ⟨[],s,by simp[hx],by simp,by simp[Lib.indexByte,hx]⟩
  have hb:(x == c)=false:=by simpa using hx
  rcases ih with⟨hn,e⟩|⟨p,t,es,hp,e⟩
  ·exact .inl ⟨by simp;exact⟨fun h=>hx h.symm,hn⟩,by simp[Lib.indexByte,hb,e]⟩
  refine .inr ⟨x::p,t,by simp[es],by simp;exact⟨fun h=>hx h.symm,hp⟩,?_⟩;have:¬(p.length:Int) = -1:=aE;simp[Lib.indexByte,hb,e,this]
theorem Qda(s:List UInt8)(c:UInt8)(w:World):
  Calls prog 153 #[s,.string ⟨#[c]⟩] w fun e w'=>e=.returned (.int .i64 (Lib.indexByte s c))/\w=w':=
 (Any.strings_Index_one Tryz.lays143 ⟨s.toArray⟩ c w).mono fun e w' ⟨h1,h2⟩=>⟨h1,h2.symm⟩
theorem Vg(s:List UInt8)(c:UInt8)(w:World):
  Calls prog 152 #[s,.string ⟨#[c]⟩] w fun e w'=>e=.returned (.int .i64 (Lib.indexByte s c))/\w=w':=
 (Any.stringslite_Index_one Tryz.lays219 ⟨s.toArray⟩ c w).mono fun e w' ⟨h1,h2⟩=>⟨h1,h2.symm⟩
theorem Qeg(s:List UInt8)(c:UInt8)(w:World):
  Calls prog 173 #[s,.string ⟨#[c]⟩] w fun e w'=>e=.returned (.int .i64 ((s.count c:Nat):Int))/\w=w':=
 (Any.strings_Count_one Tryz.lays138 ⟨s.toArray⟩ c w).mono fun e w' ⟨h1,h2⟩=>⟨h1,h2.symm⟩
theorem Nc(s:List UInt8)(c:UInt8)(w:World):
  Calls prog 119 #[s,.string ⟨#[c]⟩] w fun e w'=>e=.returned (.bool (decide (c∈s)))/\w=w':=
 (Any.strings_Contains_one Tryz.lays144 ⟨s.toArray⟩ c w).mono fun e w' ⟨h1,h2⟩=>⟨by
  rw[h1];refine Eh (Cr ?_);show decide (0<=Lib.indexByte s c)=_;rw[decide_eq_decide];rcases Jr s c with⟨hn,e⟩|⟨p,t,es,hp,e⟩
  ·rw[e];exact⟨fun h=>by omega,fun h=>absurd h hn⟩
  rw[e];exact⟨fun _=>by rw[es];simp,fun _=>by omega⟩,h2.symm⟩
def Y6(r:List UInt8 × List UInt8 × Bool):Value:=.tuple #[r.1,r.2.1,.bool r.2.2]
theorem Qe0(s:List UInt8)(c:UInt8)(w:World)(hs:s.length<=4294967280):
  Calls prog 118 #[s,.string ⟨#[c]⟩] w fun e w'=>e=.returned (Y6 (Dc c s))/\∃k,w'=w.drewN k:=by
 rcases Jr s c with⟨hn,e⟩|⟨p,t,es,hp,e⟩
 ·have Hc:=Aa (Pp hn);have Hi:=Aa (fun W=>Vg s c W);rw[e]at Hi;clear hn e;go_enter func118,ntmps118;go_wp2_with fail;refine(Hi.o _).mono ?_;rintro e w' ⟨rfl,rfl⟩;go_wp2_with fail;go_ret3
  exact⟨by rw[Hc.o];rfl,0,rfl⟩
 have Hc:=Aa (show Dc c s=(p,t,true)by rw[es];exact Ef hp);have Hi:=Aa (fun W=>Vg s c W);rw[e]at Hi;have hl:s.length=p.length+1+t.length:=by rw[es];simp;omega
 have h1:s.take p.length=p:=by rw[es];simp
 have h2:s.drop (p.length+1)=t:=by
  rw[es,show p++c::t=(p++[c])++t by simp];exact List.drop_left' aI
 have k1:IntKind.i64.wrap ((p.length:Int)+1)=(p.length:Int)+1:=IntWalk.i64_in _ aE;have k2:((p.length:Int)+1).toNat=p.length+1:=aE;have k3:(0:Int)<=(p.length:Int)+1:=aE;have k4:(p.length:Int)+1<=(s.length:Int):=aE;have k5:(p.length:Int)<=(s.length:Int):=aE;have k6:(0:Int)<=(p.length:Int):=aE;have H1:=Aa h1;have H2:=Aa h2;clear e es hl h1 h2 hp;go_enter func118,ntmps118;go_wp2_with fail;refine(Hi.o _).mono ?_;rintro e w' ⟨rfl,rfl⟩;go_wp2_with fail;go_quiet (fail)
 go_wp2
 go_ret3
 exact⟨by rw[Hc.o];exact Qjt (Qgm H1.o) (Qgm H2.o) rfl,_,rfl⟩
theorem Qn(s:List UInt8)(c:UInt8)(w:World)(hs:s.length<=4294967280):
  Calls prog 89 #[s,.string ⟨#[c]⟩] w fun e w'=>e=.returned (Y6 (Dc c s))/\∃k,w'=w.drewN k:=by
 go_enter func89,ntmps89;go_wp2_with fail;refine(Qe0 s c _ hs).mono ?_;rintro e w' ⟨rfl,k,rfl⟩;unfold Y6;go_wp2_with fail;go_ret3
 exact⟨rfl,k,rfl⟩
theorem Qr(c:UInt8):∀s:List UInt8,(Ai c s).length=s.count c+1
 |[]=>rfl
 |x::s=>by
  have ih:=Qr c s;simp only[Ai];by_cases h:x=c
  ·rw[if_pos h,h];simp[ih]
  rw[if_neg h];have e:List.count c (x::s)=List.count c s:=List.count_cons_of_ne h;rw[e];cases hs:Ai c s with
  |nil=>rw[hs]at ih;simp at ih
  |cons p ps=>rw[hs]at ih;simp at ih ⊢;exact ih
theorem Qe6(A B:List Value)(k:Nat)(x y:Value)(h:A.length=k):(A++x::B).set k y=A++y::B:=by
 subst h;rw[List.set_append,if_neg aE];simp
theorem Qak{w:World}{base k n g cap:Nat}{ps:List (List UInt8)}{ys:List Value}(h:w.ownsRow base 9 1 (.slice (g,0) n cap) n (Br ps++ys))(hk:ps.length=k)(hlt:k<n)(s:List UInt8):
  ∃zs,(w.setCell ⟨g,k,none⟩ s).ownsRow base 9 1 (.slice (g,0) n cap) n (Br (ps++[s])++zs)/\w.grownBy (w.setCell ⟨g,k,none⟩ s) (some g)/\w.frozen? ⟨g,k,none⟩=false/\∃u,w.cell? ⟨g,k,none⟩=some u:=by
 have hl:(Br ps).length=k:=by simp[Br,hk]
 have h1:=h.1;rw[ag,hl]at h1;obtain⟨y,zs,rfl⟩:∃y zs,ys=y::zs:=by
  cases ys with
  |nil=>simp at h1;omega
  |cons y zs=>exact⟨y,zs,rfl⟩
 have hst:=h.stored k s;rw[Qe6 _ _ _ _ _ hl]at hst;have hc:=h.cellAt k aE;rw[List.getElem?_append_right aE,hl]at hc;simp at hc;exact⟨zs,by rw[N9,List.append_assoc];exact hst.1,hst.2,h.frozenAt k,y,hc⟩
theorem Qhx{w:World}{base k n g cap:Nat}{ps:List (List UInt8)}{ys:List Value}(h:w.ownsRow base 9 1 (.slice (g,0) n cap) n (Br ps++ys))(hk:ps.length=k)(hle:k<=n):
  w.ownsRow base 9 1 (.slice (g,0) k cap) k (Br ps):=by
 rcases h.2 with⟨e,_⟩|⟨g',cap',cur,e,hb,hh,hnc,hcm,hcs,htk⟩
 ·cases e
 injection e with e1 e2 e3;injection e1 with e1;injection e1 with e1;subst e1;subst e3;refine⟨by simp[Br,hk],.inr ⟨g,cap,cur,rfl,hb,hh,by omega,hcm,hcs,?_⟩⟩;have hl:(Br ps).length=k:=by simp[Br,hk]
 have:(cur.toList.take (n*1)).take (k*1)=(Br ps++ys).take (k*1):=by rw[htk]
 rw[List.take_take,Nat.min_eq_left aE]at this;rw[this,List.take_append_of_le_length aE,ap aE]
theorem Xv(s:List UInt8)(c:UInt8)(w:World)(hs:s.length<=4000000):
  Calls prog 154 #[s,.string ⟨#[c]⟩,.int .i64 0,.int .i64 (-1)] w fun e w'=>
   ∃v,e=.returned v/\w'.ownsRow w 9 1 v (Ai c s).length (Br (Ai c s))/\Below w w w':=by
 obtain⟨i0,hi,hz0,hz1,hz2⟩:=info_parts Q7;have hcnt:s.count c<=s.length:=List.count_le_length;have Hn:=Aa (Qr c s);have H0:=@Aa (Ai c s=[]++Ai c s) rfl;go_enter func154,ntmps154;go_wp2_with fail;refine(Qeg s c w).mono ?_;rintro e w' ⟨rfl,rfl⟩;obtain⟨n,hn⟩:∃n,n=s.count c:=⟨_,rfl⟩
 have HN:=Aa hn;rw[<-hn]at hcnt ⊢;clear hn;have hmin:min ((n:Int)+1) ((s.length:Int)+1)=(n:Int)+1:=aE;go_wp2_with (at_make;refine wpList_make_full _ rfl _ _ 63 rfl w 9 i0 a8 1 underlying63 hi hz0 hz1 .i64 .i64 _ _ (n+1) rfl rfl aE aE (by rw[hz2];omega) aW (As _) ?_;intro w0 hown0 hgrow0)
 go_loopw [0,10] (fun x i wr=>∃(ps:List (List UInt8)) (r:List UInt8) (k:Nat),i=.int .i64 k/\k<=n/\x=r/\r.length<=s.length/\ps.length=k/\Hid (Ai c s=ps++Ai c r)/\Hid (r.count c+k=n) /\
   Hid (∃ys,wr.ownsRow w 9 1 (.slice (w,0) (n+1) (n+1)) (n+1) (Br ps++ys))/\Hid (Below w w wr)) (fun _ i _=>n - (intOf i).toNat)
 case atStart=>exact⟨[],s,0,rfl,af _,rfl,As _,rfl,H0.o,by show _=_;have:=HN.o;omega,⟨_,hown0⟩,(Ay _ _).grown hgrow0 (As _) aI⟩
 case round=>
  obtain⟨ps,r,k,rfl,hk,rfl,hr,hps,hsp,hct,hown,hb⟩:=hrel;have Hps:=Aa hps;clear hps;by_cases hlt:k<n
  ·have hmem:c∈r:=by
    have:=hct.o;exact List.count_pos_iff.1 aE
   have hix:∃p t,r=p++c::t/\c∉p/\Lib.indexByte r c=(p.length:Int):=by
    rcases Jr r c with⟨h,_⟩|h
    ·exact absurd hmem h
    exact h
   obtain⟨p,t,er,hp,e⟩:=hix;have Hi:=Aa (fun W=>Qda r c W);rw[e]at Hi;have hl:r.length=p.length+1+t.length:=by rw[er];simp;omega
   have H1:=Aa (show r.take p.length=p by rw[er];simp)
   have H2:=Aa (show r.drop (p.length+1)=t by
    rw[er,show p++c::t=(p++[c])++t by simp];exact List.drop_left' aI)
   have Hsp:=Aa (show Ai c s=(ps++[p])++Ai c t by rw[hsp.o,er,J5 c p t hp];simp)
   have Hct:=Aa (show t.count c+(k+1)=n by
    have h0:=hct.o;have h1:p.count c=0:=List.count_eq_zero.2 hp;rw[er,List.count_append,h1,List.count_cons_self]at h0;omega)
   obtain⟨ys,hown'⟩:=hown.o;obtain⟨zs,n1,n2,n3,u,n4⟩:=Qak hown' Hps.o (by omega:k<n+1) p;have N1:=Aa (show (wr.setCell ⟨w.heap.size,k,none⟩ (.string ⟨(r.take p.length).toArray⟩)).ownsRow w 9 1 (.slice (w,0) (n+1) (n+1)) (n+1) (Br (ps++[p])++zs)by rw[H1.o];exact n1);have N2:=@Aa (Below w w (wr.setCell ⟨w.heap.size,k,none⟩ (.string ⟨(r.take p.length).toArray⟩))) (hb.o.setCell (p:=⟨w.heap.size,k,none⟩) (As _) _);have k1:(0:Int)<=(p.length:Int):=aE;have k2:(p.length:Int)<=(r.length:Int):=aE;have k3:p.length+1<=r.length:=aE;clear e er hp hmem hown' n1 n2 hl;go_wp2_with fail;refine(Hi.o _).mono ?_;rintro e w' ⟨rfl,rfl⟩;go_wp2_with fail;go_roundw
   case rel=>exact⟨ps++[p],t,k+1,by go_num,by omega,Qgm H2.o,by have:=congrArg List.length H2.o;simp at this;omega,by rw[ag,Hps.o];rfl,Hsp.o,Hct.o,⟨zs,N1.o⟩,N2.o⟩
   case measure=>simp[intOf];omega
  ·obtain rfl:k=n:=aE;have hno:c∉r:=by
    have:=hct.o;exact List.count_eq_zero.1 aE
   have Hsp:=Aa (show Ai c s=ps++[r]by rw[hsp.o,Gc c r hno]);obtain⟨ys,hown'⟩:=hown.o;obtain⟨zs,n1,n2,n3,u,n4⟩:=Qak hown' Hps.o (by omega:k<k+1) r;have N1:=Aa (Qhx n1 (by rw[ag,Hps.o];rfl) (As _));have N2:=@Aa (Below w w (wr.setCell ⟨w.heap.size,k,none⟩ r)) (hb.o.setCell (p:=⟨w.heap.size,k,none⟩) (As _) _);clear hown' n1 n2 hno;go_wp2_with fail;go_ret;refine⟨_,rfl,?_,N2.o⟩;have e1:(Ai c s).length=k+1:=by rw[Hsp.o,ag,Hps.o];rfl
   rw[e1,Hsp.o];exact N1.o
theorem Re(s:List UInt8)(c:UInt8)(w:World)(hs:s.length<=4000000):
  Calls prog 120 #[s,.string ⟨#[c]⟩] w fun e w'=>
   ∃v,e=.returned v/\w'.ownsRow w 9 1 v (Ai c s).length (Br (Ai c s))/\Below w w w':=by
 go_enter func120,ntmps120;go_wp2_with fail;refine(Xv s c _ hs).mono ?_;rintro e w' ⟨v,rfl,ho,hb⟩;have Ho:=Aa ho;have Hb:=Aa hb;clear ho hb;go_wp2_with fail;go_ret;exact⟨_,rfl,Ho.o,Hb.o⟩
theorem Am{c d:UInt8}(h:c≠d):((c.toNat:Int) == (d.toNat:Int))=false:=by
 rw[beq_eq_false_iff_ne];intro e;exact h (UInt8.toNat_inj.1 aE)
theorem Bs{c d:UInt8}(h:c=d):((c.toNat:Int) == (d.toNat:Int))=true:=by rw[h];simp
theorem Qew(n a b:Int)(w:World):
  Calls prog 116 #[.int .i64 n,.int .i64 a,.int .i64 b] w fun e w'=>e=.returned (.bool (decide (a<=n) && decide (n<=b)))/\w=w':=by
 go_enter func116,ntmps116;by_cases h1:a<=n
 ·have t1:decide (a<=n)=true:=dT;rw[t1];go_wp2
  exact ia
 have t1:decide (a<=n)=false:=dT;rw[t1];go_wp2
 exact ia
theorem Cj(s:List UInt8)(w:World)(hs:s.length<=9223372036854775807):
  Calls prog 80 #[s] w fun e w'=>e=.returned (.bool (Bb s))/\w=w':=by
 go_enter func80,ntmps80;go_wp2
 go_loop [3] (fun i=>∃k:Nat,k<=s.length/\i=.int .i64 k/\Hid (∀c∈s.take k,Ao c=true)) (fun i=>s.length - (intOf i).toNat)
 case atStart=>exact⟨0,af _,rfl,by intro c hc;simp at hc⟩
 case round=>
  obtain⟨k,hk,rfl,hin⟩:=hrel;by_cases hlt:k<s.length
  ·have hc:(s[k]).toNat<256:=(s[k]).toNat_lt;have Hts:=Aa (Bx s k hlt);have Hm:=Aa (ad hlt);by_cases h1:Ao s[k]=true
   ·have h2:=Jf.1 h1;obtain⟨h3,h4⟩:=h2;have H1:=Aa h1;clear h1;go_wp2
    go_round
    case rel=>
     refine⟨k+1,by omega,by go_num,?_⟩;intro c hc;rw[Hts.o]at hc;rcases ae.1 hc with hc|hc
     ·exact hin.o c hc
     ·simp at hc;subst hc;exact H1.o
    case measure=>simp[intOf];omega
   have hno:Bb s=false:=by
    cases hh:Bb s with
    |false=>rfl
    |true=>exact absurd ((Ep.1 hh).2.2 _ Hm.o) h1
   have Hno:=Aa hno;have h2:(s[k]).toNat<97\/122<(s[k]).toNat:=by
    rcases aD (s[k]).toNat 97 with h|h
    ·exact .inl h
    rcases aD 122 (s[k]).toNat with h'|h'
    ·exact .inr h'
    exact absurd (Jf.2 ⟨h,h'⟩) h1
   clear h1 hno;rcases h2 with h2|h2
   ·go_wp2
    go_ret;exact⟨Eh (Cr Hno.o.symm),rfl⟩
   have h3:97<=(s[k]).toNat:=aE;go_wp2
   go_ret;exact⟨Eh (Cr Hno.o.symm),rfl⟩
  ·have hfin:(decide ((1:Int)<=(s.length:Int)) && decide ((s.length:Int)<=3))=Bb s:=by
    have hall:s.all Ao=true:=List.all_eq_true.2 (fun c hc=>hin.o c (by rw[ap aE];exact hc));unfold Bb;rw[hall,Bool.and_true];congr 1<;>· rw[decide_eq_decide];omega
   have Hfin:=Aa hfin;clear hfin;go_wp2_with fail;refine(Qew _ _ _ _).mono ?_;rintro e w' ⟨rfl,rfl⟩;go_wp2_with fail;go_ret;exact⟨Eh (Cr Hfin.o),rfl⟩
theorem Tq(c:UInt8)(t:List UInt8)(hc:Bo c=true):(Co (c::t)).isSome=(decide (t.length<12) && (Co t).isSome):=by
 unfold Co;simp only[List.dropWhile_cons,List.takeWhile_cons,hc,if_true];by_cases h:12<(c::t).length
 ·exact gV
 rw[if_neg h];simp at h;have h2:¬12<t.length:=aE;have:t.length<12:=aE;rw[if_neg h2];simp only[this,decide_true,Bool.true_and];by_cases h3:t.dropWhile Bo=[110]\/t.dropWhile Bo=[116]\/t.dropWhile Bo=[102]
 ·rw[if_pos h3,if_pos h3];rfl
 rw[if_neg h3,if_neg h3];by_cases h4:(t.dropWhile Bo).head?=some 64/\(t.dropWhile Bo).getLast?=some 59/\Bb ((t.dropWhile Bo).drop 1).dropLast=true
 ·rw[if_pos h4,if_pos h4];rfl
 rw[if_neg h4,if_neg h4]
theorem Qfj(t:List UInt8):(Co (64::t)).isSome=(decide (t.length<12) && decide ((64::t).getLast?=some 59) && Bb t.dropLast):=by
 unfold Co;have h64:Bo 64=false:=aH;simp only[List.dropWhile_cons,List.takeWhile_cons,h64];by_cases h:12<(64::t).length
 ·exact gV
 rw[if_neg h];simp at h;have:t.length<12:=aE;simp[this];split
 ·rename_i hh;simp[hh]
 rename_i hh;simp only[Option.isSome_none];cases hn:Bb t.dropLast with
 |false=>simp
 |true=>simp[hn]at hh;simp[hh]
theorem Qa1(c:UInt8)(t:List UInt8)(h1:Bo c=false)(h2:c≠64):(Co (c::t)).isSome=(decide (c::t=[110]) || decide (c::t=[116]) || decide (c::t=[102])):=by
 unfold Co;simp only[List.dropWhile_cons,List.takeWhile_cons,h1];by_cases h:12<(c::t).length
 ·rw[if_pos h];simp at h;have e:t≠[]:=by rintro rfl;simp at h
  simp[e]
 rw[if_neg h];by_cases h3:c::t=[110]\/c::t=[116]\/c::t=[102]
 ·simp only[ak,if_false];rw[if_pos h3];rcases h3 with h3|h3|h3<;>simp[h3]
 simp only[ak,if_false];rw[if_neg h3,if_neg (by simp[h2])];simp only[not_or]at h3;simp[h3]
theorem M8:∀(n:Nat) (s:List UInt8) (w:World),s.length<=n->s.length<=9223372036854775807 ->
  Calls prog 42 #[s] w fun e w'=>e=.returned (.bool (Co s).isSome)/\w=w':=by
 intro n;induction n with
 |zero=>
  intro s w hn hs;obtain rfl:s=[]:=List.eq_nil_of_length_eq_zero aE;go_enter func42,ntmps42;go_wp2_with fail;exact ia
 |succ n ih=>
  intro s w hn hs;have Ih:=Aa ih;clear ih;by_cases h12:12<s.length
  ·have Hf:=Aa (show (Co s).isSome=false by unfold Co;rw[if_pos h12];rfl);go_enter func42,ntmps42;go_wp2_with fail;exact ib
  cases s with
  |nil=>
   go_enter func42,ntmps42;go_wp2_with fail;exact ia
  |cons c t=>
   have hlt:t.length<12:=by simp at h12;omega
   have hn':t.length<=n:=by simp at hn;omega
   have hc:=c.toNat_lt;by_cases h91:c=91
   ·have Hf:=Aa (show (Co (c::t)).isSome=(Co t).isSome by rw[Tq c t (by rw[h91];decide)];simp[hlt]);have e1:c.toNat=91:=by rw[h91];rfl
    have t1:((c.toNat:Int) == 91)=true:=by simp[e1]
    clear h91 e1;go_enter func42,ntmps42;go_wp2_with fail;refine(Ih.o t _ hn' aE).mono ?_;rintro e w' ⟨rfl,rfl⟩;go_wp2_with fail;exact ib
   have t1:((c.toNat:Int) == 91)=false:=Am h91;by_cases h63:c=63
   ·have Hf:=Aa (show (Co (c::t)).isSome=(Co t).isSome by rw[Tq c t (by rw[h63];decide)];simp[hlt]);have e1:c.toNat=63:=by rw[h63];rfl
    have t2:((c.toNat:Int) == 63)=true:=by simp[e1]
    clear h63 h91 e1;go_enter func42,ntmps42;go_wp2_with fail;refine(Ih.o t _ hn' aE).mono ?_;rintro e w' ⟨rfl,rfl⟩;go_wp2_with fail;exact ib
   have t2:((c.toNat:Int) == 63)=false:=Am h63;by_cases h64:c=64
   ·have e1:c.toNat=64:=by rw[h64];rfl
    have t3:((c.toNat:Int) == 64)=true:=by simp[e1]
    rcases Eu t with rfl|⟨u,d,rfl⟩
    ·have Hf:=Aa (show (Co [c]).isSome=false by rw[h64];decide);have t4:((c.toNat:Int) == 59)=false:=by simp[e1]
     clear h64 h63 h91 e1;go_enter func42,ntmps42;go_wp2_with fail;exact ib
    have hk:=Qfj (u++[d]);have hl:(c::(u++[d])).getLast?=some d:=by
     exact ic
    rw[<-h64,hl,List.dropLast_concat]at hk;have hd:=d.toNat_lt;simp at hlt;have hgd:∀h,(c::(u++[d]))[u.length+1]'h=d:=by
     intro h;simp
    have hsl:(List.take u.length (u++[d]))=u:=aI;by_cases h59:d=59
    ·have e2:d.toNat=59:=by rw[h59];rfl
     have t4:((d.toNat:Int) == 59)=true:=by simp[e2]
     have Hf:=Aa (show (Co (c::(u++[d]))).isSome=Bb u by rw[hk,h59];simp;omega);clear h64 h63 h91 e1 hk hl h59 e2;go_enter func42,ntmps42;go_wp2_with fail;refine(Cj u _ aE).mono ?_;rintro e w' ⟨rfl,rfl⟩;go_wp2_with fail;exact ib
    have t4:((d.toNat:Int) == 59)=false:=Am h59;have Hf:=Aa (show (Co (c::(u++[d]))).isSome=false by rw[hk];simp[h59]);clear h64 h63 h91 e1 hk hl h59;go_enter func42,ntmps42;go_wp2_with fail;exact ib
   have t3:((c.toNat:Int) == 64)=false:=Am h64;have hk:=Qa1 c t (by simp[Bo,h91,h63]) h64;have Hk:=Aa hk;clear hk h64 h63 h91;cases t with
   |cons x t=>
    have hl2:t.length+1+1<=12:=by simp at hlt;omega
    have Hf:=Aa (show (Co (c::x::t)).isSome=false by rw[Hk.o];simp);clear Hk;go_enter func42,ntmps42;go_wp2_with fail;all_goals
     go_ret;exact⟨Eh (Cr (by rw[Hf.o])),rfl⟩
   |nil=>
    by_cases g1:c=110
    ·subst g1;go_enter func42,ntmps42;go_wp2_with fail;exact ia
    by_cases g2:c=116
    ·subst g2;go_enter func42,ntmps42;go_wp2_with fail;exact ia
    by_cases g3:c=102
    ·subst g3;go_enter func42,ntmps42;go_wp2_with fail;exact ia
    have Hf:=Aa (show (Co [c]).isSome=false by rw[Hk.o];simp[g1,g2,g3]);go_enter func42,ntmps42;go_wp2_with fail;go_ret;exact⟨Eh (Cr (by rw[Hf.o];simp[g1,g2,g3])),rfl⟩
def J6:Value->Nat
 |.string b=>b.size
 |_=>0
theorem Jy(l:List UInt8):J6 l=l.length:=rfl
theorem Qbl(k:Kd)(w:World)(hk:k.signs.all Bo=true)(hb:∃c t,Ca k=c::t/\Bo c=false)(hs:(Bi k).length<=9223372036854775807):
  Calls prog 44 #[.string ⟨(Bi k).toArray⟩] w fun e w'=>e=.returned (.string ⟨(Ca k).toArray⟩)/\w=w':=by
 obtain⟨d,u,hcu,hd⟩:=hb;have hlen:(Bi k).length=k.signs.length+(u.length+1):=by unfold Bi;rw[hcu];simp
 unfold Bi;rw[hcu];generalize k.signs=g at hk hlen;clear hcu;have hd1:d≠91:=by rintro rfl;revert hd;decide
 have hd2:d≠63:=by rintro rfl;revert hd;decide
 have d1:((d.toNat:Int) == 91)=false:=Am hd1;have d2:((d.toNat:Int) == 63)=false:=Am hd2;have hdl:=d.toNat_lt;clear hd hd1 hd2;have hs2:g.length+u.length+1<=9223372036854775807:=aE;have Hk:=Aa (List.all_eq_true.1 hk);clear hs hlen hk;go_enter func44,ntmps44;go_wp2_with fail;go_loop [0] (fun x=>∃k:Nat,k<=g.length/\x=.string ⟨(g.drop k++d::u).toArray⟩) (fun x=>J6 x)
 case atStart=>exact⟨0,af _,rfl⟩
 case round=>
  obtain⟨k,hk,rfl⟩:=hrel;by_cases hlt:k<g.length
  ·have hdr:g.drop k=g[k]::g.drop (k+1):=List.drop_eq_getElem_cons hlt;have hl3:(g.drop (k+1)).length<=g.length:=aI;have hsg:=Hk.o _ (ad hlt);have hc:=(g[k]).toNat_lt;rw[hdr];generalize g[k]=c at hsg hc;have hsg2:c=91\/c=63:=by simpa [Bo]using hsg
   have Hd:=Aa hdr;clear hsg hdr;rcases hsg2 with h91|h63
   ·have t1:((c.toNat:Int) == 91)=true:=Bs h91;clear h91;go_wp2_with fail;go_round
    case rel=>exact⟨k+1,by omega,Qgm (ap aI)⟩
    case measure=>rw[Jy,Jy];simp
   have t1:((c.toNat:Int) == 91)=false:=Am (d:=91) (by rw[h63];decide);have t2:((c.toNat:Int) == 63)=true:=Bs h63;clear h63;go_wp2_with fail;go_round
   case rel=>exact⟨k+1,by omega,Qgm (ap aI)⟩
   case measure=>rw[Jy,Jy];simp
  ·rw[List.drop_of_length_le aE,List.nil_append];go_wp2_with fail;exact ia
theorem Xk(nm:List UInt8)(w:World)(hn:nm.length<=1000):
  Calls prog 43 #[.string ⟨(64::(nm++[59])).toArray⟩] w fun e w'=>e=.returned (.tuple #[nm,.bool true])/\w=w':=by
 have h1:(nm++[59]).take nm.length=nm:=aI;go_enter func43,ntmps43;go_wp2_with fail;go_ret2;exact i6
theorem Qat(c:UInt8)(t:List UInt8)(w:World)(hc:c≠64)(hn:t.length<=1000):
  Calls prog 43 #[.string ⟨(c::t).toArray⟩] w fun e w'=>e=.returned (.tuple #[a8,.bool false])/\w=w':=by
 have t1:((c.toNat:Int) != 64)=true:=by
  have:=Am hc;rw[bne_iff_ne];intro e;have h64:((64:UInt8).toNat:Int)=64:=rfl;rw[beq_eq_false_iff_ne,h64]at this;exact this e
 clear hc;go_enter func43,ntmps43;go_wp2_with fail;go_ret2;exact i6
def Qb6:List UInt8:=[97,98,99,100,101,102,103,104,105,106,107,108,109,110,111,112,113,114,115,116,117,118,119,120,121,122]
def Qbx:List UInt8:=[97,98,99,100,101,102,103,104,105,106,107,108,109,110,111,112,113,114,115,116,117,118,119,120,121,122,48,49,50,51,52,53,54,55,56,57,32]
theorem Po{p:UInt8->Bool}(h:∀n,n<256->p (UInt8.ofNat n)=true)(c:UInt8):p c=true:=by
 have:=h c.toNat c.toNat_lt;rwa [UInt8.ofNat_toNat]at this
theorem Zm(c:UInt8):Qb6.contains c=Ao c:=by
 have:=Po (p:=fun c=>Qb6.contains c == Ao c) eD c;simpa using this
theorem Qac(c:UInt8):Qbx.contains c=Cg c:=by
 have:=Po (p:=fun c=>Qbx.contains c == Cg c) eD c;simpa using this
theorem Qhf(s:List UInt8):s.all (Qb6.contains ·)=s.all Ao:=by congr 1;funext c;exact Zm c
theorem Qh2(s:List UInt8):s.all (Qbx.contains ·)=s.all Cg:=by congr 1;funext c;exact Qac c
theorem J8(s:List UInt8)(w:World)(hs:s.length<=9223372036854775807):
  Calls prog 95 #[s] w fun e w'=>e=.returned (.bool (Bb s))/\Below w w w':=by
 by_cases h1:1<=s.length
 ·by_cases h3:s.length<=3
  ·have hT:=fun W=>Zz s Qb6 W hs aH aH;simp only[Qhf]at hT;have HT:=Aa hT;have hn:Bb s=s.all Ao:=by simp[Bb,h1,h3]
   have Hn:=Aa hn;clear hn hT;go_enter func95,ntmps95;go_wp2_with fail;refine(HT.o _).mono ?_;rintro e w' ⟨⟨r,rfl,hr⟩,hb⟩;cases r with
   |nil=>
    have Hr:=Aa (hr.1 rfl);clear hr;go_wp2_with fail;exact ie
   |cons x r=>
    have Hr:=Aa (show s.all Ao=false by
     cases h:s.all Ao with
     |false=>rfl
     |true=>exact absurd (hr.2 h) aI)
    clear hr;go_wp2_with fail;exact ie
  have Hn:=Aa (show Bb s=false by simp[Bb,h3]);go_enter func95,ntmps95;go_wp2_with fail;exact ig
 have Hn:=Aa (show Bb s=false by simp[Bb,h1]);go_enter func95,ntmps95;go_wp2_with fail;exact ig
theorem Qbw(s:List UInt8)(w:World)(hs:s.length<=9223372036854775807):
  Calls prog 174 #[s] w fun e w'=>e=.returned (.bool (Dq s))/\Below w w w':=by
 by_cases h3:s.length<=12
 ·have hT:=fun W=>Zz s Qbx W hs aH aH;simp only[Qh2]at hT;have HT:=Aa hT;have hn:Dq s=s.all Cg:=by simp[Dq,h3]
  have Hn:=Aa hn;have t0:decide ((s.length:Int)<=12)=true:=aM;clear hn hT;go_enter func174,ntmps174;go_wp2_with fail;refine(HT.o _).mono ?_;rintro e w' ⟨⟨r,rfl,hr⟩,hb⟩;cases r with
  |nil=>
   have Hr:=Aa (hr.1 rfl);clear hr;go_wp2_with fail;exact ie
  |cons x r=>
   have Hr:=Aa (show s.all Cg=false by
    cases h:s.all Cg with
    |false=>rfl
    |true=>exact absurd (hr.2 h) aI)
   clear hr;go_wp2_with fail;exact ie
 have Hn:=Aa (show Dq s=false by simp[Dq,h3]);have t0:decide ((s.length:Int)<=12)=false:=aM;go_enter func174,ntmps174;go_wp2_with fail;exact ig
def pnV(s:List UInt8)(m:Nat):Value:=
 match Cn s with
 |none=>.tuple #[.int .i64 0,.bool false]
 |some n=>.tuple #[.int .i64 n,.bool (decide (n<=m))]
theorem P2{s:List UInt8}{m:Nat}(h:Cn s=none):pnV s m=.tuple #[.int .i64 0,.bool false]:=by unfold pnV;rw[h]
theorem S8{s:List UInt8}{m n:Nat}(h:Cn s=some n):pnV s m=.tuple #[.int .i64 n,.bool (decide (n<=m))]:=by unfold pnV;rw[h]
theorem Xw(s:List UInt8)(k:Nat)(hk:k<=6)(h:(s.take k).all Bg=true):Fu (s.take k)<=999999:=by
 exact ii
theorem Gk(s:List UInt8)(m:Nat)(w:World)(hs:s.length<=9223372036854775807)(hm:m<=999999):
  Calls prog 130 #[s,.int .i64 m] w fun e w'=>e=.returned (pnV s m)/\w=w':=by
 rcases aD s.length 1 with h1|h1
 ·obtain rfl:s=[]:=List.eq_nil_of_length_eq_zero aE;have Hn:=Aa (P2 (m:=m) (show Cn []=none by rfl));go_enter func130,ntmps130;go_wp2_with fail;go_ret2;exact ij
 rcases aD 6 s.length with h6|h6
 ·have Hn:=Aa (P2 (m:=m) (show Cn s=none by unfold Cn;rw[if_neg];rintro⟨_,h,_⟩;omega));go_enter func130,ntmps130;go_wp2_with fail;go_ret2;exact ij
 have hc0:=(s[0]' aE).toNat_lt;have h3:(s[0]' aE=48/\1<s.length)\/((((s[0]' aE).toNat:Int) == 48)=true/\s.length<=1)\/((((s[0]' aE).toNat:Int) == 48)=false):=by
  by_cases h:s[0]' aE=48
  ·rcases aD 1 s.length with h'|h'
   ·exact .inl ⟨h,h'⟩
   exact .inr (.inl ⟨Bs h,h'⟩)
  exact .inr (.inr (Am h))
 have hhd:(s.head?≠some 48\/s.length=1)\/(s[0]' aE=48/\1<s.length):=by
  rcases h3 with h|⟨_,h⟩|h
  ·exact .inr h
  ·exact .inl (.inr aE)
  refine .inl (.inl ?_);rw[List.head?_eq_getElem?,List.getElem?_eq_getElem aE];intro e;injection e with e;rw[e]at h;exact absurd h aH
 have Hhd:=Aa hhd;clear hhd;rcases h3 with⟨hz,hl⟩|⟨t0,hl⟩|t0
 ·have Hn:=Aa (P2 (m:=m) (show Cn s=none by
   unfold Cn;rw[if_neg];rintro⟨_,_,_,h|h⟩
   ·apply h;rw[List.head?_eq_getElem?,List.getElem?_eq_getElem aE,hz]
   omega))
  have t0:(((s[0]' aE).toNat:Int) == 48)=true:=Bs hz;have Hz:=Aa hz;go_enter func130,ntmps130;go_wp2_with fail;go_ret2;exact ij
 all_goals
  have Hall:Hid (s.head?≠some 48\/s.length=1):=by
   rcases Hhd.o with h|⟨e,h⟩
   ·exact h
   exfalso
   first
    |omega
    |(rw[e]at t0;exact absurd t0 aH)
  clear Hhd;go_enter func130,ntmps130;go_wp2_with fail;go_loop [6,28] (fun x i=>∃k:Nat,i=.int .i64 k/\k<=s.length/\Hid ((s.take k).all Bg=true)/\Fu (s.take k)<=999999/\x=.int .i64 ((Fu (s.take k):Nat):Int)) (fun _ i=>s.length - (intOf i).toNat)
  case atStart=>exact⟨0,rfl,af _,by simp[Hid],by simp[Fu],by simp[Fu]⟩
  case round=>
   obtain⟨k,rfl,hk,hdig,hv,rfl⟩:=hrel;by_cases hlt:k<s.length
   ·have hc:=(s[k]).toNat_lt;have Hts:=Aa (Bx s k hlt);by_cases hd:Bg s[k]=true
    ·have hd2:=Di.1 hd;obtain⟨d1,d2⟩:=hd2;have hdig2:(s.take (k+1)).all Bg=true:=by
      rw[Hts.o,List.all_append,hdig.o];simp[hd]
     have hv2:=Xw s (k+1) aE hdig2;have Hdig2:=Aa hdig2;have Hv:=Aa (show Fu (s.take (k+1))=10*Fu (s.take k)+((s[k]).toNat - 48)by rw[Hts.o,Jx]);clear hd hdig2;go_wp2_with fail;go_round
     case rel=>exact⟨k+1,by go_num,by omega,Hdig2.o,hv2,Qjc (by rw[Hv.o];omega)⟩
     case measure=>simp[intOf];omega
    have Hn:=Aa (P2 (m:=m) (show Cn s=none by
     unfold Cn;rw[if_neg];rintro⟨_,_,h,_⟩;exact hd (List.all_eq_true.1 h _ (ad hlt))))
    have h2:(s[k]).toNat<48\/(48<=(s[k]).toNat/\57<(s[k]).toNat):=by
     rcases aD (s[k]).toNat 48 with h|h
     ·exact .inl h
     rcases aD 57 (s[k]).toNat with h'|h'
     ·exact .inr ⟨h,h'⟩
     exact absurd (Di.2 ⟨h,h'⟩) hd
    clear hd;rcases h2 with h2|⟨h2,h4⟩
    ·go_wp2_with fail;go_ret2;exact ij
    go_wp2_with fail;go_ret2;exact ij
   ·have e:s.take k=s:=ap aE
    have Hn:=Aa (S8 (m:=m) (show Cn s=some (Fu (s.take k))by
     have hd:=hdig.o;rw[e]at hd ⊢;unfold Cn;rw[if_pos ⟨by omega,by omega,hd,Hall.o⟩]))
    clear e;generalize Fu (s.take k)=v at hv Hn;by_cases hvm:v<=m
    ·go_wp2_with fail;go_ret2;exact⟨by rw[Hn.o];exact Qhn rfl (Cr (by simp[hvm])),rfl⟩
    go_wp2_with fail;go_ret2;exact⟨by rw[Hn.o];exact Qhn rfl (Cr aM),rfl⟩
end
theorem B8.ownK{w:World}{base k:Nat}{e:TypeId}{v:Value}{n:Nat}{xs:List Value}(h:w.ownsRow base e k v n xs)(hle:n*k<=maxLen):∃A c,v=.slice A n c/\B8 w A (n*k) xs:=by
 have h1:=h.1;rcases h.2 with⟨rfl,rfl⟩|⟨g,cap,cur,rfl,hb,hh,hnc,hcm,hcs,htk⟩
 ·exact⟨none,0,rfl,by omega,by omega,fun h=>absurd h aE⟩
 refine⟨some ⟨g,0,none⟩,cap,rfl,by omega,hle,fun hn=>⟨g,0,rfl,(h.lt g rfl).2,fun j u hu=>?_⟩⟩;have:=h.cells (g:=g) rfl j u hu;have e1:(⟨g,0,none⟩:Addr).add j=⟨g,0+j,none⟩:=bj;rwa [e1]at this
section
variable {P:Program}
theorem Qag(w:World){ops:Array Oper}{rest:List Oper}{o:Oper}{a:Act}{Q:Exit->Act->World->Prop}(hgd:o.guard=none)(s x:Operand)(t:TypeId)
  (ho:o.op=.call {callee:=.builtin .append,args:=#[s,x],argTypes:=#[t,t]})
  (base:Nat) (e:TypeId) (z:Value) (k bytes:Nat) (ht:P.underlying t=some (.slice e)) (hinfo:(P.info? e).map (fun i=>(i.zero,i.size,i.bytes))=some (some z,k,bytes))
  (hzs:z.cells.size=k) (hk:0<k) (W:World) (us:List Value) (hul:us.length=k) (hw:w=W.alloc (.cells us.toArray e)) (hu:∀u∈us,u.oneCell'=true) (v:Value) (n:Nat) (xs:List Value) (hs:a.eval s=v) (hx:a.eval x=.slice (W,0) 1 1)
  (hown:W.ownsRow base e k v n xs)
  (h63:n+1<=maxLen) (hbytes:(n+1)*bytes<=140737488355328) (hbase:base<=W.heap.size)
  (h:∀v' w',w'.ownsRow base e k v' (n+1) (xs++us)->Below base W w'->wpList P ops Q rest (a.put o.dst v') w'):wpList P ops Q (o::rest) a w:=by
 subst hw;obtain⟨i0,hi,hz0,hz1,hz2⟩:=info_parts hinfo;refine wpList_append_own _ hgd s x t ho base e i0 z k bytes ht hi hz0 hz1 hz2 hzs hk v n xs hs (hown.alloc _) ⟨W.heap.size,0,none⟩ 1 1 us hx aE ?_ hu h63 hbytes ?_ ?_
 ·exact gu
 ·exact gU
 intro v' w' h1 h2 _;exact h v' w' h1 (((Ay base W).alloc hbase _).grown h2 aM (fun k hk=>(hown.lt k hk).1))
end
theorem Qid:(prog.info? 118).map (fun i=>(i.zero,i.size,i.bytes))=some (some sf0,4,56):=aJ
theorem Tryz.infoSt:(prog.info? 95).map (fun i=>(i.zero,i.size,i.bytes))=some (some (.agg #[.int .u8 0,a8,.slice none 0 0]),3,48):=aJ
section
open Go.Maps (Keyed)
def Ny(v:Value):Option (DataW Value × List MemPlace):=some (.held v,[])
def Dv(P:Program)(k:TypeId)(z:Value)(w:World)(b n:Nat)(F:Lit->Value):Prop:=
 ∃D:DataW Value,w.ownsMap P k Ny b n D/\Go.Maps.IsMap D/\∀l,WideAt.IsKeyLit l->D.atKey l (.held z)=.held (F l)
section
variable {P:Program} {k:TypeId} {z:Value} {w w':World} {b n:Nat} {F:Lit->Value}
theorem Dv.made(w:World)(P:Program)(k:TypeId)(z:Value):Dv P k z (w.alloc (.map #[] 0)) w 0 (fun _=>z):=
 ⟨.map [],World.ownsMap_made w P k Ny,Go.Maps.isMap_empty,fun l _=>rfl⟩
theorem Dv.lt(h:Dv P k z w b n F):b<w.heap.size:=by
 obtain⟨D,h1,_⟩:=h;exact h1.lt
theorem Dv.kept{row:Option Nat}(h:Dv P k z w b n F)(hg:w.grownBy w' row)(hne:some b≠row):Dv P k z w' b n F:=by
 obtain⟨D,h1,h2⟩:=h;exact⟨D,h1.kept hg hne,h2⟩
theorem Dv.below(h:Dv P k z w b n F)(hb:Below w w w'):Dv P k z w' b n F:=
 h.kept (row:=none) ⟨hb.os,hb.tape,hb.output,hb.size,fun k hk _=>hb.block k hk⟩ aI
theorem Dv.belowAt{B:Nat}(h:Dv P k z w b n F)(hlt:b<B)(hb:Below B w w'):Dv P k z w' b n F:=by
 obtain⟨D,⟨es,clock,h1,h2,h3,h4⟩,h5⟩:=h;exact⟨D,⟨es,clock,(hb.block b hlt).trans h1,h2,h3,h4⟩,h5⟩
theorem Dv.alloc(h:Dv P k z w b n F)(o:Obj):Dv P k z (w.alloc o) b n F:=h.below ((Ay _ _).alloc (As _) o)
theorem Dv.drew(h:Dv P k z w b n F):Dv P k z w.drew b n F:=h
theorem Dv.mono(h:Dv P k z w b n F){n':Nat}(hn:n<=n'):Dv P k z w b n' F:=by
 obtain⟨D,h1,h2⟩:=h;exact⟨D,h1.mono hn,h2⟩
theorem Dv.of_eq{G:Lit->Value}(h:Dv P k z w b n F)(e:∀l,WideAt.IsKeyLit l->F l=G l):Dv P k z w b n G:=by
 obtain⟨D,h1,h2,h3⟩:=h;exact⟨D,h1,h2,fun l hl=>by rw[h3 l hl,e l hl]⟩
theorem Dv.lookup{t e:TypeId}(h:Dv P k z w b n F)(K:Keyed P k)(ht:P.underlying t=some (.map k e))(hz:(zeroValue e).run P w=.ok z w){key:Value}{kl:Lit}(hkey:keyOf P k key=some kl):
  (Instr.lookup t (.map (some b)) key false).run P w=.ok (F kl) w:=by
 obtain⟨D,h1,h2,h3⟩:=h;obtain⟨v,ps,hrun,hv⟩:=h1.lookup K ht hz (show Ny z=some (.held z,[])from rfl) hkey;rw[h3 kl (K.key hkey)]at hv;simp only[Ny,ai,aB,DataW.held.injEq]at hv;rw[hrun,hv.1]
theorem Dv.store{t e:TypeId}(h:Dv P k z w b n F)(K:Keyed P k)(ht:P.underlying t=some (.map k e))(hn:n<maxLen){key:Value}(val:Value){kl:Lit}(hkey:keyOf P k key=some kl):
  ∃w',(Instr.mapUpdate t (.map (some b)) key val).run P w=.ok () w'/\Dv P k z w' b (n+1) (fun l=>if l.sameKey kl=true then val else F l)/\w.grownBy w' (some b):=by
 obtain⟨D,h1,h2,h3⟩:=h;obtain⟨w',hrun,r1,r2⟩:=h1.update K ht hn hkey (show Ny val=some (.held val,[])from rfl);refine⟨w',hrun,⟨_,r1,h2.put _ _,fun l hl=>?_⟩,r2⟩;by_cases e:l=kl
 ·subst e;rw[Go.Maps.atKey_put_same h2 hl];simp[WideAt.sameKey_self hl]
 rw[Go.Maps.atKey_put_other e,h3 l hl];simp[show l.sameKey kl=false from Go.Maps.sameKey_ne e]
end
end
section
attribute [local go_sem] Qiu Qil Qgp
theorem Sw(s p:List UInt8):(s.take p.length == p)=p.isPrefixOf s:=by
 rw[Bool.eq_iff_iff,beq_iff_eq,List.isPrefixOf_iff_prefix,List.prefix_iff_eq_take];exact eq_comm
theorem S5(s p:List UInt8)(h:¬p.length<=s.length):p.isPrefixOf s=false:=by
 rw[Bool.eq_false_iff,Ne,List.isPrefixOf_iff_prefix];intro hp;exact h hp.length_le
theorem Tm(s p:List UInt8)(w:World):
  Calls prog 126 #[s,p] w fun e w'=>e=.returned (.bool (p.isPrefixOf s))/\w=w':=by
 by_cases h:p.length<=s.length
 ·have HS:=Aa (Sw s p);go_enter func126,ntmps126;go_wp2
  go_ret;exact⟨by rw[<-HS.o];rfl,rfl⟩
 have HS:=Aa (S5 s p h);go_enter func126,ntmps126;go_wp2
 go_ret;exact⟨by rw[HS.o];rfl,rfl⟩
end
theorem Mp{α:Type}{p q:α->Bool}:∀(l:List α) (_:∀x,q x=true->p x=true) {a:α} (_:a∈l) (_:p a=true) (_:q a=false),(l.filter q).length<(l.filter p).length
 |[],_,_,ha,_,_=>by cases ha
 |x::l,h,a,ha,hp,hq=>by
  have hle:∀l:List α,(l.filter q).length<=(l.filter p).length:=by
   intro l;induction l with
   |nil=>exact As _
   |cons y l ih=>
    simp only[List.filter_cons];by_cases h1:q y=true
    ·rw[if_pos h1,if_pos (h y h1)];simpa using ih
    rw[if_neg h1];split
    ·simp;omega
    exact ih
  rcases ax.1 ha with rfl|ha
  ·have:=hle l;simp only[List.filter_cons,hp,hq];simp;omega
  have ih:=Mp l h ha hp hq;simp only[List.filter_cons];by_cases h1:q x=true
  ·rw[if_pos h1,if_pos (h x h1)];simpa using ih
  rw[if_neg h1];split
  ·simp;omega
  exact ih
section
variable {P:Program} {ops:Array Oper} {Q:Exit->Act->World->Prop} {md:Region.Mode}
def Qj(ops:Array Oper)(listed:Array Bool):Nat:=((List.range ops.size).filter fun i=>!listed.getD i false).length
theorem V8(hac:∀(i:Nat) (o:Oper),ops[i]?=some o->∀e∈o.after,Region.binds md e=true->e.on<i)(I:(Nat->Bool)->Act->World->Prop)
  (hstep:∀(l:Nat->Bool) a w i o,ops[i]?=some o->l i=false->(∀e∈o.after,Region.binds md e=true->l e.on=true)->I l a w->wpOp P ops Q i (I fun j=>if j=i then true else l j) a w)
  (hdone:∀l a w,(∀i,i<ops.size->l i=true)->I l a w->Q .normal a w):
  ∀(fuel:Nat) (listed:Array Bool) a w,listed.size=ops.size->Qj ops listed<=fuel->I (fun j=>listed.getD j false) a w->wpAny P md ops Q fuel listed a w:=by
 have hall:∀listed:Array Bool,listed.size=ops.size->Region.ready md ops listed=[]->∀i,i<ops.size->listed.getD i false=true:=by
  intro listed hsz hr i;induction i using Nat.strongRecOn with
  |ind i ih=>
   intro hi;cases hb:listed.getD i false with
   |true=>rfl
   |false=>
    have:i∈Region.ready md ops listed:=by
     rw[mem_ready]
     refine ⟨by have h2:i<listed.size:=by omega
                simpa [Array.getD,h2]using hb,ops[i],by simp[hi],fun e he hbd=>?_⟩
     have h1:=hac i ops[i] (by simp[hi]) e he hbd;exact ih e.on h1 aE
    rw[hr]at this;cases this
 intro fuel;induction fuel with
 |zero=>
  intro listed a w hsz hst hI;have hall':∀i,i<ops.size->listed.getD i false=true:=by
   intro i hi;have h0:((List.range ops.size).filter fun i=>!listed.getD i false)=[]:=List.eq_nil_of_length_eq_zero (by unfold Qj at hst;omega);have:=List.filter_eq_nil_iff.1 h0 i (List.mem_range.2 hi);simpa using this
  refine⟨?_,hdone _ a w hall' hI⟩;cases hr:Region.ready md ops listed with
  |nil=>rfl
  |cons j js=>
   have hj:j∈Region.ready md ops listed:=by rw[hr];simp
   obtain⟨h1,o,h2,_⟩:=mem_ready.1 hj;have h3:j<ops.size:=(Array.getElem?_eq_some_iff.1 h2).1;have h4:=hall' j h3;have h5:j<listed.size:=aE;simp[Array.getD,h5]at h1 h4;rw[h1]at h4;cases h4
 |succ fuel ih=>
  intro listed a w hsz hst hI;refine⟨fun hr=>hdone _ a w (hall listed hsz hr) hI,fun i hi=>?_⟩;obtain⟨h1,o,h2,h3⟩:=mem_ready.1 hi;have hlt:i<ops.size:=(Array.getElem?_eq_some_iff.1 h2).1;have hlt2:i<listed.size:=aE;have h1':listed.getD i false=false:=by simpa [Array.getD,hlt2]using h1
  have hset:∀j,(listed.setIfInBounds i true).getD j false=if j=i then true else listed.getD j false:=by
   intro j;by_cases hj:j=i
   ·subst hj;simp[Array.getD,hlt2]
   rw[if_neg hj,getD_set_ne _ (Ne.symm hj)]
  refine wpOp_mono (fun a' w' h=>ih (listed.setIfInBounds i true) a' w' (by simpa using hsz) ?_ ?_) (hstep _ a w i o h2 h1' h3 hI)
  ·have:=Mp (p:=fun i=>!listed.getD i false) (q:=fun j=>!(listed.setIfInBounds i true).getD j false) (List.range ops.size) (fun x hx=>by
    simp only[Bool.not_eq_true']at hx ⊢;rw[hset]at hx;by_cases hxi:x=i
    ·rw[if_pos hxi]at hx;cases hx
    rwa [if_neg hxi]at hx) (List.mem_range.2 hlt) (by simp only[h1',Bool.not_false]) (by simp only[hset,if_true,Bool.not_true])
   unfold Qj at hst ⊢;omega
  have e:(fun j=>(listed.setIfInBounds i true).getD j false)=fun j=>if j=i then true else listed.getD j false:=funext hset
  rw[e];exact h
def Ba(p:Nat->Oper->Prop)(k:Nat)(os:List Oper):Prop:=∀i o,os[i]?=some o->p (k+i) o
theorem Ba.nil{p:Nat->Oper->Prop}{k:Nat}:Ba p k []:=fun i o h=>by simp at h
theorem Ba.cons{p:Nat->Oper->Prop}{k:Nat}{o:Oper}{os:List Oper}(h:p k o)(hs:Ba p (k+1) os):Ba p k (o::os):=fun i o' ho=>by
 cases i with
 |zero=>simp at ho;subst ho;exact h
 |succ i=>simp at ho;have:=hs i o' ho;rwa [Nat.add_assoc,Nat.add_comm 1 i]at this
theorem Vm{id:Nat}(hm:P.follows .mixedOrders=true)(hac:(List.range ops.size).all (fun i=>((ops[i]?).map fun o=>o.after.all fun e=>!Region.binds .any e || decide (e.on<i)).getD true)=true)
  (mk:(Nat->Value)->Act) (u0:Nat->Value) {a:Act} (ha:a=mk u0) {w:World}
  (φ:Nat->Value->World->Prop) (R:(Nat->Bool)->World->Prop) (Rel:World->World->Prop)
  (hput:Ba (fun i o=>∀u v,(mk u).put o.dst v=mk (fun j=>if j=i then v else u j)) 0 ops.toList)
  (hst:∀w w',Rel w w'->∀i v,φ i v w->φ i v w')
  (h0:R (fun _=>false) w.drew)
  (hstep:Ba (fun i o=>∀(l:Nat->Bool) u w,l i=false->(∀e∈o.after,Region.binds .any e=true->l e.on=true/\φ e.on (u e.on) w)->R l w ->
   ∀K:Act->World->Prop,(∀v w' a',φ i v w'->Rel w w'->R (fun j=>if j=i then true else l j) w'->a'=(mk u).put o.dst v->K a' w') ->
    if Region.wanted o (yielded ops (mk u).tmps)=true then Oper.wp P o (mk u) w K Q else K ((mk u).put o.dst undef) w) 0 ops.toList)
  (hdone:∀(l:Nat->Bool) u w,(∀i,i<ops.size->l i=true)->(∀i,i<ops.size->φ i (u i) w)->R l w->Q .normal (mk u) w):(Code.region id ops true).wp P Q a w:=by
 subst ha;have hst':=fun i v w w' h=>hst w w' h i v;have hac':∀(i:Nat) (o:Oper),ops[i]?=some o->∀e∈o.after,Region.binds .any e=true->e.on<i:=by
  intro i o ho e he hbd;have hlt:i<ops.size:=(Array.getElem?_eq_some_iff.1 ho).1;have h:=List.all_eq_true.1 hac i (List.mem_range.2 hlt);rw[ho]at h;have:=Array.all_eq_true_iff_forall_mem.1 h e he;simpa [hbd]using this
 refine wp_region_any hm ?_
 refine V8 hac' (fun l a w=>∃u,a=mk u/\(∀i,l i=true->i<ops.size->φ i (u i) w)/\R l w) ?_ ?_ ops.size _ (mk u0) _ aI (by
  unfold Qj;exact ac (List.length_filter_le _ _) aI) ⟨u0,rfl,?_,?_⟩
 ·rintro l a w i o ho hl hpre ⟨u,rfl,hφ,hR⟩;have ho':ops.toList[i]?=some o:=by simpa using ho
  have hp:=hput i o ho';have hs:=hstep i o ho';rw[aj]at hp hs;refine wpOp_step ho fun K' hK'=>?_;refine hs l u w hl (fun e he hb=>⟨hpre e he hb,hφ e.on (hpre e he hb) ?_⟩) hR K' (fun v w' a' hv hrel hR' ha'=>hK' _ _ ⟨_,ha'.trans (hp u v),fun j hj hjs=>?_,hR'⟩)
  ·exact gM
  by_cases hji:j=i
  ·subst hji;simpa using hv
  have hj':l j=true:=eS;simpa [hji]using hst' j _ w w' hrel (hφ j hj' hjs)
 ·rintro l a w hl ⟨u,rfl,hφ,hR⟩;exact ik
 ·intro i hi;simp[Array.getD]at hi
 have e:(fun j=>(Array.replicate ops.size false).getD j false)=fun _=>false:=by
  funext j
  simp[Array.getD]
 rw[e];exact h0
def Bk:List Nat->Nat->(Nat->Value)->List Value->List Value
 |[],_,_,t=>t
 |s::S,i,u,t=>Bk S (i+1) u (t.set s (u i))
def Bn(a:Act)(S:List Nat)(u:Nat->Value):Act:={tmps:=(Bk S 0 u a.tmps.toList).toArray,defers:=a.defers}
theorem M2:∀(S:List Nat) (i:Nat) (u:Nat->Value) (t:List Value),(∀k s,S[k]?=some s->u (i+k)=t.getD s undef)->Bk S i u t=t
 |[],_,_,_,_=>rfl
 |s::S,i,u,t,h=>by
  have h0:u i=t.getD s undef:=by simpa using h 0 s rfl
  have e:t.set s (u i)=t:=by
   rw[h0];apply List.ext_getElem?;intro j;by_cases hj:s=j
   ·subst hj;by_cases hl:s<t.length
    ·simp[List.getD,hl]
    simp[hl]
   simp[hj]
  rw[Bk,e];exact M2 S (i+1) u t fun k s' hk=>by
   have:=h (k+1) s' (by simpa using hk);rwa [show i+1+k=i+(k+1)by omega]
theorem Me:∀(S:List Nat) (i:Nat) (u v:Nat->Value) (t:List Value),(∀j,i<=j->u j=v j)->Bk S i u t=Bk S i v t
 |[],_,_,_,_,_=>rfl
 |s::S,i,u,v,t,h=>by
  rw[Bk,Bk,h i (As _)];exact Me S (i+1) u v _ fun j hj=>h j aE
theorem Qs:∀(S:List Nat) (i:Nat) (u:Nat->Value) (t:List Value) (s:Nat) (v:Value),s∉S->(Bk S i u t).set s v=Bk S i u (t.set s v)
 |[],_,_,_,_,_,_=>rfl
 |s'::S,i,u,t,s,v,h=>by
  have h1:s≠s':=fun e=>h (by simp[e]);rw[Bk,Bk,Qs S (i+1) u _ s v (fun hm=>h (by simp[hm]))];congr 1
  exact(List.set_comm _ _ h1).symm
theorem N6:∀(S:List Nat) (i:Nat) (u:Nat->Value) (t:List Value) (k s:Nat) (v:Value),S.Nodup->S[k]?=some s->(Bk S i u t).set s v=Bk S i (fun j=>if j=i+k then v else u j) t
 |[],_,_,_,k,s,v,_,h=>by simp at h
 |s'::S,i,u,t,0,s,v,hn,h=>by
  simp at h;subst h;rw[Bk,Bk,Qs S (i+1) u _ s' v (List.nodup_cons.1 hn).1];rw[if_pos aE,List.set_set];exact Me S (i+1) u _ _ fun j hj=>by rw[if_neg aE]
 |s'::S,i,u,t,k+1,s,v,hn,h=>by
  simp at h;rw[Bk,Bk,N6 S (i+1) u _ k s v (List.nodup_cons.1 hn).2 h,if_neg aE];rw[show i+1+k=i+(k+1)by omega]
theorem N4:∀(S:List Nat) (i:Nat) (u:Nat->Value) (t:List Value) (k s:Nat) (v:Value),S[k]?=some s->t.length<=s->Bk S i u t=Bk S i (fun j=>if j=i+k then v else u j) t
 |[],_,_,_,k,s,v,h,_=>by simp at h
 |s'::S,i,u,t,0,s,v,h,hl=>by
  simp at h;subst h;rw[Bk,Bk,List.set_eq_of_length_le hl,List.set_eq_of_length_le hl];exact Me S (i+1) u _ _ fun j hj=>by rw[if_neg aE]
 |s'::S,i,u,t,k+1,s,v,h,hl=>by
  simp at h;rw[Bk,Bk,N4 S (i+1) u _ k s v h eG,if_neg aE];rw[show i+1+k=i+(k+1)by omega]
def Gd(n:Nat):List Oper->List Nat->Bool
 |[],[]=>true
 |o::os,s::S=>(match o.dst with|some d=>d == s|none=>decide (n<=s)) && !S.contains s && Gd n os S
 |_,_=>false
theorem M9{n:Nat}:∀{os:List Oper} {S:List Nat},Gd n os S=true->S.Nodup/\∀(i:Nat) (o:Oper),os[i]?=some o->∃s,S[i]?=some s/\(o.dst=some s\/(o.dst=none/\n<=s))
 |[],[],_=>⟨List.nodup_nil,fun i o h=>by simp at h⟩
 |[],_::_,h=>by simp[Gd]at h
 |_::_,[],h=>by simp[Gd]at h
 |o::os,s::S,h=>by
  simp only[Gd,ar]at h;obtain⟨⟨h1,h2⟩,h3⟩:=h;obtain⟨hn,hs⟩:=M9 h3;refine⟨List.nodup_cons.2 ⟨by simpa using h2,hn⟩,fun i o' ho=>?_⟩;cases i with
  |zero=>
   simp at ho;subst ho;refine⟨s,rfl,?_⟩;cases hd:o.dst with
   |some d=>rw[hd]at h1;simp at h1;exact .inl (by rw[h1])
   |none=>rw[hd]at h1;simp at h1;exact .inr ⟨rfl,h1⟩
  |succ i=>simpa using hs i o' (by simpa using ho)
theorem Gm{id:Nat}{a:Act}{w:World}(S:List Nat)(hm:P.follows .mixedOrders=true)(hac:(List.range ops.size).all (fun i=>((ops[i]?).map fun o=>o.after.all fun e=>!Region.binds .any e || decide (e.on<i)).getD true)=true)
  (hS:Gd a.tmps.size ops.toList S=true) {mk:(Nat->Value)->Act} (hmk:∀u,Bn a S u=mk u)
  (φ:Nat->Value->World->Prop) (R:(Nat->Bool)->World->Prop) (Rel:World->World->Prop)
  (hst:∀w w',Rel w w'->∀i v,φ i v w->φ i v w')
  (h0:R (fun _=>false) w.drew)
  (hstep:Ba (fun i o=>∀(l:Nat->Bool) u w,l i=false->(∀e∈o.after,Region.binds .any e=true->l e.on=true/\φ e.on (u e.on) w)->R l w ->
   ∀K:Act->World->Prop,(∀v w' a',φ i v w'->Rel w w'->R (fun j=>if j=i then true else l j) w'->a'=(mk u).put o.dst v->K a' w') ->
    if Region.wanted o (yielded ops (mk u).tmps)=true then Oper.wp P o (mk u) w K Q else K ((mk u).put o.dst undef) w) 0 ops.toList)
  (hdone:∀(l:Nat->Bool) u w,(∀i,i<ops.size->l i=true)->(∀i,i<ops.size->φ i (u i) w)->R l w->Q .normal (mk u) w):(Code.region id ops true).wp P Q a w:=by
 obtain rfl:Bn a S=mk:=funext hmk;obtain⟨hn,hs⟩:=M9 hS;refine Vm hm hac (Bn a S) (fun i=>a.tmps.toList.getD (S.getD i 0) undef) ?_ φ R Rel ?_ hst h0 hstep hdone
 ·exact hC
 intro i o ho u v;rw[aj];obtain⟨s,hsi,hd|⟨hd,hb⟩⟩:=hs i o ho
 ·exact gz
 have e:=N4 S 0 u a.tmps.toList i s v hsi (by simpa using hb);rw[aj]at e;unfold Bn Act.put;rw[hd];simp only[<-e]
end
section
variable {P:Program} {ops:Array Oper} {Q:Exit->Act->World->Prop}
theorem Bh{id:Nat}{a:Act}{w:World}(S:List Nat)(hm:P.follows .mixedOrders=true)(hac:(List.range ops.size).all (fun i=>((ops[i]?).map fun o=>o.after.all fun e=>!Region.binds .any e || decide (e.on<i)).getD true)=true)
  (hS:Gd a.tmps.size ops.toList S=true) {mk:(Nat->Value)->Act} (hmk:∀u,Bn a S u=mk u)
  (φ:Nat->Value->World->Prop) (R:(Nat->Bool)->(Nat->Value)->World->Prop) (Rel:World->World->Prop)
  (hst:∀w w',Rel w w'->∀i v,φ i v w->φ i v w')
  (h0:R (fun _=>false) (fun i=>a.tmps.toList.getD (S.getD i 0) undef) w.drew)
  (hstep:Ba (fun i o=>∀(l:Nat->Bool) u w,l i=false->(∀e∈o.after,Region.binds .any e=true->l e.on=true/\φ e.on (u e.on) w)->R l u w ->
   (∀j,l j=false->u j=a.tmps.toList.getD (S.getD j 0) undef)->(∀(j:Nat) (o:Oper),ops[j]?=some o->∀e∈o.after,Region.binds .any e=true->l e.on=false->l j=false) ->
   ∀K:Act->World->Prop,(∀v w' a',φ i v w'->Rel w w'->R (fun j=>if j=i then true else l j) (fun j=>if j=i then v else u j) w'->a'=(mk u).put o.dst v->K a' w') ->
    if Region.wanted o (yielded ops (mk u).tmps)=true then Oper.wp P o (mk u) w K Q else K ((mk u).put o.dst undef) w) 0 ops.toList)
  (hdone:∀(l:Nat->Bool) u w,(∀i,i<ops.size->l i=true)->(∀i,i<ops.size->φ i (u i) w)->R l u w->Q .normal (mk u) w):(Code.region id ops true).wp P Q a w:=by
 obtain rfl:Bn a S=mk:=funext hmk;obtain⟨hn,hs⟩:=M9 hS;have hput:∀(i:Nat) (o:Oper),ops.toList[i]?=some o->∀u v,(Bn a S u).put o.dst v=Bn a S (fun j=>if j=i then v else u j):=by
  intro i o ho u v;obtain⟨s,hsi,hd|⟨hd,hb⟩⟩:=hs i o ho
  ·exact gz
  have e:=N4 S 0 u a.tmps.toList i s v hsi (by simpa using hb);rw[aj]at e;unfold Bn Act.put;rw[hd];simp only[<-e]
 have hac':∀(i:Nat) (o:Oper),ops[i]?=some o->∀e∈o.after,Region.binds .any e=true->e.on<i:=by
  intro i o ho e he hbd;have hlt:i<ops.size:=(Array.getElem?_eq_some_iff.1 ho).1;have h:=List.all_eq_true.1 hac i (List.mem_range.2 hlt);rw[ho]at h;have:=Array.all_eq_true_iff_forall_mem.1 h e he;simpa [hbd]using this
 refine wp_region_any hm ?_
 refine V8 hac' (fun l b w=>∃u,b=Bn a S u/\(∀i,l i=true->i<ops.size->φ i (u i) w)/\R l u w/\(∀j,l j=false->u j=a.tmps.toList.getD (S.getD j 0) undef) /\
   (∀(j:Nat) (o:Oper),ops[j]?=some o->∀e∈o.after,Region.binds .any e=true->l e.on=false->l j=false)) ?_ ?_ ops.size _ a _ aI (by
  unfold Qj;exact ac (List.length_filter_le _ _) aI) ⟨fun i=>a.tmps.toList.getD (S.getD i 0) undef,?_,?_,?_,fun _ _=>rfl,?_⟩
 ·rintro l b w i o ho hl hpre ⟨u,rfl,hφ,hR,hi,hdn⟩;have ho':ops.toList[i]?=some o:=by simpa using ho
  have hp:=hput i o ho';have hs':=hstep i o ho';rw[aj]at hs';refine wpOp_step ho fun K' hK'=>?_;refine hs' l u w hl (fun e he hb=>⟨hpre e he hb,hφ e.on (hpre e he hb) ?_⟩) hR hi hdn K' (fun v w' a' hv hrel hR' ha'=>hK' _ _ ⟨_,ha'.trans (hp u v),fun j hj hjs=>?_,hR',fun j hj=>?_,fun j o' hj e he hb hle=>?_⟩)
  ·exact gM
  ·by_cases hji:j=i
   ·subst hji;simpa using hv
   have hj':l j=true:=eS;simpa [hji]using hst w w' hrel j _ (hφ j hj' hjs)
  ·by_cases hji:j=i
   ·subst hji;simp at hj
   have hj':l j=false:=eS;simpa [hji]using hi j hj'
  have hne:e.on≠i:=by rintro rfl;simp at hle
  have hle':l e.on=false:=by simpa [hne]using hle
  have hlj:=hdn j o' hj e he hb hle';have hji:j≠i:=by
   rintro rfl;rw[ho]at hj;injection hj with hj;subst hj;rw[hpre e he hb]at hle';cases hle'
  simpa [hji]using hlj
 ·rintro l b w hl ⟨u,rfl,hφ,hR,_,_⟩;exact ik
 ·exact hC
 ·intro i hi;simp[Array.getD]at hi
 ·have e:(fun j=>(Array.replicate ops.size false).getD j false)=fun _=>false:=by
   funext j
   simp[Array.getD]
  rw[e];exact h0
 intro j o hj e he hb _;simp[Array.getD]
end
theorem Ce{ops:Array Oper}{l:Nat->Bool}(h:∀(j:Nat) (o:Oper),ops[j]?=some o->∀e∈o.after,Region.binds .any e=true->l e.on=false->l j=false)(j i:Nat)(hc:((ops[j]?).map fun o=>o.after.toList.any fun e=>decide (e.on=i) && Region.binds .any e)=some true)(hi:l i=false):l j=false:=by
 cases ho:ops[j]? with
 |none=>rw[ho]at hc;cases hc
 |some o=>
  rw[ho]at hc;have hc:(o.after.toList.any fun e=>decide (e.on=i) && Region.binds .any e)=true:=by injection hc
  obtain⟨e,he,h2⟩:=List.any_eq_true.1 hc;rw[ar,decide_eq_true_iff]at h2;obtain⟨rfl,h3⟩:=h2;exact h j o ho e cu h3 hi
theorem rgE{P:Program}{ops:Array Oper}{Q:Exit->Act->World->Prop}{id:Nat}{a:Act}{w:World}(S:List Nat){mk:(Nat->Value)->Act}
  (φ:Nat->Value->World->Prop) (R:(Nat->Bool)->(Nat->Value)->World->Prop)
  (h0:R (fun _=>false) (fun i=>a.tmps.toList.getD (S.getD i 0) undef) w.drew)
  (hstep:Ba (fun i o=>∀(l:Nat->Bool) u w,l i=false->(∀e∈o.after,Region.binds .any e=true->l e.on=true/\φ e.on (u e.on) w)->R l u w ->
   (∀j,l j=false->u j=a.tmps.toList.getD (S.getD j 0) undef)->(∀(j:Nat) (o:Oper),ops[j]?=some o->∀e∈o.after,Region.binds .any e=true->l e.on=false->l j=false) ->
   ∀K:Act->World->Prop,(∀v w' a',φ i v w'->True->R (fun j=>if j=i then true else l j) (fun j=>if j=i then v else u j) w'->a'=(mk u).put o.dst v->K a' w') ->
    if Region.wanted o (yielded ops (mk u).tmps)=true then Oper.wp P o (mk u) w K Q else K ((mk u).put o.dst undef) w) 0 ops.toList)
  (hdone:∀(l:Nat->Bool) u w,(∀i,i<ops.size->l i=true)->(∀i,i<ops.size->φ i (u i) w)->R l u w->Q .normal (mk u) w)
  (hc:(P.follows .mixedOrders && (List.range ops.size).all (fun i=>((ops[i]?).map fun o=>o.after.all fun e=>!Region.binds .any e || decide (e.on<i)).getD true) && Gd a.tmps.size ops.toList S)=true:=by kernel_rfl) (hst:∀w w':World,True->∀i v,φ i v w->φ i v w':=by exact fun _ _ _ _ _ h=>h) (hmk:∀u,Bn a S u=mk u:=by intro u;dsimp only[Bn,Bk,List.set,aj,Nat.reduceAdd]):(Code.region id ops true).wp P Q a w:=
 have h1:=Bool.and_eq_true_iff.1 hc;have h2:=Bool.and_eq_true_iff.1 h1.1;Bh S h2.1 h2.2 h1.2 hmk φ R (fun _ _=>True) hst h0 hstep hdone
theorem Sy{P:Program}{ops:Array Oper}{Q:Exit->Act->World->Prop}{id:Nat}{a:Act}{w:World}(S:List Nat){mk:(Nat->Value)->Act}
  (φ:Nat->Value->World->Prop) (R:(Nat->Bool)->(Nat->Value)->World->Prop)
  (h0:R (fun _=>false) (fun i=>a.tmps.toList.getD (S.getD i 0) undef) w.drew)
  (hstep:Ba (fun i o=>∀(l:Nat->Bool) u w,l i=false->(∀e∈o.after,Region.binds .any e=true->l e.on=true/\φ e.on (u e.on) w)->Hid (R l u w)->Hid (∀(j:Nat) (o:Oper),ops[j]?=some o->∀e∈o.after,Region.binds .any e=true->l e.on=false->l j=false) ->
   ∀K:Act->World->Prop,(∀v w' a',φ i v w'->True->R (fun j=>if j=i then true else l j) (fun j=>if j=i then v else u j) w'->a'=(mk u).put o.dst v->K a' w') ->
    if Region.wanted o (yielded ops (mk u).tmps)=true then Oper.wp P o (mk u) w K Q else K ((mk u).put o.dst undef) w) 0 ops.toList)
  (hdone:∀(l:Nat->Bool) u w,(∀i,i<ops.size->l i=true)->(∀i,i<ops.size->φ i (u i) w)->R l u w->Q .normal (mk u) w)
  (hc:(P.follows .mixedOrders && (List.range ops.size).all (fun i=>((ops[i]?).map fun o=>o.after.all fun e=>!Region.binds .any e || decide (e.on<i)).getD true) && Gd a.tmps.size ops.toList S)=true:=by kernel_rfl) (hst:∀w w':World,True->∀i v,φ i v w->φ i v w':=by exact fun _ _ _ _ _ h=>h) (hmk:∀u,Bn a S u=mk u:=by intro u;dsimp only[Bn,Bk,List.set,aj,Nat.reduceAdd]):(Code.region id ops true).wp P Q a w:=
 have h1:=Bool.and_eq_true_iff.1 hc;have h2:=Bool.and_eq_true_iff.1 h1.1;Bh S h2.1 h2.2 h1.2 hmk φ R (fun _ _=>True) hst h0 (fun i o ho l u w h1 h2 hR _ hd=>hstep i o ho l u w h1 h2 hR hd) hdone
theorem Nj{a b:Bool}(h:a=false->b=false)(l:b=true):a=true:=by
 cases a with
 |true=>rfl
 |false=>rw[h rfl]at l;cases l
theorem Tryz.sizeBuilder:(prog.info? 125).map (·.size)=some 2:=aJ
theorem Tryz.liesBuilder:liesAt prog prog.depth 125 (2 / prog.cellsOf 125) 0 125 1=true:=aJ
theorem Tryz.cellsByte:prog.cellsOf 5=1:=aJ
section
variable {P:Program}
end
theorem Vi(a b:List (List UInt8)):Br (a++b)=Br a++Br b:=by simp[Br]
section
attribute [local go_sem] Qjy Qiu Qil Qgp ByteArray.mk_append_mk
theorem Pb(n:Nat)(w:World)(hn:n<10):
  Calls prog 62 #[.int .i64 n] w fun e w'=>e=.returned (.string ⟨(Az n).toArray⟩)/\Below w w w':=by
 have Hfin:=Aa (Eg hn);have hcv:=fun W=>Qft W w 1 (Gp (48+n));rw[Gf aE]at hcv;go_enter func62,ntmps62;go_wp2_with fail;exact il
theorem Pe:∀(k n:Nat) (w:World),n<=k->n<=1000000000 ->
  Calls prog 62 #[.int .i64 n] w fun e w'=>e=.returned (.string ⟨(Az n).toArray⟩)/\Below w w w':=by
 intro k;induction k with
 |zero=>intro n w hn h;exact Pb n w aE
 |succ k ih=>
  intro n w hn h;by_cases h10:n<10
  ·exact Pb n w h10
  have Hfin:=Aa (M0 h10);have Hs:=Aa (Eg (show n % 10<10 by omega));have Ih:=Aa (fun W=>ih (n / 10) W aE aE);have hl:=Df 8 (n / 10) eT;have e1:((n:Int) / 10)=((n / 10:Nat):Int):=aE;have e2:((n:Int) % 10)=((n % 10:Nat):Int):=aE;have E1:=Aa e1;have E2:=Aa e2;clear ih e1 e2;go_enter func62,ntmps62;go_wp2_with fail;rw[E1.o];refine(Ih.o _).mono ?_;rintro e w1 ⟨rfl,hb1⟩;have Hb1:=Aa hb1;clear hb1;go_wp2_with fail;rw[E2.o];refine(Pb (n % 10) w1 aE).mono ?_;rintro e w2 ⟨rfl,hb2⟩;have Hb2:=Aa (Hb1.o.trans (hb2.mono Hb1.o.size));rw[Hs.o];clear hb2;go_wp2_with fail;go_ret;exact⟨by rw[Hfin.o];rfl,Hb2.o⟩
def Qh7(b:List UInt8):Prop:=b=[110]\/b=[116]\/b=[102]\/b=[64]
theorem Qdy{s:List UInt8}:Bw [110] s=(match Cn s with|some n=>decide (0<n)|none=>false):=rfl
theorem Qc8{s:List UInt8}:Bw [116] s=(decide (2<s.length) && decide (s.head?=some 39) && decide (s.getLast?=some 39) && Dq (s.drop 1).dropLast):=rfl
theorem Qea{s:List UInt8}:Bw [102] s=decide (s=[121,101,115]):=rfl
theorem Qby(s:List UInt8)(w:World)(hs:s.length<=4000000):
  Calls prog 155 #[.string ⟨#[110]⟩,s] w fun e w'=>e=.returned (.bool (Bw [110] s))/\Below w w w':=by
 have Hp:=Aa (fun W=>Gk s 999999 W aE aE);have Hf:=Aa (Qdy (s:=s));cases hd:Cn s with
 |none=>
  rw[hd]at Hf;have Hv:=Aa (P2 (m:=999999) hd);clear hd;go_enter func155,ntmps155;go_wp2_with fail;refine(Hp.o _).mono ?_;rintro e w' ⟨rfl,rfl⟩;rw[Hv.o];go_wp2_with fail;go_ret;exact⟨Eh (Cr Hf.o.symm),Ay _ _⟩
 |some n=>
  rw[hd]at Hf;have h9:=(Cb.1 hd).1;have Hv:=Aa (S8 (m:=999999) hd);have t1:decide (n<=999999)=true:=by simp;exact h9
  clear hd;rcases aD 0 n with hn|hn;all_goals
   go_enter func155,ntmps155;go_wp2_with fail;refine(Hp.o _).mono ?_;rintro e w' ⟨rfl,rfl⟩;rw[Hv.o,t1];go_wp2_with fail;go_ret;exact⟨Eh (Cr (by rw[Hf.o];first|done|(simp;try omega))),Ay _ _⟩
theorem Qa9(s:List UInt8)(w:World)(hs:s.length<=4000000):
  Calls prog 155 #[.string ⟨#[102]⟩,s] w fun e w'=>e=.returned (.bool (Bw [102] s))/\Below w w w':=by
 have Hf:=Aa (Qea (s:=s));by_cases hy:s=[121,101,115]
 ·subst hy;go_enter func155,ntmps155;go_wp2_with fail;go_ret;exact⟨Eh (Cr (by rw[Hf.o];simp)),Ay _ _⟩
 have Hy:=Aa (show decide (s=[121,101,115])=false by simpa using hy);have ty:(s == [121,101,115])=false:=by simpa using hy
 clear hy;go_enter func155,ntmps155;go_wp2_with fail;go_ret;exact⟨Eh (Cr (by rw[Hf.o,Hy.o])),Ay _ _⟩
theorem Zq(s:List UInt8)(w:World):
  Calls prog 155 #[.string ⟨#[64]⟩,s] w fun e w'=>e=.returned (.bool (Bw [64] s))/\Below w w w':=by
 go_enter func155,ntmps155;go_wp2_with fail;go_ret;exact im
theorem Qb4(s:List UInt8)(w:World)(hs:s.length<=4000000):
  Calls prog 155 #[.string ⟨#[116]⟩,s] w fun e w'=>e=.returned (.bool (Bw [116] s))/\Below w w w':=by
 have hf:=Qc8 (s:=s);rcases aD 2 s.length with h2|h2
 ·obtain⟨c,u,d,rfl⟩:∃c u d,s=c::(u++[d]):=by
   cases s with
   |nil=>simp at h2
   |cons c t=>
    rcases Eu t with rfl|⟨u,d,rfl⟩
    ·simp at h2
    exact⟨c,u,d,rfl⟩
  have hl:(c::(u++[d])).getLast?=some d:=by
   exact ic
  have hu:((c::(u++[d])).drop 1).dropLast=u:=aI;rw[hl,hu]at hf;have t0:decide (2<(c::(u++[d])).length)=true:=dU;rw[t0]at hf;simp only[List.head?_cons,ai,Bool.true_and]at hf;have Hf:=Aa hf;have hc:=c.toNat_lt;have hd:=d.toNat_lt;have hgd:∀h,(c::(u++[d]))[u.length+1]'h=d:=by intro h;simp
  have hsl:(List.take u.length (u++[d]))=u:=aI;have hul:2<=u.length+1:=by simp at h2;omega
  have hul2:u.length<=4000000:=ff;clear hf hl hu h2 hs t0;by_cases hc39:c=39
  ·have t1:((c.toNat:Int) == 39)=true:=Bs hc39;have Hc:=Aa (show decide (c=39)=true by simpa using hc39);clear hc39;by_cases hd39:d=39
   ·have t2:((d.toNat:Int) == 39)=true:=Bs hd39;have Hd:=Aa (show decide (d=39)=true by simpa using hd39);clear hd39;go_enter func155,ntmps155;go_wp2_with fail;refine(Qbw u _ aE).mono ?_;rintro e w' ⟨rfl,hb⟩;go_wp2_with fail;go_ret;exact⟨Eh (Cr (by rw[Hf.o,Hc.o,Hd.o];simp)),hb⟩
   have t2:((d.toNat:Int) == 39)=false:=Am hd39;have Hd:=Aa (show decide (d=39)=false by simpa using hd39);clear hd39;go_enter func155,ntmps155;go_wp2_with fail;go_ret;exact⟨Eh (Cr (by rw[Hf.o,Hd.o];simp)),Ay _ _⟩
  have t1:((c.toNat:Int) == 39)=false:=Am hc39;have Hc:=Aa (show decide (c=39)=false by simpa using hc39);clear hc39;go_enter func155,ntmps155;go_wp2_with fail;go_ret;exact⟨Eh (Cr (by rw[Hf.o,Hc.o];simp)),Ay _ _⟩
 have e0:decide (2<s.length)=false:=aM;have Hf:=Aa (show Bw [116] s=false by rw[hf,e0];simp);clear e0;have t0:decide (2<(s.length:Int))=false:=aM;clear hf;go_enter func155,ntmps155;go_wp2_with fail;go_ret;exact⟨Eh (Cr Hf.o.symm),Ay _ _⟩
theorem Yx(b s:List UInt8)(w:World)(hb:Qh7 b)(hs:s.length<=4000000):
  Calls prog 155 #[b,s] w fun e w'=>e=.returned (.bool (Bw b s))/\Below w w w':=by
 rcases hb with rfl|rfl|rfl|rfl
 ·exact Qby s w hs
 ·exact Qb4 s w hs
 ·exact Qa9 s w hs
 exact Zq s w
theorem Av{B:Nat}{w w':World}{b o:Nat}{cs:List Value}(h:w.rangeAt b o cs)(hb:b<B)(hw:Below B w w'):w'.rangeAt b o cs:=fun j v hv=>(hw.cell (p:=⟨b,o+j,none⟩) hb).trans (h j v hv)
theorem Bt{B:Nat}{w w':World}{b o n:Nat}(h:w.there b o n)(hb:b<B)(hw:Below B w w'):w'.there b o n:=fun j hj=>by
 rw[hw.cell (p:=⟨b,o+j,none⟩) hb,hw.frozen (p:=⟨b,o+j,none⟩) hb];exact h j hj
theorem Bj{w w':World}{b o:Nat}{cs:List Value}{row:Option Nat}(h:w.rangeAt b o cs)(hg:w.grownBy w' row)(hne:some b≠row):w'.rangeAt b o cs:=fun j v hv=>hg.cell (h j v hv) hne
theorem Jo{w w':World}{b o n:Nat}{row:Option Nat}(h:w.there b o n)(hg:w.grownBy w' row)(hb:b<w.heap.size)(hne:some b≠row):w'.there b o n:=fun j hj=>by
 rw[hg.cell_far ⟨b,o+j,none⟩ hb hne,hg.frozen_far ⟨b,o+j,none⟩ hb hne];exact h j hj
theorem Mr{w:World}{b o n:Nat}(h:w.there b o n)(p m:Nat)(h1:o<=p)(h2:p+m<=o+n):w.there b p m:=fun j hj=>by
 have:=h (p+j - o) aE;rwa [show o+(p+j - o)=p+j by omega]at this
theorem Ch(w:World)(cs:List Value)(t:TypeId):(w.alloc (.cells cs.toArray t)).rangeAt w 0 cs:=fun j v hv=>by
 rw[World.cell?_alloc_new];simpa using hv
theorem D2(w:World)(cs:List Value)(t:TypeId):(w.alloc (.cells cs.toArray t)).there w 0 cs.length:=fun j hj=>by
 refine⟨?_,by simp⟩;rw[World.cell?_alloc_new];simp;omega
theorem Aw{B:Nat}{a:World}(b:Nat)(hb:B<=b):∀(vs:List Value) (o:Nat) (w:World),Below B a w->Below B a (w.setCells b o vs)
 |[],_,_,h=>h
 |v::r,o,w,h=>Aw b hb r (o+1) _ (h.setCell hb v)
theorem Cm(b:Nat):∀(vs:List Value) (o:Nat) (w:World),(w.setCells b o vs).heap.size=w.heap.size
 |[],_,_=>rfl
 |v::r,o,w=>by rw[World.setCells,Cm b r];simp
theorem Ab{w:World}{b o:Nat}{cs:List Value}(h:w.rangeAt b o cs)(j:Nat){v:Value}(hv:cs[j]?=some v):w.cell? ⟨b,o+j,none⟩=some v:=h j v hv
theorem Ye{w:World}{b o:Nat}(l1 l2 l3:List Value)(h:w.rangeAt b o (l1++(l2++l3))):w.rangeAt b (o+l1.length) l2:=fun j v hv=>by
 have hj:=(List.getElem?_eq_some_iff.1 hv).1;rw[Nat.add_assoc];exact h _ v (by rw[List.getElem?_append_right aE,Nat.add_sub_cancel_left,List.getElem?_append_left hj];exact hv)
theorem Db{w:World}{b:Nat}(l1 l2 l3 l2':List Value)(h:w.rangeAt b 0 (l1++(l2++l3)))(hl:l2'.length=l2.length):(w.setCells b l1.length l2').rangeAt b 0 (l1++(l2'++l3)):=fun j v hv=>by
 have hjl:j<l1.length+(l2'.length+l3.length):=by
  have:=(List.getElem?_eq_some_iff.1 hv).1;simpa using this
 have hsome:∀i,i<l2'.length->(w.cell? ⟨b,l1.length+i,none⟩).isSome=true:=fun i hi=>by
  have e:(l1++(l2++l3))[l1.length+i]?=some (l2[i]' aE):=by
   rw[List.getElem?_append_right aE,List.getElem?_append_left aE,Nat.add_sub_cancel_left,List.getElem?_eq_getElem aE]
  have:=h _ _ e;rw[aj]at this;rw[this];rfl
 rw[aj];rcases aD j l1.length with h1|h1
 ·rw[World.cell?_setCells_out b l2' l1.length w ⟨b,j,none⟩ (fun _ _=>.inl h1)];rw[List.getElem?_append_left h1]at hv;have:=h j v (by rw[List.getElem?_append_left h1];exact hv);rwa [aj]at this
 rw[List.getElem?_append_right h1]at hv;rcases aD (j - l1.length) l2'.length with h2|h2
 ·rw[List.getElem?_append_left h2,List.getElem?_eq_getElem h2]at hv;have:=World.cell?_setCells_in b l2' l1.length w hsome (j - l1.length) h2;rw[show l1.length+(j - l1.length)=j by omega]at this;rw[this];exact hv
 rw[World.cell?_setCells_out b l2' l1.length w ⟨b,j,none⟩ (fun _ _=>.inr (by show l1.length+l2'.length<=j;omega))];rw[List.getElem?_append_right h2]at hv;have:=h j v (by rw[List.getElem?_append_right h1,List.getElem?_append_right aE,<-hl];exact hv);rwa [aj]at this
section
variable {P:Program}
theorem Ac{ops:Array Oper}{rest:List Oper}{op:Oper}{a:Act}{w:World}{Q:Exit->Act->World->Prop}(hgd:op.guard=none)(ty:TypeId)(x y:Operand)(ho:op.op=.store ty x y)
  (b o:Nat) (cs:List Value) (hx:a.eval x=.pointer (some ⟨b,o,none⟩)) (hy:a.eval y=.agg cs.toArray)
  (ht:w.there b o cs.length) (hi:(P.info? ty).map (·.size)=some cs.length) (h1:∀v∈cs,v.oneCell'=true)
  (h:∀w',Hid (w'=w.setCells b o cs)->wpList P ops Q rest (a.put op.dst undef) w'):wpList P ops Q (op::rest) a w:=
 wpList_store_mid hgd ty x y ho b o cs.toArray hx hy d7 (by simpa using hi) (all_oneCell_toArray h1) (h _ rfl)
theorem Bc{fn:Func}{p q:Tmp}{ty:TypeId}(h:fn.results=#[.cell p ty,.tmp q])(tmps:Array Value)(w:World)(b:Nat)(cs:List Value)(d:TypeDesc)(x:Value)
  (hp:tmps.getD p undef=b) (hq:tmps.getD q undef=x) (hc:w.rangeAt b 0 cs) (hu:P.underlying ty=some d) (hd:d.isRow=true) (hi:(P.info? ty).map (·.size)=some cs.length):
  (results fn tmps).run P w=.ok (.tuple #[.agg cs.toArray,x]) w:=by
 have hp':tmps[p]?.getD undef=b:=by simpa using hp
 have hq':tmps[q]?.getD undef=x:=by simpa using hq
 simp[results,h,hp',hq',asAddr,run_loadVar_mid w b 0 ty cs d hc hu hd hi]
theorem Ft{fn:Func}{r p q:Tmp}{ty:TypeId}(h:fn.results=#[.tmp r,.cell p ty,.tmp q])(tmps:Array Value)(w:World)(b:Nat)(cs:List Value)(d:TypeDesc)(y x:Value)
  (hr:tmps.getD r undef=y) (hp:tmps.getD p undef=b) (hq:tmps.getD q undef=x) (hc:w.rangeAt b 0 cs) (hu:P.underlying ty=some d) (hd:d.isRow=true) (hi:(P.info? ty).map (·.size)=some cs.length):
  (results fn tmps).run P w=.ok (.tuple #[y,.agg cs.toArray,x]) w:=by
 have hp':tmps[p]?.getD undef=b:=by simpa using hp
 have hq':tmps[q]?.getD undef=x:=by simpa using hq
 have hr':tmps[r]?.getD undef=y:=eH;simp[results,h,hp',hq',hr',asAddr,run_loadVar_mid w b 0 ty cs d hc hu hd hi]
end
theorem V0(n:Nat)(w:World)(hn:n<10):
  Calls prog 88 #[.int .i64 n] w fun e w'=>e=.returned (.string ⟨(Az n).toArray⟩)/\Below w w w':=by
 have Hfin:=Aa (Eg hn);have hcv:=fun W=>Qft W w 1 (Gp (48+n));rw[Gf aE]at hcv;go_enter func88,ntmps88;go_wp2_with fail;exact il
theorem Qbd(n:Nat)(h10:¬n<10)(hn:n<=1000000000)(ih:∀W,Calls prog 88 #[.int .i64 ((n / 10:Nat):Int)] W fun e w'=>e=.returned (.string ⟨(Az (n / 10)).toArray⟩)/\Below W W w')(w:World):
  Calls prog 88 #[.int .i64 n] w fun e w'=>e=.returned (.string ⟨(Az n).toArray⟩)/\Below w w w':=by
 have Hfin:=Aa (M0 h10);have ih':=Aa ih;have hl:=Df 8 (n / 10) eT;clear ih;have hcv:=fun W g=>Qft W g 1 (Gp (48+n % 10));have h1:IntKind.u8.wrap (IntKind.i64.wrap (48+(n:Int).tmod 10))=((Gp (48+n % 10)).toNat:Int):=by
  rw[Gf aE,Int.tmod_eq_emod_of_nonneg aE,IntWalk.i64_in _ aE,IntWalk.u8_in _ aE];omega
 have h2:IntKind.i64.wrap ((n:Int) / 10)=((n / 10:Nat):Int):=by rw[IntWalk.i64_in _ aE];omega
 go_enter func88,ntmps88;go_wp2_with fail;go_region_with (go_at_call 88;refine(ih'.out _).mono ?_;rintro e w' ⟨rfl,hb⟩;obtain⟨hc,hf,hz⟩:=B4 hb)
 all_goals
  go_wp2
  go_ret;refine⟨by rw[Hfin.o];rfl,?_⟩;have hsz:=hb.size;repeat (first|exact Ay _ _|refine Below.drew ?_|refine Below.alloc ?_ (by simp at hsz ⊢;first|omega|done) _|refine Below.trans ?_ (hb.mono aI))
theorem H6:∀(k n:Nat) (w:World),n<=k->n<=1000000000 ->
  Calls prog 88 #[.int .i64 n] w fun e w'=>e=.returned (.string ⟨(Az n).toArray⟩)/\Below w w w':=by
 intro k;induction k with
 |zero=>intro n w hn h;exact V0 n w aE
 |succ k ih=>
  intro n w hn h;by_cases h10:n<10
  ·exact V0 n w h10
  exact Qbd n h10 h (fun W=>ih (n / 10) W aE aE) w
theorem Vn(s:List UInt8)(k:Nat)(hk:k<=6)(h:(s.take k).all Bg=true):Fu (s.take k)<=999999:=by
 exact ii
def Dy(s:List UInt8)(top:Nat):Bool:=match Cn s with|some m=>decide (m<=top)|none=>false
theorem Mm{s:List UInt8}{top:Nat}(h:Cn s=none):Dy s top=false:=by unfold Dy;rw[h]
theorem Mt{s:List UInt8}{top n:Nat}(h:Cn s=some n):Dy s top=decide (n<=top):=by unfold Dy;rw[h]
def Qdz(s:List UInt8)(top:Nat)(w:World)(e:Ending)(w':World):Prop:=
 ∃n:Nat,n<=999999/\e=.returned (.tuple #[.int .i64 n,.bool (Dy s top)])/\(∀m,Cn s=some m->m=n)/\Below w w w'
theorem Dn(s:List UInt8)(m:Nat)(w:World)(hs:s.length<=4000000)(hm:m<=999999):
  Calls prog 86 #[s,.int .i64 m] w (Qdz s m w):=by
 go_enter func86,ntmps86;go_wp2_with fail;go_loop [6,7] (fun x i=>∃k:Nat,i=.int .i64 k/\k<=s.length/\k<=6/\Hid ((s.take k).all Bg=true)/\Fu (s.take k)<=999999/\x=.int .i64 ((Fu (s.take k):Nat):Int)) (fun _ i=>s.length - (intOf i).toNat)
 case atStart=>exact⟨0,rfl,af _,by omega,by simp[Hid],by simp[Fu],by simp[Fu]⟩
 case round=>
  obtain⟨k,rfl,hk,hk6,hdig,hv,rfl⟩:=hrel;by_cases hlt:k<s.length
  ·have hc:=(s[k]).toNat_lt;have Hts:=Aa (Bx s k hlt);have Hmem:=Aa (ad hlt);by_cases hd:Bg s[k]=true
   ·have hd2:=Di.1 hd;obtain⟨d1,d2⟩:=hd2;by_cases h5:k<=5
    ·have hdig2:(s.take (k+1)).all Bg=true:=by
      rw[Hts.o,List.all_append,hdig.o];simp[hd]
     have hv2:=Vn s (k+1) aE hdig2;have Hdig2:=Aa hdig2;have Hv:=Aa (show Fu (s.take (k+1))=10*Fu (s.take k)+((s[k]).toNat - 48)by rw[Hts.o,Jx]);clear hd hdig2;go_wp2_with fail;go_round
     case rel=>exact⟨k+1,by go_num,by omega,by omega,Hdig2.o,hv2,Qjc (by rw[Hv.o];omega)⟩
     case measure=>simp[intOf];omega
    have h5':5<k:=aE;have hno:Cn s=none:=by
     unfold Cn;rw[if_neg];rintro⟨_,h,_⟩;omega
    have Hn:=Aa (Mm (top:=m) hno);have Hno:=Aa hno;clear hd hno h5;go_wp2_with fail;go_ret2;exact iy
   have hno:Cn s=none:=by
    unfold Cn;rw[if_neg];rintro⟨_,_,h,_⟩;exact hd (List.all_eq_true.1 h _ Hmem.o)
   have Hn:=Aa (Mm (top:=m) hno);have Hno:=Aa hno;have h2:(s[k]).toNat<48\/(48<=(s[k]).toNat/\57<(s[k]).toNat):=by
    rcases aD (s[k]).toNat 48 with h|h
    ·exact .inl h
    rcases aD 57 (s[k]).toNat with h'|h'
    ·exact .inr ⟨h,h'⟩
    exact absurd (Di.2 ⟨h,h'⟩) hd
   clear hd hno;rcases h2 with h2|⟨h2,h4⟩
   ·go_wp2_with fail;go_ret2;exact iy
   go_wp2_with fail;go_ret2;exact iy
  ·have e:s.take k=s:=ap aE;rw[e]at hv ⊢;have hcase:(Cn s=some (Fu s)/\s=Az (Fu s))\/(Cn s=none/\s≠Az (Fu s)):=by
    by_cases h:s=Az (Fu s)
    ·exact .inl ⟨Cb.2 ⟨hv,h⟩,h⟩
    refine .inr ⟨?_,h⟩;cases hd:Cn s with
    |none=>rfl
    |some n=>
     obtain⟨_,h2⟩:=Cb.1 hd;exact absurd (by rw[h2,Ps]) h
   clear hdig e;generalize Fu s=v at hv hcase;have hdl:=Df 5 v f6;rcases hcase with⟨h1,h2⟩|⟨h1,h2⟩
   ·have Hn:=Aa (Mt (top:=m) h1);have Hd:=Aa h1;have tq:(s == Az v)=true:=dU;clear h1 h2;by_cases hvm:v<=m
    ·go_wp2_with fail;refine(H6 v v _ (As _) aE).mono ?_;rintro e w1 ⟨rfl,hb⟩;have Hb:=Aa hb;clear hb;go_wp2_with fail;go_ret2;exact⟨v,hv,by rw[Hn.o];exact Qhn rfl (Cr (by simp[hvm])),(fun m h=>by rw[Hd.o]at h;injection h with h;exact h.symm),Hb.o⟩
    have hvm':m<v:=aE;go_wp2_with fail;refine(H6 v v _ (As _) aE).mono ?_;rintro e w1 ⟨rfl,hb⟩;have Hb:=Aa hb;clear hb;go_wp2_with fail;go_ret2;exact⟨v,hv,by rw[Hn.o];exact Qhn rfl (Cr aM),(fun m h=>by rw[Hd.o]at h;injection h with h;exact h.symm),Hb.o⟩
   have Hn:=Aa (Mm (top:=m) h1);have Hd:=Aa h1;have tq:(s == Az v)=false:=dU;clear h1 h2;go_wp2_with fail;refine(H6 v v _ (As _) aE).mono ?_;rintro e w1 ⟨rfl,hb⟩;have Hb:=Aa hb;clear hb;go_wp2_with fail;go_ret2;exact⟨v,hv,by rw[Hn.o];rfl,(fun m h=>by rw[Hd.o]at h;cases h),Hb.o⟩
def Fm(s:List UInt8):Bool:=decide (2<=s.length) && decide (s.head?=some 39) && decide (s.getLast?=some 39) && Dq (s.drop 1).dropLast
theorem Th(s:List UInt8)(w:World)(hs:s.length<=4000000):
  Calls prog 87 #[s] w fun e w'=>e=.returned (.bool (Fm s))/\w=w':=by
 have hf:Fm s=(decide (2<=s.length) && decide (s.head?=some 39) && decide (s.getLast?=some 39) && Dq (s.drop 1).dropLast):=rfl;rcases aD s.length 2 with h2|h2
 ·have e0:decide (2<=s.length)=false:=aM;have Hf:=Aa (show Fm s=false by rw[hf,e0];simp);have t0:decide ((s.length:Int)<2)=true:=aM;clear hf e0;go_enter func87,ntmps87;go_wp2_with fail;exact ib
 have t0:decide ((s.length:Int)<2)=false:=aM;rcases aD 14 s.length with h14|h14
 ·have Hf:=Aa (show Fm s=false by
   have:Dq (s.drop 1).dropLast=false:=by
    unfold Dq;have e1:decide ((s.drop 1).dropLast.length<=12)=false:=aM;rw[e1];rfl
   rw[hf,this];simp)
  have t1:decide (14<(s.length:Int))=true:=aM;clear hf;go_enter func87,ntmps87;go_wp2_with fail;exact ib
 obtain⟨c,u,d,rfl⟩:∃c u d,s=c::(u++[d]):=by
  cases s with
  |nil=>simp at h2
  |cons c t=>
   rcases Eu t with rfl|⟨u,d,rfl⟩
   ·simp at h2
   exact⟨c,u,d,rfl⟩
 have hl:(c::(u++[d])).getLast?=some d:=by
  exact ic
 have hu:((c::(u++[d])).drop 1).dropLast=u:=aI;have e2:decide (2<=(c::(u++[d])).length)=true:=aI;rw[hl,hu,e2]at hf;simp only[List.head?_cons,ai,Bool.true_and]at hf;have Hf:=Aa hf;have hc:=c.toNat_lt;have hd:=d.toNat_lt;have hgd:∀h,(c::(u++[d]))[u.length+1]'h=d:=by intro h;simp
 have hul:u.length<=12:=by simp at h14;omega
 have Hfit:=Aa (show Dq u=u.all Cg by simp[Dq,hul]);clear hf hl hu h2 hs h14 t0 e2;by_cases hc39:c=39
 ·have t1:((c.toNat:Int) != 39)=false:=by have:=Bs hc39;simpa using this
  have Hc:=Aa (show decide (c=39)=true by simpa using hc39);clear hc39;by_cases hd39:d=39
  ·have t2:((d.toNat:Int) != 39)=false:=by have:=Bs hd39;simpa using this
   have Hd:=Aa (show decide (d=39)=true by simpa using hd39);clear hd39;go_enter func87,ntmps87;go_wp2_with fail;go_loop [3] (fun i=>∃k:Nat,i=.int .i64 ((k:Int)+1)/\k<=u.length/\Hid ((u.take k).all Cg=true)) (fun i=>u.length+1 - (intOf i).toNat)
   case atStart=>exact⟨0,rfl,af _,by simp[Hid]⟩
   case round=>
    obtain⟨k,rfl,hk,hin⟩:=hrel;by_cases hlt:k<u.length
    ·have hg:∀h,(c::(u++[d]))[k+1]'h=u[k]:=by intro h;simp[List.getElem_append_left hlt]
     have Hts:=Aa (Bx u k hlt);have Hmem:=Aa (ad hlt);have hx:=(u[k]).toNat_lt;generalize u[k]=x at hg Hts Hmem hx;by_cases ht:Cg x=true
     ·have Hin:=Aa (show (u.take (k+1)).all Cg=true by rw[Hts.o,List.all_append,hin.o];simp[ht]);have h3:x=32\/(x.toNat≠32/\48<=x.toNat/\x.toNat<=57)\/(57<x.toNat/\97<=x.toNat/\x.toNat<=122):=by
       unfold Cg at ht;simp only[Bool.or_eq_true]at ht;rcases ht with(h|h)|h
       ·have:=Jf.1 h;exact .inr (.inr ⟨by omega,this⟩)
       ·have:=Di.1 h;exact .inr (.inl ⟨by omega,this⟩)
       exact .inl bg
      clear ht;rcases h3 with h3|⟨h3,h4,h5⟩|⟨h3,h4,h5⟩
      ·have t3:((x.toNat:Int) != 32)=false:=by have:=Bs h3;simpa using this
       clear h3;go_wp2_with fail;go_round
       case rel=>exact⟨k+1,by go_num,by omega,Hin.o⟩
       case measure=>simp[intOf];omega
      ·have t3:((x.toNat:Int) != 32)=true:=dP;go_wp2_with fail;go_round
       case rel=>exact⟨k+1,by go_num,by omega,Hin.o⟩
       case measure=>simp[intOf];omega
      have t3:((x.toNat:Int) != 32)=true:=dP;go_wp2_with fail;go_round
      case rel=>exact⟨k+1,by go_num,by omega,Hin.o⟩
      case measure=>simp[intOf];omega
     have Hno:=Aa (show u.all Cg=false by
      cases h:u.all Cg with
      |false=>rfl
      |true=>exact absurd (List.all_eq_true.1 h _ Hmem.o) ht)
     have h32:x≠32:=by rintro rfl;exact ht rfl
     have t3:((x.toNat:Int) != 32)=true:=by have:=Am h32;simpa using this
     have h3:x.toNat<48\/(57<x.toNat/\x.toNat<97)\/122<x.toNat:=by
      have a:¬Ao x=true:=fun h=>ht (by simp[Cg,h]);have b:¬Bg x=true:=fun h=>ht (by simp[Cg,h]);rw[Jf]at a;rw[Di]at b;omega
     clear ht h32;rcases h3 with h3|⟨h3,h4⟩|h3;all_goals
      go_wp2_with fail;go_ret;exact⟨Eh (Cr (by rw[Hf.o,Hc.o,Hd.o,Hfit.o,Hno.o];rfl)),rfl⟩
    ·have Hall:=Aa (show u.all Cg=true by
      have:=hin.o;rwa [ap aE]at this)
     have hk2:k=u.length:=aE;subst hk2;go_wp2_with fail;go_ret;exact⟨Eh (Cr (by rw[Hf.o,Hc.o,Hd.o,Hfit.o,Hall.o];rfl)),rfl⟩
  have t2:((d.toNat:Int) != 39)=true:=by have:=Am hd39;simpa using this
  have Hd:=Aa (show decide (d=39)=false by simpa using hd39);clear hd39;go_enter func87,ntmps87;go_wp2_with fail;go_ret;exact⟨Eh (Cr (by rw[Hf.o,Hd.o];simp)),rfl⟩
 have t1:((c.toNat:Int) != 39)=true:=by have:=Am hc39;simpa using this
 have Hc:=Aa (show decide (c=39)=false by simpa using hc39);clear hc39;go_enter func87,ntmps87;go_wp2_with fail;go_ret;exact⟨Eh (Cr (by rw[Hf.o,Hc.o];simp)),rfl⟩
section
variable {P:Program}
theorem Ja(w:World)(base:Nat)(t ty e:TypeId)(i:TypeInfo)(z:Value)(size bytes:Nat)(ht:P.underlying t=some (.slice e))(hi:P.info? e=some i)(hz:i.zero=some z)
  (hsize:i.size=size) (hby:i.bytes=bytes) (hzs:z.cells.size=size) (hsz:0<size)
  (v:Value) (n:Nat) (xs:List Value) (hown:w.ownsRow base e size v n xs)
  (a:Addr) (m c:Nat) (news:List Value) (hl:news.length=m*size) (hnews:∀j u,news[j]?=some u->w.cell? (a.add j)=some u) (h1:∀u∈news,u.oneCell'=true)
  (hm:0<m) (h63:n+m<=maxLen) (hbytes:(n+m)*bytes<=140737488355328) (hbase:base<=w.heap.size):
  ∃v' w',(Builtin.append_ #[t,t] ty #[v,.slice (some a) m c]).run P w=.ok v' w'/\w'.ownsRow base e size v' (n+m) (xs++news)/\w.grownBy w' v.ownBlock /\
   (v'.ownBlock=v.ownBlock\/∃k,v'.ownBlock=some k/\w.heap.size<=k):=by
 obtain⟨v',w',hr,h2,h3,_⟩:=run_append_own (P:=P) w base t ty e i z size bytes ht hi hz hsize hby hzs hsz v n xs hown a m c news hl hnews h1 h63 hbytes hbase;refine⟨v',w',hr,h2,h3,?_⟩;subst hsize;subst hby;have h63':n+m<=9223372036854775807:=by simp only[maxLen]at h63;omega
 rcases hown.2 with⟨rfl,rfl⟩|⟨g,cap,cur,rfl,hbg,hg,hnc,hcm,hcs,htake⟩
 ·have hq:=run_append_nil (P:=P) w t ty e i z ht hi hz a m c news hl hnews hm aE (by have hb:=hbytes;simp only[aj]at hb;omega);exact iK
 by_cases hroom:n+m<=cap
 ·have hfit:n*i.size+news.length<=cur.size:=by rw[hl,hcs,<-Nat.add_mul];exact Nat.mul_le_mul_right _ hroom
  have hq:=run_append_room (P:=P) w t ty e i ht hi g n cap cur hg a m c news hl hnews h1 hroom hfit;rw[hq]at hr;injection hr with e1 _;subst e1;exact .inl rfl
 have holds:∀j u,xs[j]?=some u->w.cell? ((⟨g,0,none⟩:Addr).add j)=some u:=hown.cells (g:=g) rfl;have hq:=run_append_grow (P:=P) w t ty e i z ht hi hz ⟨g,0,none⟩ n cap xs hown.1 holds a m c news hl hnews aE aE (growslice_fits aE hbytes);exact iK
theorem Dg(w:World){ops:Array Oper}{rest:List Oper}{o:Oper}{a:Act}{Q:Exit->Act->World->Prop}(hgd:o.guard=none)(s x:Operand)(t:TypeId)
  (ho:o.op=.call {callee:=.builtin .append,args:=#[s,x],argTypes:=#[t,t]})
  (base:Nat) (e:TypeId) (z:Value) (bytes:Nat) (ht:P.underlying t=some (.slice e)) (hinfo:(P.info? e).map (fun i=>(i.zero,i.size,i.bytes))=some (some z,1,bytes))
  (hzs:z.cells.size=1) (W:World) (u:Value) (hw:w=W.alloc (.cells #[u] e)) (hu:u.oneCell'=true) (v:Value) (n:Nat) (xs:List Value) (hs:a.eval s=v) (hx:a.eval x=.slice (W,0) 1 1)
  (hown:W.ownsRow base e 1 v n xs)
  (h63:n+1<=maxLen) (hbytes:(n+1)*bytes<=140737488355328) (hbase:base<=W.heap.size)
  (h:∀v' w',w'.ownsRow base e 1 v' (n+1) (xs++[u])->W.grownBy w' v.ownBlock->(v'.ownBlock=v.ownBlock\/∃k,v'.ownBlock=some k/\W.heap.size<=k)->wpList P ops Q rest (a.put o.dst v') w'):wpList P ops Q (o::rest) a w:=by
 subst hw;obtain⟨i0,hi,hz0,hz1,hz2⟩:=info_parts hinfo
 obtain⟨v',w',hrun,r1,r2,r3⟩:=Ja (P:=P) (W.alloc (.cells #[u] e)) base t o.type e i0 z 1 bytes ht hi hz0 hz1 hz2 hzs aH v n xs (hown.alloc _) ⟨W.heap.size,0,none⟩ 1 1 [u] rfl (by
  intro j y hj;match j,hj with
  |0,hj=>simp at hj;subst hj;simp[Addr.add,World.cell?_alloc_new]) (by intro y hy;simp at hy;subst hy;exact hu) aH h63 hbytes aM
 refine wpList_plain hgd fun K' hK'=>?_;unfold Oper.wp;simp[execOp,ho,resolve,invoke,builtin,hs,hx,hrun,Result.andThen];refine hK' _ _ (h v' w' r1 ?_ ?_)
 ·exact gE
 rcases r3 with r3|⟨k,r3,r4⟩
 ·exact .inl r3
 exact .inr ⟨k,r3,by simp at r4;omega⟩
end
end
section
variable {P:Program}
theorem Mz(W:World){o:Oper}{a:Act}{K:Act->World->Prop}{Q:Exit->Act->World->Prop}(s x:Operand)(t:TypeId)
  (ho:o.op=.call {callee:=.builtin .append,args:=#[s,x],argTypes:=#[t,t]})
  (base:Nat) (e:TypeId) (z:Value) (k bytes:Nat) (ht:P.underlying t=some (.slice e)) (hinfo:(P.info? e).map (fun i=>(i.zero,i.size,i.bytes))=some (some z,k,bytes))
  (hzs:z.cells.size=k) (hk:0<k) (us:List Value) (hul:us.length=k) (hu:∀u∈us,u.oneCell'=true) (v:Value) (n:Nat) (xs:List Value) (hs:a.eval s=v) (hx:a.eval x=.slice (W,0) 1 1)
  (hown:W.ownsRow base e k v n xs) (h63:n+1<=maxLen) (hbytes:(n+1)*bytes<=140737488355328) (hbase:base<=W.heap.size)
  (h:∀v' w',w'.ownsRow base e k v' (n+1) (xs++us)->W.grownBy w' v.ownBlock->(v'.ownBlock=v.ownBlock\/∃k,v'.ownBlock=some k/\W.heap.size<=k)->K (a.put o.dst v') w'):Oper.wp P o a (W.alloc (.cells us.toArray e)) K Q:=by
 obtain⟨i0,hi,hz0,hz1,hz2⟩:=info_parts hinfo
 obtain⟨v',w',hrun,r1,r2,r3⟩:=Ja (P:=P) (W.alloc (.cells us.toArray e)) base t o.type e i0 z k bytes ht hi hz0 hz1 hz2 hzs hk v n xs (hown.alloc _) ⟨W.heap.size,0,none⟩ 1 1 us aE (by
  intro j y hj;have e1:(⟨W.heap.size,0,none⟩:Addr).add j=⟨W.heap.size,j,none⟩:=bj;rw[e1,World.cell?_alloc_new];simpa using hj) hu aH h63 hbytes aM
 unfold Oper.wp;simp[execOp,ho,resolve,invoke,builtin,hs,hx,hrun,Result.andThen];refine h v' w' r1 ?_ ?_
 ·exact gE
 rcases r3 with r3|⟨k,r3,r4⟩
 ·exact .inl r3
 exact .inr ⟨k,r3,by simp at r4;omega⟩
theorem Yk(W:World){ops:Array Oper}{rest:List Oper}{o:Oper}{a:Act}{Q:Exit->Act->World->Prop}(hgd:o.guard=none)(s x:Operand)(t:TypeId)
  (ho:o.op=.call {callee:=.builtin .append,args:=#[s,x],argTypes:=#[t,t]})
  (base:Nat) (e:TypeId) (z:Value) (k bytes:Nat) (ht:P.underlying t=some (.slice e)) (hinfo:(P.info? e).map (fun i=>(i.zero,i.size,i.bytes))=some (some z,k,bytes))
  (hzs:z.cells.size=k) (hk:0<k) (us:List Value) (hul:us.length=k) (hu:∀u∈us,u.oneCell'=true) (v:Value) (n:Nat) (xs:List Value) (hs:a.eval s=v) (hx:a.eval x=.slice (W,0) 1 1)
  (hown:W.ownsRow base e k v n xs) (h63:n+1<=maxLen) (hbytes:(n+1)*bytes<=140737488355328) (hbase:base<=W.heap.size)
  (h:∀v' w',w'.ownsRow base e k v' (n+1) (xs++us)->W.grownBy w' v.ownBlock->(v'.ownBlock=v.ownBlock\/∃k,v'.ownBlock=some k/\W.heap.size<=k)->wpList P ops Q rest (a.put o.dst v') w'):wpList P ops Q (o::rest) a (W.alloc (.cells us.toArray e)):=
 wpList_plain hgd fun K' hK'=>Mz W s x t ho base e z k bytes ht hinfo hzs hk us hul hu v n xs hs hx hown h63 hbytes hbase fun v' w' h1 h2 h3=>hK' _ _ (h v' w' h1 h2 h3)
end
end Go.Proofs.YtkigmebejmmikaaGreatDoor
