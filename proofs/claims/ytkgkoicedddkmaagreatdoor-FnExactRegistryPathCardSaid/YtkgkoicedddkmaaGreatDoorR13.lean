/- Texts joined. Conditions: as each theorem names them. -/
import Derived.BigQuiet
import Derived.Sort.Walk0
import Derived.Test.YtkgkoicedddkmaaGreatDoorR10
import Derived.Test.YtkgkoicedddkmaaGreatDoorR11
import Derived.Test.YtkgkoicedddkmaaGreatDoorR12
set_option maxRecDepth 100000
set_option maxHeartbeats 32000000
set_option linter.unusedVariables false
set_option linter.unusedSimpArgs false
namespace Go.Proofs.YtkgkoicedddkmaaGreatDoor
open Go.RowKit Go.Proofs.Tryz
theorem Xb(s:List UInt8)(w:World)(hs:s.length<=1000):
  Calls prog 88 #[s] w (Cr (Cb s) w):=by
 rcases Ev 61 s with⟨hn,_⟩|⟨p,u,h,hp,_⟩
 ·exact Qcg s w hs hn
 cases p with
 |nil=>exact Qbj s u w hs h
 |cons c nm=>
  rcases Bool.eq_false_or_eq_true (Aw nm)with hnm|hnm
  ·by_cases hso:Dr c
   ·by_cases hu:u=[]
    ·rcases hso with rfl|rfl|rfl
     ·exact Zn s nm u w hs h hp hnm hu
     ·exact Yv s nm u w hs h hp hnm hu
     exact Yz s nm u w hs h hp hnm hu
    rcases hso with rfl|rfl|rfl
    ·exact Zl s nm u w hs h hp hnm hu
    ·exact Zb s nm u w hs h hp hnm hu
    exact Zi s nm u w hs h hp hnm hu
   exact Qch s c nm u w hs h hp hnm hso
  exact Qbr s c nm u w hs h hp hnm
section
attribute [local go_sem] Qiz Qii Qib Qgw ByteArray.mk_append_mk
def Sk(k:Kd):Bool:=decide (k.base=[64])
def Sv(k:Kd):List UInt8:=if k.base=[64]then k.name else[]
theorem P5(k:Kd)(hk:Cw k)(w:World):
  Calls prog 63 #[.string ⟨(Bs k).toArray⟩] w fun e w'=>e=.returned (.tuple #[.string ⟨(Sv k).toArray⟩,.bool (Sk k)])/\w=w':=by
 obtain⟨_,hb,hl⟩:=hk;unfold Bs Sv Sk;by_cases h:k.base=[64]
 ·rw[if_pos h,if_pos h,aD h];refine Ya k.name w ?_;rcases hb with⟨_,hn⟩|⟨h2,_⟩
  ·have:=(Dk.1 hn).2.1;omega
  rcases h2 with h2|h2|h2<;>· rw[h]at h2;exact absurd h2 aK
 rw[if_neg h,if_neg h,aC h];rcases hb with⟨h2,_⟩|⟨h2,_⟩
 ·exact absurd h2 h
 rcases h2 with h2|h2|h2<;>· rw[h2];exact Qa0 _ [] w aK aL
theorem Md(k:Kd)(hk:Cw k)(w:World):
  Calls prog 64 #[.string ⟨(Bj k).toArray⟩] w fun e w'=>e=.returned (.string ⟨(Bs k).toArray⟩)/\w=w':=
 Qcc k w hk.1 (Xy hk.2.1) dr
theorem Ko(xs:List (Ty × Value))(k:Kd):Bx (Af xs) k↔(Sk k=true->(Dq xs (Sv k)).isSome=true):=by
 unfold Bx Sk Sv;by_cases h:k.base=[64]
 ·rw[if_pos h,G6];simp[h]
 rw[if_neg h];simp[h]
def Rw(S:List Ty):Prop:=(S.Pairwise fun t u=>t.name≠u.name)/\Fw S/\∀t∈S,Bv S (S.length+1) t=true
def Qcj(xs:List (Ty × Value))(k:Nat):Prop:=
 (((xs.take k).map (·.1)).Pairwise fun t u=>t.name≠u.name)/\∀x∈xs.take k,x.1.sort≠69->∀f∈x.1.fields,Bx (Af xs) f.kind
theorem Qds(xs:List (Ty × Value)):Qcj xs 0:=⟨by simp,by simp⟩
theorem Qec{xs:List (Ty × Value)}{k:Nat}(hk:k<xs.length)(h:Qcj xs k)(h1:∀x∈xs.take k,x.1.name≠xs[k].1.name)(h2:xs[k].1.sort≠69->∀f∈xs[k].1.fields,Bx (Af xs) f.kind):Qcj xs (k+1):=by
 unfold Qcj;rw[Ch xs k hk];refine⟨?_,?_⟩
 ·rw[az,List.pairwise_append];refine⟨h.1,by simp,?_⟩;intro a ha b hb;obtain⟨x,hx,rfl⟩:=ax.1 ha;simp at hb;subst hb;exact h1 x hx
 intro x hx;rcases af.1 hx with hx|hx
 ·exact h.2 x hx
 simp at hx;subst hx;exact h2
theorem Qfb{xs:List (Ty × Value)}(h:Qcj xs xs.length):((Af xs).Pairwise fun t u=>t.name≠u.name)/\Fw (Af xs):=by
 unfold Qcj at h;rw[List.take_length]at h;refine⟨h.1,?_⟩;intro t ht hs f hf;obtain⟨x,hx,rfl⟩:=ax.1 ht;exact h.2 x hx hs f hf
theorem Qez{xs:List (Ty × Value)}{j k:Nat}(hjk:j<k)(hk:k<xs.length)(h:xs[j].1.name=xs[k].1.name):¬Rw (Af xs):=by
 rintro⟨hp,_⟩;have:=List.pairwise_iff_getElem.1 hp j k (by unfold Af;simp;omega) (by unfold Af;simp;omega) hjk;unfold Af at this;simp at this;exact this h
theorem Qfj{xs:List (Ty × Value)}{k j:Nat}(hk:k<xs.length)(hs:xs[k].1.sort≠69)(hj:j<xs[k].1.fields.length)(h:¬Bx (Af xs) xs[k].1.fields[j].kind):¬Rw (Af xs):=by
 rintro⟨_,hp,_⟩;exact h (hp xs[k].1 (ax.2 ⟨xs[k],ae hk,rfl⟩) hs _ (ae hj))
theorem Qfz{xs:List (Ty × Value)}{k:Nat}(hk:k<xs.length)(h:Bv (Af xs) (xs.length+1) xs[k].1=false):¬Rw (Af xs):=by
 rintro⟨_,_,hp⟩;have:=hp xs[k].1 (ax.2 ⟨xs[k],ae hk,rfl⟩);rw[show (Af xs).length=xs.length by unfold Af;simp,h]at this;cases this
theorem Qb9(v:Value)(xs:List (Ty × Value))(w:World)(h:Jq w v xs)(hok:∀x∈xs,Ep x.1):
  Calls prog 89 #[v] w fun e w'=>(∃b,e=.returned (.bool b)/\(b=true↔Rw (Af xs)))/\Below w w w':=by
 have H:=Aa h;have Hok:=Aa hok;obtain⟨A,c,rfl,hxl,hrow,hfds⟩:=h;have Hrow:=Aa hrow;have Hfds:=Aa hfds;clear hok hrow hfds;go_enter func89,ntmps89;go_wp2_with fail;go_loopw [3] (fun i wr=>∃k:Nat,i=.int .i64 k/\k<=xs.length/\Hid (Qcj xs k)/\Hid (Below w w wr)) (fun i _=>xs.length - (intOf i).toNat)
 case atStart=>exact⟨0,rfl,ag _,Qds xs,Aq _ _⟩
 case round=>
  obtain⟨k,rfl,hk,hto,hbr⟩:=hrel;by_cases hlt:k<xs.length
  ·have k1:(0:Int)<=(k:Int):=aH;have k2:(k:Int)<(xs.length:Int):=aH;go_wp2_with fail;go_loopw [4] (fun i wq=>∃j:Nat,i=.int .i64 j/\j<=k/\(∃q,wq=wr.drewN q)/\Hid (∀x∈xs.take j,x.1.name≠xs[k].1.name)) (fun i _=>k - (intOf i).toNat)
   case atStart=>exact⟨0,rfl,ag _,⟨0,rfl⟩,by intro x hx;simp at hx⟩
   case round=>
    obtain⟨j,rfl,hj,⟨q,rfl⟩,hin⟩:=hrel;obtain⟨b,off,rfl,hbl,c0,c1,c2⟩:=Jq.at_ (Hrow.o.below hbr.o) hlt;by_cases hjl:j<k
    ·obtain⟨b',off',e',hbl',d0,d1,d2⟩:=Jq.at_ (Hrow.o.below hbr.o) (show j<xs.length by omega);simp only[aj,Addr.mk.injEq]at e';obtain⟨rfl,rfl,_⟩:=e';have Hnn:=Aa (fun h=>Qez (xs:=xs) hjl hlt h);have Hts:=Aa (Ch xs j (show j<xs.length by omega));have j1:(0:Int)<=(j:Int):=aH;have j2:(j:Int)<(xs.length:Int):=aH;have j3:(j:Int)<(k:Int):=aH;by_cases he:xs[j].1.name=xs[k].1.name
     ·have t1:(xs[j].1.name == xs[k].1.name)=true:=d9;have Hno:=Aa (Hnn.o he);clear he;go_wp2_with fail;go_quiet (fail)
      go_wp2_with fail;go_ret;exact⟨⟨false,rfl,by simp[Hno.o]⟩,below_drewN (below_drewN hbr.o q) _⟩
     have t1:(xs[j].1.name == xs[k].1.name)=false:=d9
     have Hin:=Aa (show ∀x∈xs.take (j+1),x.1.name≠xs[k].1.name by
      intro x hx;rw[Hts.o]at hx;rcases af.1 hx with hx|hx
      ·exact hin.o x hx
      simp at hx;subst hx;exact he)
     clear he;go_wp2_with fail;go_quiet (fail)
     go_wp2
     go_roundw
     case rel=>exact⟨j+1,by go_num,by omega,⟨_,rfl⟩,Hin.o⟩
     case measure=>simp[intOf];omega
    ·obtain rfl:j=k:=aH;have j3:¬(j:Int)<(j:Int):=aH;have Hbk:=Aa (below_drewN hbr.o q);have Hnk:=Aa hin.o;have Hxk:=Aa (Hfds.o _ (ae hlt));have Hokk:=Aa (Hok.o _ (ae hlt));have Hnok:=Aa (fun(jj:Nat) (hs:xs[j].1.sort≠69) (hjj:jj<xs[j].1.fields.length) h=>Qfj hlt hs hjj h);have Hsuc:=Aa (fun h2=>Qec hlt hto.o Hnk.o h2);clear hin hbl c0 c1 c2 hto;go_wp2_with fail;go_loopw [5] (fun i wq=>∃m:Nat,i=.int .i64 m/\m<=(xs[j]).1.fields.length/\Hid (Below w w wq)/\Hid (∀f∈(xs[j]).1.fields.take m,Bx (Af xs) f.kind)) (fun i _=>(xs[j]).1.fields.length - (intOf i).toNat)
     case atStart=>exact⟨0,rfl,ag _,Hbk.o,by intro x hx;simp at hx⟩
     case round=>
      obtain⟨m,rfl,hm,hbq,hin⟩:=hrel;obtain⟨b',off',e',hbl',d0,d1,d2⟩:=Jq.at_ (Hrow.o.below hbq.o) hlt;simp only[aj,Addr.mk.injEq]at e';obtain⟨rfl,rfl,_⟩:=e';generalize xs[j]=x at d0 d1 d2 Hxk Hokk Hnok Hsuc hin hm ⊢;obtain⟨t,fv⟩:=x;simp only[]at d0 d1 d2 hm;obtain⟨A2,c2,e2,hfl,hr2⟩:=Hxk.o;simp only[]at e2;subst e2;have Hr2:=Aa hr2;clear hr2;have hsl:=t.sort.toNat_lt;have hfl':t.fields.length<=1000:=hfl;by_cases hml:m<t.fields.length
      ·have m1:(0:Int)<=(m:Int):=aH;have m2:(m:Int)<(t.fields.length:Int):=aH;by_cases hs:t.sort=69
       ·have t1:((t.sort.toNat:Int) != 69)=false:=by have:=Be hs;simpa using this
        have t2:((t.sort.toNat:Int) == 69)=true:=Be hs;have Hto:=Aa (Hsuc.o (fun h=>absurd hs h));clear hs;go_wp2_with fail;go_roundw
        case rel=>exact⟨j+1,by go_num,by omega,Hto.o,hbq.o⟩
        case measure=>simp[intOf];omega
       have t1:((t.sort.toNat:Int) != 69)=true:=by have:=Am hs;simpa using this
       have t2:((t.sort.toNat:Int) == 69)=false:=Am hs;obtain⟨bf,of,rfl,hbf,g0,g1,g2,g3⟩:=Er.at_ (Hr2.o.below hbq.o) hml;have hfm:=ae hml;have Hkd:=Aa ((Hokk.o.2.2.1.1 _ hfm).2.2.2.2 hs).1;have Hno:=Aa (fun h=>Hnok.o m hs hml h);have Hts:=Aa (Ch t.fields m hml);generalize t.fields[m]=f at g0 g1 g2 g3 Hkd Hno Hts;clear hs hfm;have Hrf:=Aa (Ko xs f.kind);have Hfind:=Aa (fun W (hW:Below w w W)=>Rs (.slice (some ⟨b,off,none⟩) xs.length c) xs (Sv f.kind) W (H.o.below hW));go_wp2_with fail;refine(Md f.kind Hkd.o _).mono ?_;rintro e w4 ⟨rfl,rfl⟩;go_wp2_with fail;refine(P5 f.kind Hkd.o _).mono ?_;rintro e w4 ⟨rfl,rfl⟩;go_wp2_with fail;refine(Hfind.o _ hbq.o).mono ?_;rintro e w4 ⟨rfl,hb4⟩;have Hb4:=Aa (hbq.o.trans (hb4.mono hbq.o.size));clear hb4;cases hx:Dq xs (Sv f.kind)with
       |none=>
        unfold Rn Nq;rcases hir:Sk f.kind with _|_
        ·have hrk:Bx (Af xs) f.kind:=Hrf.o.2 (fun h=>by rw[hir]at h;cases h)
         have Hin:=Aa (show ∀f∈t.fields.take (m+1),Bx (Af xs) f.kind by
          intro g hg;rw[Hts.o]at hg;rcases af.1 hg with hg|hg
          ·exact hin.o g hg
          simp at hg;subst hg;exact hrk)
         clear hrk;go_wp2_with fail;go_roundw
         case rel=>exact⟨m+1,by go_num,by omega,aX,Hin.o⟩
         case measure=>simp[intOf];omega
        have Hn:=Aa (Hno.o (fun h=>by have:=Hrf.o.1 h hir;rw[hx]at this;cases this));go_wp2_with fail;go_ret;exact⟨⟨false,rfl,by simp[Hn.o]⟩,aX⟩
       |some y=>
        have hrk:Bx (Af xs) f.kind:=Hrf.o.2 (fun _=>by rw[hx];rfl);obtain⟨ty,yv⟩:=y;obtain⟨A5,c5,e5,_⟩:=Hfds.o _ (Dj hx).1;simp only[]at e5;subst e5;unfold Rn Kx;rcases hir:Sk f.kind with _|_
        ·skip
         have Hin:=Aa (show ∀f∈t.fields.take (m+1),Bx (Af xs) f.kind by
          intro g hg;rw[Hts.o]at hg;rcases af.1 hg with hg|hg
          ·exact hin.o g hg
          simp at hg;subst hg;exact hrk)
         clear hrk;go_wp2_with fail;go_roundw
         case rel=>exact⟨m+1,by go_num,by omega,aX,Hin.o⟩
         case measure=>simp[intOf];omega
        skip
        have Hin:=Aa (show ∀f∈t.fields.take (m+1),Bx (Af xs) f.kind by
         intro g hg;rw[Hts.o]at hg;rcases af.1 hg with hg|hg
         ·exact hin.o g hg
         simp at hg;subst hg;exact hrk)
        clear hrk;go_wp2_with fail;go_roundw
        case rel=>exact⟨m+1,by go_num,by omega,aX,Hin.o⟩
        case measure=>simp[intOf];omega
      ·obtain rfl:m=t.fields.length:=aH;have m2:¬(t.fields.length:Int)<(t.fields.length:Int):=aH;have Hto:=Aa (Hsuc.o (fun _ f hf=>hin.o f (by rw[List.take_length];exact hf)));go_wp2_with fail;go_roundw
       case rel=>exact⟨j+1,by go_num,by omega,Hto.o,hbq.o⟩
       case measure=>simp[intOf];omega
  ·obtain rfl:k=xs.length:=aH;have k2:¬(xs.length:Int)<(xs.length:Int):=aH;have Hall:=Aa (Qfb hto.o);clear hto;go_wp2_with fail;go_loopw [10] (fun i wq=>∃j:Nat,i=.int .i64 j/\j<=xs.length/\Hid (Below w w wq)/\Hid (∀x∈xs.take j,Bv (Af xs) (xs.length+1) x.1=true)) (fun i _=>xs.length - (intOf i).toNat)
   case atStart=>exact⟨0,rfl,ag _,hbr.o,by intro x hx;simp at hx⟩
   case round=>
    obtain⟨j,rfl,hj,hbq,hin⟩:=hrel;by_cases hjl:j<xs.length
    ·obtain⟨b,off,rfl,hbl,d0,d1,d2⟩:=Jq.at_ (Hrow.o.below hbq.o) hjl;have Hts:=Aa (Ch xs j hjl);have Hno:=Aa (fun h=>Qfz (xs:=xs) hjl h);have Hokj:=Aa (Hok.o _ (ae hjl));have hxj:=(Hfds.o _ (ae hjl)).below hbq.o;generalize xs[j]=x at d0 d1 d2 Hts Hno Hokj hxj;obtain⟨t,fv⟩:=x;simp only[]at d0 d1 d2 hxj;have Hxj:=Aa hxj;obtain⟨A2,c2,rfl,_⟩:=hxj;have j1:(0:Int)<=(j:Int):=aH;have j2:(j:Int)<(xs.length:Int):=aH;have He:=Aa (fun W (hW:Below w w W) (hX:Er W (.slice A2 t.fields.length c2) t.fields)=>Qeo (.slice (some ⟨b,off,none⟩) xs.length c) (.slice A2 t.fields.length c2) xs t W (H.o.below hW) Hokj.o hX Hok.o);go_wp2_with fail;refine(He.o _ hbq.o Hxj.o).mono ?_;rintro e w4 ⟨rfl,hb4⟩;have Hb4:=Aa (hbq.o.trans (hb4.mono hbq.o.size));clear hb4;rcases Bool.eq_false_or_eq_true (Bv (Af xs) (xs.length+1) t)with he|he
     ·have Hin:=Aa (show ∀x∈xs.take (j+1),Bv (Af xs) (xs.length+1) x.1=true by
       intro x hx;rw[Hts.o]at hx;rcases af.1 hx with hx|hx
       ·exact hin.o x hx
       simp at hx;subst hx;exact he)
      rw[he];clear he;go_wp2_with fail;go_roundw
      case rel=>exact⟨j+1,by go_num,by omega,Hb4.o,Hin.o⟩
      case measure=>simp[intOf];omega
     have Hn:=Aa (Hno.o he);rw[he];clear he;go_wp2_with fail;go_ret;exact⟨⟨false,rfl,by simp[Hn.o]⟩,Hb4.o⟩
    ·obtain rfl:j=xs.length:=aH
     have Hfin:=Aa (show Rw (Af xs)from⟨Hall.o.1,Hall.o.2,fun t ht=>by
      obtain⟨x,hx,rfl⟩:=ax.1 ht;rw[show (Af xs).length=xs.length by unfold Af;simp];exact hin.o x (by rw[List.take_length];exact hx)⟩)
     clear hin;go_wp2_with fail;go_ret;exact⟨⟨true,rfl,by simp[Hfin.o]⟩,hbq.o⟩
theorem Qe4{w:World}{b1 b2 k1 k2 n1 n2:Nat}{e1 e2:TypeId}{v1 v2:Value}{xs ys:List Value}(h1:w.ownsRow b1 e1 k1 v1 n1 xs)(h2:w.ownsRow b2 e2 k2 v2 n2 ys)(hne:e1≠e2):v1.ownBlock=none\/v1.ownBlock≠v2.ownBlock:=by
 rcases h1.2 with⟨rfl,_⟩|⟨g,cap,cur,rfl,_,hh,_⟩
 ·exact .inl rfl
 rcases h2.2 with⟨rfl,_⟩|⟨g',cap',cur',rfl,_,hh',_⟩
 ·exact .inr fV
 refine .inr ?_;simp only[Value.ownBlock,ne_eq,aj];rintro rfl;rw[hh]at hh';simp only[aj,Obj.cells.injEq]at hh';exact hne hh'.2.1
section
variable {P:Program}
theorem Qat(w:World){ops:Array Oper}{rest:List Oper}{o:Oper}{a:Act}{Q:Exit->Act->World->Prop}(hgd:o.guard=none)(s x:Operand)(t:TypeId)
  (ho:o.op=.call {callee:=.builtin .append,args:=#[s,x],argTypes:=#[t,t]})
  (base:Nat) (e:TypeId) (z:Value) (k bytes:Nat) (ht:P.underlying t=some (.slice e)) (hinfo:(P.info? e).map (fun i=>(i.zero,i.size,i.bytes))=some (some z,k,bytes))
  (hzs:z.cells.size=k) (hk:0<k) (W:World) (us:List Value) (hul:us.length=k) (hw:w=W.alloc (.cells us.toArray e)) (hu:∀u∈us,u.oneCell'=true) (v:Value) (n:Nat) (xs:List Value) (hs:a.eval s=v) (hx:a.eval x=.slice (W,0) 1 1)
  (hown:W.ownsRow base e k v n xs)
  (h63:n+1<=maxLen) (hbytes:(n+1)*bytes<=140737488355328) (hbase:base<=W.heap.size)
  (h:∀v' w',w'.ownsRow base e k v' (n+1) (xs++us)->Below base W w'->(W.alloc (.cells us.toArray e)).grownBy w' v.ownBlock->wpList P ops Q rest (a.put o.dst v') w'):wpList P ops Q (o::rest) a w:=by
 subst hw;obtain⟨i0,hi,hz0,hz1,hz2⟩:=info_parts hinfo;refine wpList_append_own _ hgd s x t ho base e i0 z k bytes ht hi hz0 hz1 hz2 hzs hk v n xs hs (hown.alloc _) ⟨W.heap.size,0,none⟩ 1 1 us hx aH ?_ hu h63 hbytes ?_ ?_
 ·exact je
 ·exact jT
 intro v' w' h1 h2 _;exact h v' w' h1 (((Aq base W).alloc hbase _).grown h2 aM (fun k hk=>(hown.lt k hk).1)) h2
end
def Ks(w:World)(base:Nat)(xs:List (Ty × Value)):Prop:=∀x∈xs,w.ownsRow base 104 4 x.2 x.1.fields.length (x.1.fields.flatMap sfc)/\Ep x.1
theorem Ks.below{w w':World}{base:Nat}{xs:List (Ty × Value)}(h:Ks w base xs)(hb:Below w w w'):Ks w' base xs:=fun x hx=>⟨Cm (h x hx).1 hb,(h x hx).2⟩
theorem Ks.grown{w w':World}{base b2 k n:Nat}{xs:List (Ty × Value)}{v:Value}{ys:List Value}{e:TypeId}(h:Ks w base xs)(hv:w.ownsRow b2 e k v n ys)(hne:104≠e)(hg:w.grownBy w' v.ownBlock):Ks w' base xs:=
 fun x hx=>⟨(h x hx).1.kept hg (Qe4 (h x hx).1 hv hne),(h x hx).2⟩
theorem Ks.fds{w:World}{base:Nat}{xs:List (Ty × Value)}(h:Ks w base xs):∀x∈xs,Er w x.2 x.1.fields:=fun x hx=>by
 obtain⟨h1,h2⟩:=h x hx;have hl:=h2.2.2.2.1;obtain⟨A,c,e,hr⟩:=B9.ownK h1 aZ;exact⟨A,c,e,by omega,hr⟩
theorem Jq.own{w:World}{base:Nat}{v:Value}{xs:List (Ty × Value)}(h:w.ownsRow base 100 3 v xs.length (xs.flatMap stc))(hl:xs.length<=1000)(ht:Ks w base xs):Jq w v xs:=by
 obtain⟨A,c,e,hr⟩:=B9.ownK h aZ;exact⟨A,c,e,hl,hr,ht.fds⟩
theorem Qa3{L:List (List UInt8)}{k:Nat}(hk:k<L.length){S:List Ty}(h:Ex L=(Ex (L.drop k)).map (S ++ ·)):
  Ex L=(match Cb L[k]with|none=>none|some t=>(Ex (L.drop (k+1))).map ((S++[t]) ++ ·)):=by
 rw[h,List.drop_eq_getElem_cons hk,Ex,Qa6];cases Ee L[k]with
 |none=>rfl
 |some t=>
  simp only;cases Ex (L.drop (k+1))with
  |none=>rfl
  |some r=>simp
theorem Jj{s:List UInt8}(h:400<s.length\/Ng s=none):Cl s=none:=by
 cases hs:Cl s with
 |none=>rfl
 |some S=>
  have:=Pc.1 hs;rcases h with h|h
  ·omega
  rw[h]at this;exact absurd this.2.1 aL
theorem Xg{s:List UInt8}{S:List Ty}(h4:s.length<=400)(h:Ng s=some S)(b:Bool)(hb:b=true↔Rw S):Cl s=if b=true then some S else none:=by
 cases b with
 |true=>
  rw[if_pos rfl];exact Pc.2 ⟨h4,h,hb.1 rfl⟩
 |false=>
  rw[if_neg aK];cases hs:Cl s with
  |none=>rfl
  |some T=>
   have:=Pc.1 hs;rw[h]at this;obtain⟨_,e,hv⟩:=this;simp only[aj]at e;subst e;exact absurd (hb.2 hv) aK
def Ja(o:Option (List Ty))(w:World)(e:Ending)(w':World):Prop:=
 (match o with
  |some S=>∃v xs,e=.returned (.tuple #[v,.bool true])/\Af xs=S/\Jq w' v xs
  |none=>∃A n c,e=.returned (.tuple #[.slice A n c,.bool false]))/\Below w w w'
theorem Ja.no{w w':World}{e:Ending}{o:Option (List Ty)}(ho:o=none){A:Option Addr}{n c:Nat}(he:e=.returned (.tuple #[.slice A n c,.bool false]))(hb:Below w w w'):Ja o w e w':=by
 rw[ho];exact⟨⟨A,n,c,he⟩,hb⟩
theorem Ja.yes{w w':World}{e:Ending}{o:Option (List Ty)}{v:Value}{xs:List (Ty × Value)}(ho:o=some (Af xs))(he:e=.returned (.tuple #[v,.bool true]))(hs:Jq w' v xs)(hb:Below w w w'):Ja o w e w':=by
 rw[ho];exact⟨⟨v,xs,he,rfl,hs⟩,hb⟩
theorem Mw{w:World}{base:Nat}{v:Value}{ls:List (List UInt8)}(h:w.ownsRow base 9 1 v ls.length (Bt ls))(hne:ls≠[]):
  ∃g c,v=.slice (some ⟨g,0,none⟩) ls.length c/\base<=g/\g<w.heap.size/\∀j (hj:j<ls.length),w.cell? ⟨g,j,none⟩=some (.string ⟨ls[j].toArray⟩):=by
 rcases h.2 with⟨_,h0⟩|⟨g,cap,cur,rfl,hb,hh,_⟩
 ·cases ls with
  |nil=>exact absurd rfl hne
  |cons=>simp at h0
 refine⟨g,cap,rfl,hb,(h.lt g rfl).2,fun j hj=>?_⟩;have:=h.cells (g:=g) rfl j (.string ⟨ls[j].toArray⟩) (by simp[Bt,hj]);rwa [Yk]at this
theorem Qau{s:List UInt8}(h:9<(Ai 10 s).length):Ng s=none:=if_pos (.inl h)
theorem Z4{s:List UInt8}(h:(Ai 10 s).getLast?≠some []):Ng s=none:=if_pos (.inr h)
theorem Qd1{s:List UInt8}(h:¬9<(Ai 10 s).length)(h2:(Ai 10 s).getLast?=some []):Ng s=Ex (Ai 10 s).dropLast:=if_neg (by rintro(h3|h3)<;>contradiction)
theorem Ru(s:List UInt8)(w:World)(hs:s.length<=4000000)(h:400<s.length\/9<(Ai 10 s).length\/(Ai 10 s).getLast?≠some []):
  Calls prog 61 #[s] w (Ja (Cl s) w):=by
 have HF:=Aa (show Cl s=none by
  rcases h with h|h|h
  ·exact Jj (.inl h)
  ·exact Jj (.inr (Qau h))
  exact Jj (.inr (Z4 h)))
 have Hcut:=Aa (fun W=>Cg s 10 10 rfl W hs);have hne:=Dm 10 s;have hle:=E7 10 s;generalize Ai 10 s=L at h Hcut hne hle;go_enter func61,ntmps61;go_wp2_with fail;refine(Hcut.o _).mono ?_;rintro e w1 ⟨v,rfl,ho,hb⟩;obtain⟨g,c,rfl,hg1,hg2,hcells⟩:=Mw ho hne;have hpos:0<L.length:=List.length_pos_iff.2 hne;have Hb:=Aa hb;have k1:(0:Int)<=(L.length:Int) - 1:=aH;have k2:(L.length:Int) - 1<(L.length:Int):=aH;have k3:((L.length:Int) - 1).toNat=L.length - 1:=aH;by_cases h1:400<s.length
 ·have q1:(400:Int)<(s.length:Int):=aH;clear h hcells ho hb;go_wp2_with fail;refine aF (v:=.tuple #[.slice none 0 0,.bool false]) (by simp[results,results61,go_sem]) rfl ?_;exact Ja.no HF.o rfl Hb.o
 have q1:¬(400:Int)<(s.length:Int):=aH;by_cases h2:9<L.length
 ·have q2:(9:Int)<(L.length:Int):=aH;clear h hcells ho hb;go_wp2_with fail;refine aF (v:=.tuple #[.slice none 0 0,.bool false]) (by simp[results,results61,go_sem]) rfl ?_;exact Ja.no HF.o rfl Hb.o
 have q2:¬(9:Int)<(L.length:Int):=aH;have h3:L.getLast?≠some []:=by rcases h with h|h|h<;>first|exact h|exact absurd h h1|exact absurd h h2
 have cl:=hcells (L.length - 1) aH;have he:¬(L[L.length - 1]=[]):=by
  intro e;apply h3;rw[List.getLast?_eq_getElem?,List.getElem?_eq_getElem aH,e]
 have he':(L[L.length - 1] == [])=false:=d9;clear h hcells ho hb h3;generalize L[L.length - 1]=x at cl he he';go_wp2_with fail;refine aF (v:=.tuple #[.slice none 0 0,.bool false]) (by simp[results,results61,go_sem]) rfl ?_;exact Ja.no HF.o rfl Hb.o
def Vt(w:World)(v:Value)(l:List Cf):Prop:=
 ∃g c,v=.slice (some ⟨g,0,none⟩) l.length c/\g<w.heap.size/\l.length<=c/\c<=maxLen/\∀j (hj:j<l.length),w.cell? ⟨g,j,none⟩=some (.string ⟨l[j].toArray⟩)
theorem Vt.below{w w':World}{v:Value}{l:List Cf}(h:Vt w v l)(hb:Below w w w'):Vt w' v l:=by
 obtain⟨g,c,rfl,hg,h1,h2,hc⟩:=h;exact⟨g,c,rfl,ac hg hb.size,h1,h2,fun j hj=>(hb.cell (p:=⟨g,j,none⟩) hg).trans (hc j hj)⟩
theorem Vt.own{w:World}{base:Nat}{v:Value}{n:Nat}{l:List Cf}(h:w.ownsRow base 9 1 v n (Bt l))(hne:l≠[]):Vt w v l:=by
 obtain rfl:n=l.length:=by have:=h.1;simp[Bt]at this;omega
 rcases h.2 with⟨_,h0⟩|⟨g,cap,cur,rfl,hb,hh,hnc,hcm,_⟩
 ·cases l with
  |nil=>exact absurd rfl hne
  |cons=>simp at h0
 refine⟨g,cap,rfl,(h.lt g rfl).2,hnc,hcm,fun j hj=>?_⟩;have:=h.cells (g:=g) rfl j (.string ⟨l[j].toArray⟩) (by simp[Bt,hj]);rwa [Yk]at this
theorem Qiv(p:Cf->Bool):∀(l:List Cf),(∀(j:Nat) (hj:j<l.length),j<(l.takeWhile p).length->p l[j]=true)/\(∀(h:(l.takeWhile p).length<l.length),p l[(l.takeWhile p).length]=false) /\
  l.takeWhile p=l.take (l.takeWhile p).length/\l.dropWhile p=l.drop (l.takeWhile p).length/\(l.takeWhile p).length<=l.length
 |[]=>aL
 |x::l=>by
  obtain⟨i1,i2,i3,i4,i5⟩:=Qiv p l;by_cases h:p x=true
  ·simp only[List.takeWhile_cons,List.dropWhile_cons,h,if_true,List.length_cons];refine⟨?_,?_,?_,?_,by omega⟩
   ·intro j hj hlt;cases j with
    |zero=>simpa using h
    |succ j=>simpa using i1 j (by simpa using hj) fE
   ·intro hh;simpa using i2 (by simpa using hh)
   ·simpa using i3
   simpa using i4
  have h':p x=false:=bg;simp[h']
theorem Jq.fds{w:World}{v:Value}{xs:List (Ty × Value)}(h:Jq w v xs){x:Ty × Value}(hx:x∈xs):Er w x.2 x.1.fields:=by
 obtain⟨_,_,_,_,_,h⟩:=h;exact h x hx
theorem Pe{c d:UInt8}(h:c≠d):((c.toNat:Int) != (d.toNat:Int))=true:=by
 rw[bne_iff_ne];intro e;exact h (UInt8.toNat_inj.1 aH)
theorem Mh{c d:UInt8}(h:c=d):((c.toNat:Int) != (d.toNat:Int))=false:=by subst h;simp
theorem Qe0(s:List UInt8)(w:World)(h4:s.length<=400)(h9:¬9<(Ai 10 s).length)(hlast:(Ai 10 s).getLast?=some []):
  Calls prog 61 #[s] w (Ja (Cl s) w):=by
 have HL:=Aa (Qd1 h9 hlast);have Hcut:=Aa (fun W=>Cg s 10 10 rfl W aH);have hne:=Dm 10 s;have Hpl:=Aa (Ak 10 s);generalize Ai 10 s=L at h9 hlast HL Hcut hne Hpl;go_enter func61,ntmps61;go_wp2_with fail;refine(Hcut.o _).mono ?_;rintro e w1 ⟨v,rfl,ho,hb⟩;obtain⟨g,c,rfl,hg1,hg2,hcells⟩:=Mw ho hne;have hpos:0<L.length:=List.length_pos_iff.2 hne;have Hb:=Aa hb;have Hcells:=Aa hcells;have hz1:=hb.size;have k1:(0:Int)<=(L.length:Int) - 1:=aH;have k2:(L.length:Int) - 1<(L.length:Int):=aH;have k3:((L.length:Int) - 1).toNat=L.length - 1:=aH;have q1:¬(400:Int)<(s.length:Int):=aH;have q2:¬(9:Int)<(L.length:Int):=aH;have cl:=hcells (L.length - 1) aH;have he:L[L.length - 1]=[]:=by
  rw[List.getLast?_eq_getElem?,List.getElem?_eq_getElem aH]at hlast;simpa using hlast
 rw[he]at cl;have hDl:L.dropLast.length=L.length - 1:=aL;clear he hlast hcells ho hb hne;go_wp2_with fail
 go_loopw [5,6] (fun v i wr=>∃(xs:List (Ty × Value)),i=.int .i64 (xs.length:Nat)/\xs.length+1<=L.length/\Hid (Ex L.dropLast=(Ex (L.dropLast.drop xs.length)).map (Af xs ++ ·)) /\
   Hid (wr.ownsRow w1 100 3 v xs.length (xs.flatMap stc))/\Hid (Ks wr w1.heap.size xs)/\Hid (Below w1 w1 wr)/\w1.heap.size<=wr.heap.size) (fun _ i _=>L.length - (intOf i).toNat)
 case atStart=>exact⟨[],rfl,by simp;omega,by simp[Hid,Af],World.ownsRow_lit (base:=w1.heap.size) (e:=100) (size:=3) w1 #[] 0 (Ap _) (ag _) rfl,by intro x hx;simp at hx,(Aq _ _).alloc (Ap _) _,by simp⟩
 case round=>
  obtain⟨xs,rfl,hxl,hty,hown,htys,hbr,hszr⟩:=hrel;obtain⟨A,cA,rfl,hrA⟩:=B9.ownK hown.o aZ;have HrA:=Aa hrA;have HbW:=Aa (Hb.o.trans (hbr.o.mono hz1));clear hrA;by_cases hlt:xs.length+1<L.length
  ·have j1:(xs.length:Int)+1<(L.length:Int):=aH;have j2:(0:Int)<=(xs.length:Int):=aH;have j3:(xs.length:Int)<(L.length:Int):=aH;have cell:_:=(hbr.o.cell (p:=⟨g,xs.length,none⟩) hg2).trans (Hcells.o xs.length aH);have hstep:=Qa3 (L:=L.dropLast) (k:=xs.length) aH hty.o;have hge:L.dropLast[xs.length]' aH=L[xs.length]:=aL;rw[hge]at hstep;have hpl:=Hpl.o _ (ae (show xs.length<L.length by omega));have Hstep:=Aa hstep;generalize L[xs.length]=p at cell Hstep hpl;have Hread:=Aa (fun W=>Xb p W aH);have Htok:=Aa (fun t (h:Cb p=some t)=>(Ew.1 ((Qa6 p).symm.trans h)).1);generalize Cb p=o at Hstep Hread Htok;clear hstep hge hty;go_wp2_with fail;refine(Hread.o _).mono ?_;rintro e w4 ⟨hcase,hb4⟩;have HbW4:=Aa (HbW.o.trans (hb4.mono HbW.o.size));cases o with
   |none=>
    obtain⟨x,a,A2,n2,c2,rfl⟩:=hcase;have Hno:=@Aa (Cl s=none) (Jj (.inr (HL.o.trans Hstep.o)));clear hb4;go_wp2_with fail;refine aF (v:=.tuple #[.slice none 0 0,.bool false]) (by simp[results,results61,go_sem]) rfl ?_;exact Ja.no Hno.o rfl (by(repeat (first|exact HbW4.o|refine Below.setCell ?_ eS _|refine Below.alloc ?_ eS _|refine Below.drew ?_)))
   |some t=>
    obtain⟨fv,rfl,hfv⟩:=hcase;have htk:=Htok.o t rfl;have h8:=htk.2.2.2.1;obtain⟨A2,c2,rfl,_⟩:=B9.ownK hfv aZ;have Hstep2:=@Aa (Ex L.dropLast=(Ex (L.dropLast.drop (xs.length+1))).map ((Af xs++[t]) ++ ·)) Hstep.o;have Hw5:=Aa ((Cm hown.o hb4).alloc (.cells #[.int .u8 (t.sort.toNat:Int),t.name,.slice A2 t.fields.length c2] 100));have Hbb:=@Aa (Below w1 w1 (w4.alloc (.cells #[.int .u8 (t.sort.toNat:Int),t.name,.slice A2 t.fields.length c2] 100))) ((hbr.o.trans (hb4.mono hszr)).alloc (ad hszr hb4.size) _)
    have Hty5:=Aa (show Ks (w4.alloc (.cells #[.int .u8 (t.sort.toNat:Int),t.name,.slice A2 t.fields.length c2] 100)) w1.heap.size (xs++[(t,.slice A2 t.fields.length c2)])from by
     intro x hx;rcases af.1 hx with hx|hx
     ·exact⟨(Cm ((htys.o x hx).1) hb4).alloc _,(htys.o x hx).2⟩
     simp at hx;subst hx;exact⟨(J0 hfv hszr).alloc _,htk⟩)
    have hz5:w1.heap.size<=w4.heap.size+1:=by have:=hb4.size;omega
    have Hsz5:=@Aa ((w4.alloc (.cells #[.int .u8 (t.sort.toNat:Int),t.name,.slice A2 t.fields.length c2] 100)).heap.size=w4.heap.size+1) aL;clear hfv htk hb4;unfold Kx;go_wp2_with (at_builtin;go_loud (refine Qat _ rfl _ _ 53 rfl w1 100 (.agg #[.int .u8 0,a8,.slice none 0 0]) 3 48 underlying53 Tryz.infoSt rfl aK (w4.alloc (.cells #[.int .u8 (t.sort.toNat:Int),t.name,.slice A2 t.fields.length c2] 100)) [.int .u8 (t.sort.toNat:Int),t.name,.slice A2 t.fields.length c2] rfl rfl bj _ xs.length (xs.flatMap stc) rfl (by rw[Hsz5.o];rfl) Hw5.o aZ aH aM ?_;intro v5 w5 hown5 hb5 hg5;have Hty6:=Aa ((Hty5.o.below ((Aq _ _).alloc (Ap _) _)).grown (Hw5.o.alloc _) aK hg5);have Hown5:=Aa hown5;have Hb5:=Aa (Hbb.o.trans hb5);clear hown5 hb5 hg5))
    go_roundw
    case rel=>
     refine⟨xs++[(t,Value.slice A2 t.fields.length c2)],by rw[ah];go_num,by simp;omega,?_,?_,?_,Hb5.o,Hb5.o.size⟩
     ·show Ex L.dropLast=_;rw[Hstep2.o];simp[Af]
     ·show World.ownsRow _ _ _ _ _ _ _;rw[List.flatMap_append,ah];exact Hown5.o
     ·exact Hty6.o
    case measure=>simp[intOf];omega
  ·have j1:¬(xs.length:Int)+1<(L.length:Int):=aH
   have Hlin:=Aa (show Ng s=some (Af xs)by
    rw[HL.o,hty.o,List.drop_of_length_le aH];simp[Ex])
   have Hval:=Aa (fun(_:Unit)=>Qb9 (.slice A xs.length cA) xs wr (Jq.own hown.o aH htys.o) (fun x hx=>(htys.o x hx).2));have Hs:=Aa (Jq.own hown.o aH htys.o);clear hty;go_wp2_with fail;refine(Hval.o ()).mono ?_;rintro e w4 ⟨⟨b,rfl,hbv⟩,hb4⟩;have Hfin:=Aa (Xg h4 Hlin.o b hbv);have HbW4:=Aa (HbW.o.trans (hb4.mono HbW.o.size));have Hs4:=Aa (Hs.o.below hb4);clear hb4 hbv;cases b with
   |true=>
    go_wp2_with fail;refine aF (v:=.tuple #[.slice A xs.length cA,.bool true]) (by simp[results,results61,go_sem]) rfl ?_;exact Ja.yes (xs:=xs) Hfin.o rfl Hs4.o HbW4.o
   |false=>
    go_wp2_with fail;refine aF (v:=.tuple #[.slice A xs.length cA,.bool false]) (by simp[results,results61,go_sem]) rfl ?_;exact Ja.no Hfin.o rfl HbW4.o
theorem Zd(s:List UInt8)(w:World)(hs:s.length<=4000000):
  Calls prog 61 #[s] w (Ja (Cl s) w):=by
 by_cases h1:400<s.length
 ·exact Ru s w hs (.inl h1)
 by_cases h2:9<(Ai 10 s).length
 ·exact Ru s w hs (.inr (.inl h2))
 by_cases h3:(Ai 10 s).getLast?=some []
 ·exact Qe0 s w aH h2 h3
 exact Ru s w hs (.inr (.inr h3))
def Bn(s d:List UInt8):Option (List Ty × Kd):=
 match Cl s with
 |none=>none
 |some S=>match Co d with
  |none=>none
  |some k=>if Bx S k then some (S,k)else none
def Gy(o:Option (List Ty × Kd))(w:World)(e:Ending)(w':World):Prop:=
 (match o with
  |some x=>∃v xs,e=.returned (.tuple #[v,.bool true])/\Af xs=x.1/\Jq w' v xs
  |none=>∃A n c,e=.returned (.tuple #[.slice A n c,.bool false]))/\Below w w w'
theorem Gy.no{w w':World}{e:Ending}{o:Option (List Ty × Kd)}(ho:o=none){A:Option Addr}{n c:Nat}(he:e=.returned (.tuple #[.slice A n c,.bool false]))(hb:Below w w w'):Gy o w e w':=by
 rw[ho];exact⟨⟨A,n,c,he⟩,hb⟩
theorem Vo(s d:List UInt8)(w:World)(hs:s.length<=4000000)(h:Cl s=none):
  Calls prog 41 #[s,d] w (Gy (Bn s d) w):=by
 have HF:=Aa (show Bn s d=none by unfold Bn;rw[h]);have Hof:=Aa (fun W=>Zd s W hs);rw[h]at Hof;clear h;go_enter func41,ntmps41;go_wp2_with fail;refine(Hof.o _).mono ?_;rintro e w1 ⟨⟨A,n,c,rfl⟩,hb⟩;go_wp2_with fail;refine aF (v:=.tuple #[.slice none 0 0,.bool false]) (by simp[results,results41,go_sem]) rfl ?_;exact Gy.no HF.o rfl hb
theorem Yn(s d:List UInt8)(w:World)(hs:s.length<=4000000)(hd:d.length<=4000000)(S:List Ty)(h:Cl s=some S)(hk:Co d=none):
  Calls prog 41 #[s,d] w (Gy (Bn s d) w):=by
 have HF:=Aa (show Bn s d=none by unfold Bn;rw[h,hk]);have Hof:=Aa (fun W=>Zd s W hs);have Hkd:=Aa (fun W=>Na d.length d W (Ap _) aH);rw[h]at Hof;rw[hk]at Hkd;clear h hk;go_enter func41,ntmps41;go_wp2_with fail;refine(Hof.o _).mono ?_;rintro e w1 ⟨⟨v,xs,rfl,hx,hsc⟩,hb⟩;clear hsc;go_wp2_with fail;refine(Hkd.o _).mono ?_;rintro e w2 ⟨rfl,rfl⟩;go_wp2_with fail;refine aF (v:=.tuple #[.slice none 0 0,.bool false]) (by simp[results,results41,go_sem]) rfl ?_;exact Gy.no HF.o rfl hb
theorem Gy.of{w w':World}{e:Ending}{S:List Ty}{k:Kd}{v:Value}{xs:List (Ty × Value)}{b:Bool}{o:Option (List Ty × Kd)}(ho:o=if b=true then some (S,k)else none)(he:e=.returned (.tuple #[v,.bool b]))(hx:Af xs=S)(hs:Jq w' v xs)(hb:Below w w w'):Gy o w e w':=by
 cases b with
 |true=>rw[ho];exact⟨⟨v,xs,he,hx,hs⟩,hb⟩
 |false=>
  obtain⟨A,c,rfl,_⟩:=hs;rw[ho];exact⟨⟨A,_,c,he⟩,hb⟩
theorem Qdm(s d:List UInt8)(w:World)(hs:s.length<=4000000)(S:List Ty)(h:Cl s=some S)(k:Kd)(hk:Co d=some k):
  Calls prog 41 #[s,d] w (Gy (Bn s d) w):=by
 obtain⟨hok,rfl⟩:=Em.1 hk;have HF:=Aa (show Bn s (Bj k)=if Bx S k then some (S,k)else none by unfold Bn;rw[h,hk]);have Hof:=Aa (fun W=>Zd s W hs);have hl:=hok.2.2;have Hkd:=Aa (fun W=>Na (Bj k).length (Bj k) W (Ap _) aH);have Hok:=Aa hok;rw[h]at Hof;rw[hk]at Hkd;clear h hk hok;go_enter func41,ntmps41;go_wp2_with fail;refine(Hof.o _).mono ?_;rintro e w1 ⟨⟨v,xs,rfl,hx,hsc⟩,hb⟩;subst hx;have Hsc:=Aa hsc;obtain⟨A,c,rfl,_,_,hfds⟩:=hsc;have Hfds:=Aa hfds;have Hb:=Aa hb;clear hb hfds;go_wp2_with fail;refine(Hkd.o _).mono ?_;rintro e w2 ⟨rfl,rfl⟩;go_wp2_with fail;refine(Md k Hok.o _).mono ?_;rintro e w2 ⟨rfl,rfl⟩;go_wp2_with fail;refine(P5 k Hok.o _).mono ?_;rintro e w2 ⟨rfl,rfl⟩;go_wp2_with fail;refine(Rs _ xs (Sv k) _ Hsc.o).mono ?_;rintro e w2 ⟨rfl,hb2⟩;have Hb2:=Aa (Hb.o.trans (hb2.mono Hb.o.size));have Hs2:=Aa (Hsc.o.below hb2);clear hb2;cases hx2:Dq xs (Sv k)with
 |none=>
  unfold Rn Nq;rcases hir:Sk k with _|_
  ·have Hr:=Aa (show (if Bx (Af xs) k then some (Af xs,k)else none)=if (true:Bool)=true then some (Af xs,k)else none by
    have:=Ko xs k;rw[hx2,hir]at this;simp at this;simp[this])
   go_wp2_with fail;refine aF (v:=.tuple #[.slice A xs.length c,.bool true]) (by simp[results,results41,go_sem]) rfl ?_;exact Gy.of (b:=true) (HF.o.trans Hr.o) rfl rfl (Hs2.o.below ((Aq _ _).alloc (Ap _) _)) bc
  have Hr:=Aa (show (if Bx (Af xs) k then some (Af xs,k)else none)=if (false:Bool)=true then some (Af xs,k)else none by
   have:=Ko xs k;rw[hx2,hir]at this;simp at this;simp[this])
  go_wp2_with fail;refine aF (v:=.tuple #[.slice A xs.length c,.bool false]) (by simp[results,results41,go_sem]) rfl ?_;exact Gy.of (b:=false) (HF.o.trans Hr.o) rfl rfl (Hs2.o.below ((Aq _ _).alloc (Ap _) _)) bc
 |some y=>
  obtain⟨ty,yv⟩:=y;obtain⟨A5,c5,e5,_⟩:=Hfds.o _ (Dj hx2).1;simp only[]at e5;subst e5;unfold Rn Kx;rcases hir:Sk k with _|_
  ·have Hr:=Aa (show (if Bx (Af xs) k then some (Af xs,k)else none)=if (true:Bool)=true then some (Af xs,k)else none by
    have:=Ko xs k;rw[hx2,hir]at this;simp at this;simp[this])
   go_wp2_with fail;refine aF (v:=.tuple #[.slice A xs.length c,.bool true]) (by simp[results,results41,go_sem]) rfl ?_;exact Gy.of (b:=true) (HF.o.trans Hr.o) rfl rfl (Hs2.o.below ((Aq _ _).alloc (Ap _) _)) bc
  have Hr:=Aa (show (if Bx (Af xs) k then some (Af xs,k)else none)=if (true:Bool)=true then some (Af xs,k)else none by
   have:=Ko xs k;rw[hx2,hir]at this;simp at this;simp[this])
  go_wp2_with fail;refine aF (v:=.tuple #[.slice A xs.length c,.bool true]) (by simp[results,results41,go_sem]) rfl ?_;exact Gy.of (b:=true) (HF.o.trans Hr.o) rfl rfl (Hs2.o.below ((Aq _ _).alloc (Ap _) _)) bc
end
end Go.Proofs.YtkgkoicedddkmaaGreatDoor
