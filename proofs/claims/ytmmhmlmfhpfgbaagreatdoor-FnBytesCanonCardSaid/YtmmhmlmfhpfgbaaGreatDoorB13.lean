/- Texts joined. Conditions: as each theorem names them. -/
import Derived.BigRegion
import Derived.BigQuiet
import Derived.Sort.Walk0
import Derived.Test.YtmmhmlmfhpfgbaaGreatDoorB11
import Derived.Test.YtmmhmlmfhpfgbaaGreatDoorB12
set_option maxRecDepth 100000
set_option maxHeartbeats 32000000
set_option linter.unusedVariables false
set_option linter.unusedSimpArgs false
namespace Go.Proofs.YtmmhmlmfhpfgbaaGreatDoor
open Go.RowKit Go.Proofs.Tryz
section
attribute [local go_sem] Qra Qpu Qo3 Qmi ByteArray.mk_append_mk
inductive Zk69|z
instance:Coe Zk69 UInt8:=⟨fun _=>69⟩
instance:Coe Zk69 Int:=⟨fun _=>69⟩
namespace F69
def zc:Zk69:=.z
theorem _root_.Go.Proofs.YtmmhmlmfhpfgbaaGreatDoor.sType_full69(s:List UInt8)(nm u:List UInt8)(w:World)(hs:s.length<=1000)(h:s=(69::nm)++61::u)(hp:61∉69::nm)(hnm:Bf nm=true)(hu:u≠[]):
  Calls prog 150 #[s] w (D4 (Dt s) w):=
 stF
end F69
theorem Qa1(s:List UInt8)(w:World)(hs:s.length<=1000):
  Calls prog 150 #[s] w (D4 (Dt s) w):=by
 rcases Fy 61 s with⟨hn,_⟩|⟨p,u,h,hp,_⟩
 ·exact Qgh s w hs hn
 cases p with
 |nil=>exact Qep s u w hs h
 |cons c nm=>
  rcases Bool.eq_false_or_eq_true (Bf nm)with hnm|hnm
  ·by_cases hso:Ej c
   ·by_cases hu:u=[]
    ·rcases hso with rfl|rfl|rfl
     ·exact Qda s nm u w hs h hp hnm hu
     ·exact Qco s nm u w hs h hp hnm hu
     exact Qdm s nm u w hs h hp hnm hu
    rcases hso with rfl|rfl|rfl
    ·exact sType_full82 s nm u w hs h hp hnm hu
    ·exact sType_full85 s nm u w hs h hp hnm hu
    exact sType_full69 s nm u w hs h hp hnm hu
   exact Qfx s c nm u w hs h hp hnm hso
  exact Qg1 s c nm u w hs h hp hnm
def Xn(k:Kd):Bool:=decide (k.base=[64])
def Xb(k:Kd):List UInt8:=if k.base=[64]then k.name else[]
theorem Rf(k:Kd)(hk:Cw k)(w:World):
  Calls prog 96 #[.string ⟨(Cj k).toArray⟩] w fun e w'=>e=.returned (.tuple #[.string ⟨(Xb k).toArray⟩,.bool (Xn k)])/\w=w':=by
 obtain⟨_,hb,hl⟩:=hk;unfold Cj Xb Xn;by_cases h:k.base=[64]
 ·rw[if_pos h,if_pos h,aE h];refine Qbd k.name w ?_;rcases hb with⟨_,hn⟩|⟨h2,_⟩
  ·have:=(Fc.1 hn).2.1;omega
  rcases h2 with h2|h2|h2<;>· rw[h]at h2;exact absurd h2 aL
 rw[if_neg h,if_neg h,aD h];rcases hb with⟨h2,_⟩|⟨h2,_⟩
 ·exact absurd h2 h
 rcases h2 with h2|h2|h2<;>· rw[h2];exact Qdt _ [] w aL aK
theorem Xs(k:Kd)(hk:Cw k)(w:World):
  Calls prog 97 #[.string ⟨(Be k).toArray⟩] w fun e w'=>e=.returned (.string ⟨(Cj k).toArray⟩)/\w=w':=
 Qgj k w hk.1 (Qbc hk.2.1) bR
theorem Mi(xs:List (Ty × Value))(k:Kd):Bu (Af xs) k↔(Xn k=true->(D9 xs (Xb k)).isSome=true):=by
 unfold Bu Xn Xb;by_cases h:k.base=[64]
 ·rw[if_pos h,Jq];simp[h]
 rw[if_neg h];simp[h]
def Vv(S:List Ty):Prop:=(S.Pairwise fun t u=>t.name≠u.name)/\G1 S/\∀t∈S,By S (S.length+1) t=true
def Qgc(xs:List (Ty × Value))(k:Nat):Prop:=
 (((xs.take k).map (·.1)).Pairwise fun t u=>t.name≠u.name)/\∀x∈xs.take k,x.1.sort≠69->∀f∈x.1.fields,Bu (Af xs) f.kind
theorem Qin(xs:List (Ty × Value)):Qgc xs 0:=⟨by simp,by simp⟩
theorem Qih{xs:List (Ty × Value)}{k:Nat}(hk:k<xs.length)(h:Qgc xs k)(h1:∀x∈xs.take k,x.1.name≠xs[k].1.name)(h2:xs[k].1.sort≠69->∀f∈xs[k].1.fields,Bu (Af xs) f.kind):Qgc xs (k+1):=by
 unfold Qgc;rw[Cv xs k hk];refine⟨?_,?_⟩
 ·rw[aA,List.pairwise_append];refine⟨h.1,by simp,?_⟩;intro a ha b hb;obtain⟨x,hx,rfl⟩:=ay.1 ha;simp at hb;subst hb;exact h1 x hx
 intro x hx;rcases af.1 hx with hx|hx
 ·exact h.2 x hx
 simp at hx;subst hx;exact h2
theorem Qlc{xs:List (Ty × Value)}(h:Qgc xs xs.length):((Af xs).Pairwise fun t u=>t.name≠u.name)/\G1 (Af xs):=by
 unfold Qgc at h;rw[List.take_length]at h;refine⟨h.1,?_⟩;intro t ht hs f hf;obtain⟨x,hx,rfl⟩:=ay.1 ht;exact h.2 x hx hs f hf
theorem Qja{xs:List (Ty × Value)}{j k:Nat}(hjk:j<k)(hk:k<xs.length)(h:xs[j].1.name=xs[k].1.name):¬Vv (Af xs):=by
 rintro⟨hp,_⟩;have:=List.pairwise_iff_getElem.1 hp j k (by unfold Af;simp;omega) (by unfold Af;simp;omega) hjk;unfold Af at this;simp at this;exact this h
theorem Qk9{xs:List (Ty × Value)}{k j:Nat}(hk:k<xs.length)(hs:xs[k].1.sort≠69)(hj:j<xs[k].1.fields.length)(h:¬Bu (Af xs) xs[k].1.fields[j].kind):¬Vv (Af xs):=by
 rintro⟨_,hp,_⟩;exact h (hp xs[k].1 (ay.2 ⟨xs[k],ae hk,rfl⟩) hs _ (ae hj))
theorem Qku{xs:List (Ty × Value)}{k:Nat}(hk:k<xs.length)(h:By (Af xs) (xs.length+1) xs[k].1=false):¬Vv (Af xs):=by
 rintro⟨_,_,hp⟩;have:=hp xs[k].1 (ay.2 ⟨xs[k],ae hk,rfl⟩);rw[show (Af xs).length=xs.length by unfold Af;simp,h]at this;cases this
theorem Qgx(v:Value)(xs:List (Ty × Value))(w:World)(h:Gj w v xs)(hok:∀x∈xs,Ek x.1):
  Calls prog 151 #[v] w fun e w'=>(∃b,e=.returned (.bool b)/\(b=true↔Vv (Af xs)))/\Below w w w':=by
 have H:=Aa h;have Hok:=Aa hok;obtain⟨A,c,rfl,hxl,hrow,hfds⟩:=h;have Hrow:=Aa hrow;have Hfds:=Aa hfds;clear hok hrow hfds;go_enter func151,ntmps151;go_wp2_with fail;go_loopw [3] (fun i wr=>∃k:Nat,i=.int .i64 k/\k<=xs.length/\Hid (Qgc xs k)/\Hid (Below w w wr)) (fun i _=>xs.length - (intOf i).toNat)
 case atStart=>exact⟨0,rfl,ag _,Qin xs,Aq _ _⟩
 case round=>
  obtain⟨k,rfl,hk,hto,hbr⟩:=hrel;by_cases hlt:k<xs.length
  ·have k1:(0:Int)<=(k:Int):=aI;have k2:(k:Int)<(xs.length:Int):=aI;go_wp2_with fail;go_loopw [4] (fun i wq=>∃j:Nat,i=.int .i64 j/\j<=k/\(∃q,wq=wr.drewN q)/\Hid (∀x∈xs.take j,x.1.name≠xs[k].1.name)) (fun i _=>k - (intOf i).toNat)
   case atStart=>exact⟨0,rfl,ag _,⟨0,rfl⟩,by intro x hx;simp at hx⟩
   case round=>
    obtain⟨j,rfl,hj,⟨q,rfl⟩,hin⟩:=hrel;obtain⟨b,off,rfl,hbl,c0,c1,c2⟩:=Gj.at_ (Hrow.o.below hbr.o) hlt;by_cases hjl:j<k
    ·obtain⟨b',off',e',hbl',d0,d1,d2⟩:=Gj.at_ (Hrow.o.below hbr.o) (show j<xs.length by omega);simp only[aj,Addr.mk.injEq]at e';obtain⟨rfl,rfl,_⟩:=e';have Hnn:=Aa (fun h=>Qja (xs:=xs) hjl hlt h);have Hts:=Aa (Cv xs j (show j<xs.length by omega));have j1:(0:Int)<=(j:Int):=aI;have j2:(j:Int)<(xs.length:Int):=aI;have j3:(j:Int)<(k:Int):=aI;by_cases he:xs[j].1.name=xs[k].1.name
     ·have t1:(xs[j].1.name == xs[k].1.name)=true:=cQ;have Hno:=Aa (Hnn.o he);clear he;go_wp2_with fail;go_quiet (fail)
      go_wp2_with fail;go_ret;exact⟨⟨false,rfl,by simp[Hno.o]⟩,below_drewN (below_drewN hbr.o q) _⟩
     have t1:(xs[j].1.name == xs[k].1.name)=false:=cQ
     have Hin:=Aa (show ∀x∈xs.take (j+1),x.1.name≠xs[k].1.name by
      intro x hx;rw[Hts.o]at hx;rcases af.1 hx with hx|hx
      ·exact hin.o x hx
      simp at hx;subst hx;exact he)
     clear he;go_wp2_with fail;go_quiet (fail)
     go_wp2
     go_roundw
     case rel=>exact⟨j+1,by go_num,by omega,⟨_,rfl⟩,Hin.o⟩
     case measure=>simp[intOf];omega
    ·obtain rfl:j=k:=aI;have j3:¬(j:Int)<(j:Int):=aI;have Hbk:=Aa (below_drewN hbr.o q);have Hnk:=Aa hin.o;have Hxk:=Aa (Hfds.o _ (ae hlt));have Hokk:=Aa (Hok.o _ (ae hlt));have Hnok:=Aa (fun(jj:Nat) (hs:xs[j].1.sort≠69) (hjj:jj<xs[j].1.fields.length) h=>Qk9 hlt hs hjj h);have Hsuc:=Aa (fun h2=>Qih hlt hto.o Hnk.o h2);clear hin hbl c0 c1 c2 hto;go_wp2_with fail;go_loopw [5] (fun i wq=>∃m:Nat,i=.int .i64 m/\m<=(xs[j]).1.fields.length/\Hid (Below w w wq)/\Hid (∀f∈(xs[j]).1.fields.take m,Bu (Af xs) f.kind)) (fun i _=>(xs[j]).1.fields.length - (intOf i).toNat)
     case atStart=>exact⟨0,rfl,ag _,Hbk.o,by intro x hx;simp at hx⟩
     case round=>
      obtain⟨m,rfl,hm,hbq,hin⟩:=hrel;obtain⟨b',off',e',hbl',d0,d1,d2⟩:=Gj.at_ (Hrow.o.below hbq.o) hlt;simp only[aj,Addr.mk.injEq]at e';obtain⟨rfl,rfl,_⟩:=e';generalize xs[j]=x at d0 d1 d2 Hxk Hokk Hnok Hsuc hin hm ⊢;obtain⟨t,fv⟩:=x;simp only[]at d0 d1 d2 hm;obtain⟨A2,c2,e2,hfl,hr2⟩:=Hxk.o;simp only[]at e2;subst e2;have Hr2:=Aa hr2;clear hr2;have hsl:=t.sort.toNat_lt;have hfl':t.fields.length<=1000:=hfl;by_cases hml:m<t.fields.length
      ·have m1:(0:Int)<=(m:Int):=aI;have m2:(m:Int)<(t.fields.length:Int):=aI;by_cases hs:t.sort=69
       ·have t1:((t.sort.toNat:Int) != 69)=false:=by have:=Bv hs;simpa using this
        have t2:((t.sort.toNat:Int) == 69)=true:=Bv hs;have Hto:=Aa (Hsuc.o (fun h=>absurd hs h));clear hs;go_wp2_with fail;go_roundw
        case rel=>exact⟨j+1,by go_num,by omega,Hto.o,hbq.o⟩
        case measure=>simp[intOf];omega
       have t1:((t.sort.toNat:Int) != 69)=true:=by have:=At hs;simpa using this
       have t2:((t.sort.toNat:Int) == 69)=false:=At hs;obtain⟨bf,of,rfl,hbf,g0,g1,g2,g3⟩:=D8.at_ (Hr2.o.below hbq.o) hml;have hfm:=ae hml;have Hkd:=Aa ((Hokk.o.2.2.1.1 _ hfm).2.2.2.2 hs).1;have Hno:=Aa (fun h=>Hnok.o m hs hml h);have Hts:=Aa (Cv t.fields m hml);generalize t.fields[m]=f at g0 g1 g2 g3 Hkd Hno Hts;clear hs hfm;have Hrf:=Aa (Mi xs f.kind);have Hfind:=Aa (fun W (hW:Below w w W)=>Vr (.slice (some ⟨b,off,none⟩) xs.length c) xs (Xb f.kind) W (H.o.below hW));go_wp2_with fail;refine(Xs f.kind Hkd.o _).mono ?_;rintro e w4 ⟨rfl,rfl⟩;go_wp2_with fail;refine(Rf f.kind Hkd.o _).mono ?_;rintro e w4 ⟨rfl,rfl⟩;go_wp2_with fail;refine(Hfind.o _ hbq.o).mono ?_;rintro e w4 ⟨rfl,hb4⟩;have Hb4:=Aa (hbq.o.trans (hb4.mono hbq.o.size));clear hb4;cases hx:D9 xs (Xb f.kind)with
       |none=>
        unfold Rv Pt;rcases hir:Xn f.kind with _|_
        ·have hrk:Bu (Af xs) f.kind:=Hrf.o.2 (fun h=>by rw[hir]at h;cases h)
         have Hin:=Aa (show ∀f∈t.fields.take (m+1),Bu (Af xs) f.kind by
          intro g hg;rw[Hts.o]at hg;rcases af.1 hg with hg|hg
          ·exact hin.o g hg
          simp at hg;subst hg;exact hrk)
         clear hrk;go_wp2_with fail;go_roundw
         case rel=>exact⟨m+1,by go_num,by omega,aW,Hin.o⟩
         case measure=>simp[intOf];omega
        have Hn:=Aa (Hno.o (fun h=>by have:=Hrf.o.1 h hir;rw[hx]at this;cases this));go_wp2_with fail;go_ret;exact⟨⟨false,rfl,by simp[Hn.o]⟩,aW⟩
       |some y=>
        have hrk:Bu (Af xs) f.kind:=Hrf.o.2 (fun _=>by rw[hx];rfl);obtain⟨ty,yv⟩:=y;obtain⟨A5,c5,e5,_⟩:=Hfds.o _ (Cl hx).1;simp only[]at e5;subst e5;unfold Rv Pu;rcases hir:Xn f.kind with _|_
        ·skip
         have Hin:=Aa (show ∀f∈t.fields.take (m+1),Bu (Af xs) f.kind by
          intro g hg;rw[Hts.o]at hg;rcases af.1 hg with hg|hg
          ·exact hin.o g hg
          simp at hg;subst hg;exact hrk)
         clear hrk;go_wp2_with fail;go_roundw
         case rel=>exact⟨m+1,by go_num,by omega,aW,Hin.o⟩
         case measure=>simp[intOf];omega
        skip
        have Hin:=Aa (show ∀f∈t.fields.take (m+1),Bu (Af xs) f.kind by
         intro g hg;rw[Hts.o]at hg;rcases af.1 hg with hg|hg
         ·exact hin.o g hg
         simp at hg;subst hg;exact hrk)
        clear hrk;go_wp2_with fail;go_roundw
        case rel=>exact⟨m+1,by go_num,by omega,aW,Hin.o⟩
        case measure=>simp[intOf];omega
      ·obtain rfl:m=t.fields.length:=aI;have m2:¬(t.fields.length:Int)<(t.fields.length:Int):=aI;have Hto:=Aa (Hsuc.o (fun _ f hf=>hin.o f (by rw[List.take_length];exact hf)));go_wp2_with fail;go_roundw
       case rel=>exact⟨j+1,by go_num,by omega,Hto.o,hbq.o⟩
       case measure=>simp[intOf];omega
  ·obtain rfl:k=xs.length:=aI;have k2:¬(xs.length:Int)<(xs.length:Int):=aI;have Hall:=Aa (Qlc hto.o);clear hto;go_wp2_with fail;go_loopw [10] (fun i wq=>∃j:Nat,i=.int .i64 j/\j<=xs.length/\Hid (Below w w wq)/\Hid (∀x∈xs.take j,By (Af xs) (xs.length+1) x.1=true)) (fun i _=>xs.length - (intOf i).toNat)
   case atStart=>exact⟨0,rfl,ag _,hbr.o,by intro x hx;simp at hx⟩
   case round=>
    obtain⟨j,rfl,hj,hbq,hin⟩:=hrel;by_cases hjl:j<xs.length
    ·obtain⟨b,off,rfl,hbl,d0,d1,d2⟩:=Gj.at_ (Hrow.o.below hbq.o) hjl;have Hts:=Aa (Cv xs j hjl);have Hno:=Aa (fun h=>Qku (xs:=xs) hjl h);have Hokj:=Aa (Hok.o _ (ae hjl));have hxj:=(Hfds.o _ (ae hjl)).below hbq.o;generalize xs[j]=x at d0 d1 d2 Hts Hno Hokj hxj;obtain⟨t,fv⟩:=x;simp only[]at d0 d1 d2 hxj;have Hxj:=Aa hxj;obtain⟨A2,c2,rfl,_⟩:=hxj;have j1:(0:Int)<=(j:Int):=aI;have j2:(j:Int)<(xs.length:Int):=aI;have He:=Aa (fun W (hW:Below w w W) (hX:D8 W (.slice A2 t.fields.length c2) t.fields)=>Qix (.slice (some ⟨b,off,none⟩) xs.length c) (.slice A2 t.fields.length c2) xs t W (H.o.below hW) Hokj.o hX Hok.o);go_wp2_with fail;refine(He.o _ hbq.o Hxj.o).mono ?_;rintro e w4 ⟨rfl,hb4⟩;have Hb4:=Aa (hbq.o.trans (hb4.mono hbq.o.size));clear hb4;rcases Bool.eq_false_or_eq_true (By (Af xs) (xs.length+1) t)with he|he
     ·have Hin:=Aa (show ∀x∈xs.take (j+1),By (Af xs) (xs.length+1) x.1=true by
       intro x hx;rw[Hts.o]at hx;rcases af.1 hx with hx|hx
       ·exact hin.o x hx
       simp at hx;subst hx;exact he)
      rw[he];clear he;go_wp2_with fail;go_roundw
      case rel=>exact⟨j+1,by go_num,by omega,Hb4.o,Hin.o⟩
      case measure=>simp[intOf];omega
     have Hn:=Aa (Hno.o he);rw[he];clear he;go_wp2_with fail;go_ret;exact⟨⟨false,rfl,by simp[Hn.o]⟩,Hb4.o⟩
    ·obtain rfl:j=xs.length:=aI
     have Hfin:=Aa (show Vv (Af xs)from⟨Hall.o.1,Hall.o.2,fun t ht=>by
      obtain⟨x,hx,rfl⟩:=ay.1 ht;rw[show (Af xs).length=xs.length by unfold Af;simp];exact hin.o x (by rw[List.take_length];exact hx)⟩)
     clear hin;go_wp2_with fail;go_ret;exact⟨⟨true,rfl,by simp[Hfin.o]⟩,hbq.o⟩
theorem Qje{w:World}{b1 b2 k1 k2 n1 n2:Nat}{e1 e2:TypeId}{v1 v2:Value}{xs ys:List Value}(h1:w.ownsRow b1 e1 k1 v1 n1 xs)(h2:w.ownsRow b2 e2 k2 v2 n2 ys)(hne:e1≠e2):v1.ownBlock=none\/v1.ownBlock≠v2.ownBlock:=by
 rcases h1.2 with⟨rfl,_⟩|⟨g,cap,cur,rfl,_,hh,_⟩
 ·exact .inl rfl
 rcases h2.2 with⟨rfl,_⟩|⟨g',cap',cur',rfl,_,hh',_⟩
 ·exact .inr eY
 refine .inr ?_;simp only[Value.ownBlock,ne_eq,aj];rintro rfl;rw[hh]at hh';simp only[aj,Obj.cells.injEq]at hh';exact hne hh'.2.1
section
variable {P:Program}
theorem Qer(w:World){ops:Array Oper}{rest:List Oper}{o:Oper}{a:Act}{Q:Exit->Act->World->Prop}(hgd:o.guard=none)(s x:Operand)(t:TypeId)
  (ho:o.op=.call {callee:=.builtin .append,args:=#[s,x],argTypes:=#[t,t]})
  (base:Nat) (e:TypeId) (z:Value) (k bytes:Nat) (ht:P.underlying t=some (.slice e)) (hinfo:(P.info? e).map (fun i=>(i.zero,i.size,i.bytes))=some (some z,k,bytes))
  (hzs:z.cells.size=k) (hk:0<k) (W:World) (us:List Value) (hul:us.length=k) (hw:w=W.alloc (.cells us.toArray e)) (hu:∀u∈us,u.oneCell'=true) (v:Value) (n:Nat) (xs:List Value) (hs:a.eval s=v) (hx:a.eval x=.slice (W,0) 1 1)
  (hown:W.ownsRow base e k v n xs)
  (h63:n+1<=maxLen) (hbytes:(n+1)*bytes<=140737488355328) (hbase:base<=W.heap.size)
  (h:∀v' w',w'.ownsRow base e k v' (n+1) (xs++us)->Below base W w'->(W.alloc (.cells us.toArray e)).grownBy w' v.ownBlock->wpList P ops Q rest (a.put o.dst v') w'):wpList P ops Q (o::rest) a w:=by
 subst hw;obtain⟨i0,hi,hz0,hz1,hz2⟩:=info_parts hinfo;refine wpList_append_own _ hgd s x t ho base e i0 z k bytes ht hi hz0 hz1 hz2 hzs hk v n xs hs (hown.alloc _) ⟨W.heap.size,0,none⟩ 1 1 us hx aI ?_ hu h63 hbytes ?_ ?_
 ·exact gE
 ·exact hY
 intro v' w' h1 h2 _;exact h v' w' h1 (((Aq base W).alloc hbase _).grown h2 aO (fun k hk=>(hown.lt k hk).1)) h2
end
def Mk(w:World)(base:Nat)(xs:List (Ty × Value)):Prop:=∀x∈xs,w.ownsRow base 157 4 x.2 x.1.fields.length (x.1.fields.flatMap sfc)/\Ek x.1
theorem Mk.below{w w':World}{base:Nat}{xs:List (Ty × Value)}(h:Mk w base xs)(hb:Below w w w'):Mk w' base xs:=fun x hx=>⟨Cr (h x hx).1 hb,(h x hx).2⟩
theorem Mk.grown{w w':World}{base b2 k n:Nat}{xs:List (Ty × Value)}{v:Value}{ys:List Value}{e:TypeId}(h:Mk w base xs)(hv:w.ownsRow b2 e k v n ys)(hne:157≠e)(hg:w.grownBy w' v.ownBlock):Mk w' base xs:=
 fun x hx=>⟨(h x hx).1.kept hg (Qje (h x hx).1 hv hne),(h x hx).2⟩
theorem Mk.fds{w:World}{base:Nat}{xs:List (Ty × Value)}(h:Mk w base xs):∀x∈xs,D8 w x.2 x.1.fields:=fun x hx=>by
 obtain⟨h1,h2⟩:=h x hx;have hl:=h2.2.2.2.1;obtain⟨A,c,e,hr⟩:=Ca.ownK h1 bc;exact⟨A,c,e,by omega,hr⟩
theorem Gj.own{w:World}{base:Nat}{v:Value}{xs:List (Ty × Value)}(h:w.ownsRow base 143 3 v xs.length (xs.flatMap stc))(hl:xs.length<=1000)(ht:Mk w base xs):Gj w v xs:=by
 obtain⟨A,c,e,hr⟩:=Ca.ownK h bc;exact⟨A,c,e,hl,hr,ht.fds⟩
theorem Qef{L:List (List UInt8)}{k:Nat}(hk:k<L.length){S:List Ty}(h:Fv L=(Fv (L.drop k)).map (S ++ ·)):
  Fv L=(match Dt L[k]with|none=>none|some t=>(Fv (L.drop (k+1))).map ((S++[t]) ++ ·)):=by
 rw[h,List.drop_eq_getElem_cons hk,Fv,Qel];cases Fe L[k]with
 |none=>rfl
 |some t=>
  simp only;cases Fv (L.drop (k+1))with
  |none=>rfl
  |some r=>simp
theorem Ki{s:List UInt8}(h:400<s.length\/Pc s=none):Ck s=none:=by
 cases hs:Ck s with
 |none=>rfl
 |some S=>
  have:=P8.1 hs;rcases h with h|h
  ·omega
  rw[h]at this;exact absurd this.2.1 aK
theorem Qa5{s:List UInt8}{S:List Ty}(h4:s.length<=400)(h:Pc s=some S)(b:Bool)(hb:b=true↔Vv S):Ck s=if b=true then some S else none:=by
 cases b with
 |true=>
  rw[if_pos rfl];exact P8.2 ⟨h4,h,hb.1 rfl⟩
 |false=>
  rw[if_neg aL];cases hs:Ck s with
  |none=>rfl
  |some T=>
   have:=P8.1 hs;rw[h]at this;obtain⟨_,e,hv⟩:=this;simp only[aj]at e;subst e;exact absurd (hb.2 hv) aL
def Ka(o:Option (List Ty))(w:World)(e:Ending)(w':World):Prop:=
 (match o with
  |some S=>∃v xs,e=.returned (.tuple #[v,.bool true])/\Af xs=S/\Gj w' v xs
  |none=>∃A n c,e=.returned (.tuple #[.slice A n c,.bool false]))/\Below w w w'
theorem Ka.no{w w':World}{e:Ending}{o:Option (List Ty)}(ho:o=none){A:Option Addr}{n c:Nat}(he:e=.returned (.tuple #[.slice A n c,.bool false]))(hb:Below w w w'):Ka o w e w':=by
 rw[ho];exact⟨⟨A,n,c,he⟩,hb⟩
theorem Ka.yes{w w':World}{e:Ending}{o:Option (List Ty)}{v:Value}{xs:List (Ty × Value)}(ho:o=some (Af xs))(he:e=.returned (.tuple #[v,.bool true]))(hs:Gj w' v xs)(hb:Below w w w'):Ka o w e w':=by
 rw[ho];exact⟨⟨v,xs,he,rfl,hs⟩,hb⟩
theorem Nv{w:World}{base:Nat}{v:Value}{ls:List (List UInt8)}(h:w.ownsRow base 9 1 v ls.length (Bz ls))(hne:ls≠[]):
  ∃g c,v=.slice (some ⟨g,0,none⟩) ls.length c/\base<=g/\g<w.heap.size/\∀j (hj:j<ls.length),w.cell? ⟨g,j,none⟩=some (.string ⟨ls[j].toArray⟩):=by
 rcases h.2 with⟨_,h0⟩|⟨g,cap,cur,rfl,hb,hh,_⟩
 ·cases ls with
  |nil=>exact absurd rfl hne
  |cons=>simp at h0
 refine⟨g,cap,rfl,hb,(h.lt g rfl).2,fun j hj=>?_⟩;have:=h.cells (g:=g) rfl j (.string ⟨ls[j].toArray⟩) (by simp[Bz,hj]);rwa [Qhw]at this
theorem Qdr{s:List UInt8}(h:9<(Aj 10 s).length):Pc s=none:=if_pos (.inl h)
theorem Qfc{s:List UInt8}(h:(Aj 10 s).getLast?≠some []):Pc s=none:=if_pos (.inr h)
theorem Qir{s:List UInt8}(h:¬9<(Aj 10 s).length)(h2:(Aj 10 s).getLast?=some []):Pc s=Fv (Aj 10 s).dropLast:=if_neg (by rintro(h3|h3)<;>contradiction)
theorem Vd(s:List UInt8)(w:World)(hs:s.length<=4000000)(h:400<s.length\/9<(Aj 10 s).length\/(Aj 10 s).getLast?≠some []):
  Calls prog 94 #[s] w (Ka (Ck s) w):=by
 have HF:=Aa (show Ck s=none by
  rcases h with h|h|h
  ·exact Ki (.inl h)
  ·exact Ki (.inr (Qdr h))
  exact Ki (.inr (Qfc h)))
 have Hcut:=Aa (fun W=>C4 s 10 10 rfl W hs);have hne:=Ex 10 s;have hle:=Jc 10 s;generalize Aj 10 s=L at h Hcut hne hle;go_enter func94,ntmps94;go_wp2_with fail;refine(Hcut.o _).mono ?_;rintro e w1 ⟨v,rfl,ho,hb⟩;obtain⟨g,c,rfl,hg1,hg2,hcells⟩:=Nv ho hne;have hpos:0<L.length:=List.length_pos_iff.2 hne;have Hb:=Aa hb;have k1:(0:Int)<=(L.length:Int) - 1:=aI;have k2:(L.length:Int) - 1<(L.length:Int):=aI;have k3:((L.length:Int) - 1).toNat=L.length - 1:=aI;by_cases h1:400<s.length
 ·have q1:(400:Int)<(s.length:Int):=aI;clear h hcells ho hb;go_wp2_with fail;refine aG (v:=.tuple #[.slice none 0 0,.bool false]) (by simp[results,results94,go_sem]) rfl ?_;exact Ka.no HF.o rfl Hb.o
 have q1:¬(400:Int)<(s.length:Int):=aI;by_cases h2:9<L.length
 ·have q2:(9:Int)<(L.length:Int):=aI;clear h hcells ho hb;go_wp2_with fail;refine aG (v:=.tuple #[.slice none 0 0,.bool false]) (by simp[results,results94,go_sem]) rfl ?_;exact Ka.no HF.o rfl Hb.o
 have q2:¬(9:Int)<(L.length:Int):=aI;have h3:L.getLast?≠some []:=by rcases h with h|h|h<;>first|exact h|exact absurd h h1|exact absurd h h2
 have cl:=hcells (L.length - 1) aI;have he:¬(L[L.length - 1]=[]):=by
  intro e;apply h3;rw[List.getLast?_eq_getElem?,List.getElem?_eq_getElem aI,e]
 have he':(L[L.length - 1] == [])=false:=cQ;clear h hcells ho hb h3;generalize L[L.length - 1]=x at cl he he';go_wp2_with fail;refine aG (v:=.tuple #[.slice none 0 0,.bool false]) (by simp[results,results94,go_sem]) rfl ?_;exact Ka.no HF.o rfl Hb.o
def Qar(w:World)(v:Value)(l:List Cy):Prop:=
 ∃g c,v=.slice (some ⟨g,0,none⟩) l.length c/\g<w.heap.size/\l.length<=c/\c<=maxLen/\∀j (hj:j<l.length),w.cell? ⟨g,j,none⟩=some (.string ⟨l[j].toArray⟩)
theorem Qar.below{w w':World}{v:Value}{l:List Cy}(h:Qar w v l)(hb:Below w w w'):Qar w' v l:=by
 obtain⟨g,c,rfl,hg,h1,h2,hc⟩:=h;exact⟨g,c,rfl,ac hg hb.size,h1,h2,fun j hj=>(hb.cell (p:=⟨g,j,none⟩) hg).trans (hc j hj)⟩
theorem Qar.own{w:World}{base:Nat}{v:Value}{n:Nat}{l:List Cy}(h:w.ownsRow base 9 1 v n (Bz l))(hne:l≠[]):Qar w v l:=by
 obtain rfl:n=l.length:=by have:=h.1;simp[Bz]at this;omega
 rcases h.2 with⟨_,h0⟩|⟨g,cap,cur,rfl,hb,hh,hnc,hcm,_⟩
 ·cases l with
  |nil=>exact absurd rfl hne
  |cons=>simp at h0
 refine⟨g,cap,rfl,(h.lt g rfl).2,hnc,hcm,fun j hj=>?_⟩;have:=h.cells (g:=g) rfl j (.string ⟨l[j].toArray⟩) (by simp[Bz,hj]);rwa [Qhw]at this
theorem Qp4(p:Cy->Bool):∀(l:List Cy),(∀(j:Nat) (hj:j<l.length),j<(l.takeWhile p).length->p l[j]=true)/\(∀(h:(l.takeWhile p).length<l.length),p l[(l.takeWhile p).length]=false) /\
  l.takeWhile p=l.take (l.takeWhile p).length/\l.dropWhile p=l.drop (l.takeWhile p).length/\(l.takeWhile p).length<=l.length
 |[]=>aK
 |x::l=>by
  obtain⟨i1,i2,i3,i4,i5⟩:=Qp4 p l;by_cases h:p x=true
  ·simp only[List.takeWhile_cons,List.dropWhile_cons,h,if_true,List.length_cons];refine⟨?_,?_,?_,?_,by omega⟩
   ·intro j hj hlt;cases j with
    |zero=>simpa using h
    |succ j=>simpa using i1 j (by simpa using hj) eF
   ·intro hh;simpa using i2 (by simpa using hh)
   ·simpa using i3
   simpa using i4
  have h':p x=false:=aU;simp[h']
theorem Gj.fds{w:World}{v:Value}{xs:List (Ty × Value)}(h:Gj w v xs){x:Ty × Value}(hx:x∈xs):D8 w x.2 x.1.fields:=by
 obtain⟨_,_,_,_,_,h⟩:=h;exact h x hx
theorem Qm{c d:UInt8}(h:c≠d):((c.toNat:Int) != (d.toNat:Int))=true:=by
 rw[bne_iff_ne];intro e;exact h (UInt8.toNat_inj.1 aI)
theorem My{c d:UInt8}(h:c=d):((c.toNat:Int) != (d.toNat:Int))=false:=by subst h;simp
def Bq(s d:List UInt8):Option (List Ty × Kd):=
 match Ck s with
 |none=>none
 |some S=>match C5 d with
  |none=>none
  |some k=>if Bu S k then some (S,k)else none
theorem Qgv{s d:List UInt8}{S:List Ty}{k:Kd}(h:Bq s d=some (S,k)):Ck s=some S/\C5 d=some k/\Bu S k:=by
 unfold Bq at h;cases h1:Ck s with
 |none=>rw[h1]at h;cases h
 |some T=>cases h2:C5 d with
  |none=>rw[h1,h2]at h;cases h
  |some q=>
   rw[h1,h2]at h;simp only at h;split at h
   ·rename_i hr;simp only[aj,aF]at h;obtain⟨rfl,rfl⟩:=h;exact⟨rfl,rfl,hr⟩
   cases h
theorem Ec{s d:List UInt8}{S:List Ty}{k:Kd}(h:Bq s d=some (S,k)):Kt S/\s.length<=400/\scB S=s/\Cw k/\Be k=d/\Bu S k:=by
 obtain⟨h1,h2,h3⟩:=Qgv h;obtain⟨a1,a2,a3⟩:=Tb.1 h1;obtain⟨b1,b2⟩:=Fm.1 h2;exact⟨a1,a2,a3,b1,b2,h3⟩
end
end Go.Proofs.YtmmhmlmfhpfgbaaGreatDoor
