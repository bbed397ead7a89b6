/- Texts joined. Conditions: as each theorem names them. -/
import Derived.BigQuiet
import Derived.Sort.Walk0
import Derived.Test.YtpjijpcemejlnaaGreatDoorM06
import Derived.Test.YtpjijpcemejlnaaGreatDoorM16
import Derived.Test.YtpjijpcemejlnaaGreatDoorM17
import Derived.Test.YtpjijpcemejlnaaGreatDoorM18
set_option maxRecDepth 100000
set_option maxHeartbeats 32000000
set_option linter.unusedVariables false
set_option linter.unusedSimpArgs false
namespace Go.Proofs.YtpjijpcemejlnaaGreatDoor
open Go.RowKit Go.Proofs.Tryz
theorem Xs(s:List UInt8)(w:World)(hs:s.length<=1000):
  Calls prog 115 #[s] w (Dg (C9 s) w):=by
 rcases E7 61 s with⟨hn,_⟩|⟨p,u,h,hp,_⟩
 ·exact Qcj s w hs hn
 cases p with
 |nil=>exact Qa7 s u w hs h
 |cons c nm=>
  rcases Bool.eq_false_or_eq_true (Av nm)with hnm|hnm
  ·by_cases hso:Ds c
   ·by_cases hu:u=[]
    ·rcases hso with rfl|rfl|rfl
     ·exact Y7 s nm u w hs h hp hnm hu
     ·exact Zw s nm u w hs h hp hnm hu
     exact Zg s nm u w hs h hp hnm hu
    rcases hso with rfl|rfl|rfl
    ·exact sType_full82 s nm u w hs h hp hnm hu
    ·exact sType_full85 s nm u w hs h hp hnm hu
    exact sType_full69 s nm u w hs h hp hnm hu
   exact Qcs s c nm u w hs h hp hnm hso
  exact Qc6 s c nm u w hs h hp hnm
section
attribute [local go_sem] Qkk Qj0 Qjm Qhu ByteArray.mk_append_mk
def Sm(k:Kd):Bool:=decide (k.base=[64])
def S6(k:Kd):List UInt8:=if k.base=[64]then k.name else[]
theorem P4(k:Kd)(hk:Cu k)(w:World):
  Calls prog 86 #[.string ⟨(Cm k).toArray⟩] w fun e w'=>e=.returned (.tuple #[.string ⟨(S6 k).toArray⟩,.bool (Sm k)])/\w=w':=by
 obtain⟨_,hb,hl⟩:=hk;unfold Cm S6 Sm;by_cases h:k.base=[64]
 ·rw[if_pos h,if_pos h,aD h];refine Yi k.name w ?_;rcases hb with⟨_,hn⟩|⟨h2,_⟩
  ·have:=(Dp.1 hn).2.1;omega
  rcases h2 with h2|h2|h2<;>· rw[h]at h2;exact absurd h2 aL
 rw[if_neg h,if_neg h,aC h];rcases hb with⟨h2,_⟩|⟨h2,_⟩
 ·exact absurd h2 h
 rcases h2 with h2|h2|h2<;>· rw[h2];exact Qbf _ [] w aL aM
theorem Sz(k:Kd)(hk:Cu k)(w:World):
  Calls prog 87 #[.string ⟨(Bn k).toArray⟩] w fun e w'=>e=.returned (.string ⟨(Cm k).toArray⟩)/\w=w':=
 Qdi k w hk.1 (Yv hk.2.1) bR
theorem Kn(xs:List (Ty × Value))(k:Kd):B9 (Af xs) k↔(Sm k=true->(Eb xs (S6 k)).isSome=true):=by
 unfold B9 Sm S6;by_cases h:k.base=[64]
 ·rw[if_pos h,G1];simp[h]
 rw[if_neg h];simp[h]
def Rq(S:List Ty):Prop:=(S.Pairwise fun t u=>t.name≠u.name)/\Fy S/\∀t∈S,Bs S (S.length+1) t=true
def Qdb(xs:List (Ty × Value))(k:Nat):Prop:=
 (((xs.take k).map (·.1)).Pairwise fun t u=>t.name≠u.name)/\∀x∈xs.take k,x.1.sort≠69->∀f∈x.1.fields,B9 (Af xs) f.kind
theorem Qd8(xs:List (Ty × Value)):Qdb xs 0:=⟨by simp,by simp⟩
theorem Qfn{xs:List (Ty × Value)}{k:Nat}(hk:k<xs.length)(h:Qdb xs k)(h1:∀x∈xs.take k,x.1.name≠xs[k].1.name)(h2:xs[k].1.sort≠69->∀f∈xs[k].1.fields,B9 (Af xs) f.kind):Qdb xs (k+1):=by
 unfold Qdb;rw[Bt xs k hk];refine⟨?_,?_⟩
 ·rw[az,List.pairwise_append];refine⟨h.1,by simp,?_⟩;intro a ha b hb;obtain⟨x,hx,rfl⟩:=ax.1 ha;simp at hb;subst hb;exact h1 x hx
 intro x hx;rcases ag.1 hx with hx|hx
 ·exact h.2 x hx
 simp at hx;subst hx;exact h2
theorem Qg5{xs:List (Ty × Value)}(h:Qdb xs xs.length):((Af xs).Pairwise fun t u=>t.name≠u.name)/\Fy (Af xs):=by
 unfold Qdb at h;rw[List.take_length]at h;refine⟨h.1,?_⟩;intro t ht hs f hf;obtain⟨x,hx,rfl⟩:=ax.1 ht;exact h.2 x hx hs f hf
theorem Qey{xs:List (Ty × Value)}{j k:Nat}(hjk:j<k)(hk:k<xs.length)(h:xs[j].1.name=xs[k].1.name):¬Rq (Af xs):=by
 rintro⟨hp,_⟩;have:=List.pairwise_iff_getElem.1 hp j k (by unfold Af;simp;omega) (by unfold Af;simp;omega) hjk;unfold Af at this;simp at this;exact this h
theorem Qf1{xs:List (Ty × Value)}{k j:Nat}(hk:k<xs.length)(hs:xs[k].1.sort≠69)(hj:j<xs[k].1.fields.length)(h:¬B9 (Af xs) xs[k].1.fields[j].kind):¬Rq (Af xs):=by
 rintro⟨_,hp,_⟩;exact h (hp xs[k].1 (ax.2 ⟨xs[k],af hk,rfl⟩) hs _ (af hj))
theorem Qg3{xs:List (Ty × Value)}{k:Nat}(hk:k<xs.length)(h:Bs (Af xs) (xs.length+1) xs[k].1=false):¬Rq (Af xs):=by
 rintro⟨_,_,hp⟩;have:=hp xs[k].1 (ax.2 ⟨xs[k],af hk,rfl⟩);rw[show (Af xs).length=xs.length by unfold Af;simp,h]at this;cases this
theorem Qc8(v:Value)(xs:List (Ty × Value))(w:World)(h:Ge w v xs)(hok:∀x∈xs,Ek x.1):
  Calls prog 116 #[v] w fun e w'=>(∃b,e=.returned (.bool b)/\(b=true↔Rq (Af xs)))/\Below w w w':=by
 have H:=Aa h;have Hok:=Aa hok;obtain⟨A,c,rfl,hxl,hrow,hfds⟩:=h;have Hrow:=Aa hrow;have Hfds:=Aa hfds;clear hok hrow hfds;go_enter func116,ntmps116;go_wp2_with fail;go_loopw [3] (fun i wr=>∃k:Nat,i=.int .i64 k/\k<=xs.length/\Hid (Qdb xs k)/\Hid (Below w w wr)) (fun i _=>xs.length - (intOf i).toNat)
 case atStart=>exact⟨0,rfl,ah _,Qd8 xs,At _ _⟩
 case round=>
  obtain⟨k,rfl,hk,hto,hbr⟩:=hrel;by_cases hlt:k<xs.length
  ·have k1:(0:Int)<=(k:Int):=aH;have k2:(k:Int)<(xs.length:Int):=aH;go_wp2_with fail;go_loopw [4] (fun i wq=>∃j:Nat,i=.int .i64 j/\j<=k/\(∃q,wq=wr.drewN q)/\Hid (∀x∈xs.take j,x.1.name≠xs[k].1.name)) (fun i _=>k - (intOf i).toNat)
   case atStart=>exact⟨0,rfl,ah _,⟨0,rfl⟩,by intro x hx;simp at hx⟩
   case round=>
    obtain⟨j,rfl,hj,⟨q,rfl⟩,hin⟩:=hrel;obtain⟨b,off,rfl,hbl,c0,c1,c2⟩:=Ge.at_ (Hrow.o.below hbr.o) hlt;by_cases hjl:j<k
    ·obtain⟨b',off',e',hbl',d0,d1,d2⟩:=Ge.at_ (Hrow.o.below hbr.o) (show j<xs.length by omega);simp only[ak,Addr.mk.injEq]at e';obtain⟨rfl,rfl,_⟩:=e';have Hnn:=Aa (fun h=>Qey (xs:=xs) hjl hlt h);have Hts:=Aa (Bt xs j (show j<xs.length by omega));have j1:(0:Int)<=(j:Int):=aH;have j2:(j:Int)<(xs.length:Int):=aH;have j3:(j:Int)<(k:Int):=aH;by_cases he:xs[j].1.name=xs[k].1.name
     ·have t1:(xs[j].1.name == xs[k].1.name)=true:=cP;have Hno:=Aa (Hnn.o he);clear he;go_wp2_with fail;go_quiet (fail)
      go_wp2_with fail;go_ret;exact⟨⟨false,rfl,by simp[Hno.o]⟩,below_drewN (below_drewN hbr.o q) _⟩
     have t1:(xs[j].1.name == xs[k].1.name)=false:=cP
     have Hin:=Aa (show ∀x∈xs.take (j+1),x.1.name≠xs[k].1.name by
      intro x hx;rw[Hts.o]at hx;rcases ag.1 hx with hx|hx
      ·exact hin.o x hx
      simp at hx;subst hx;exact he)
     clear he;go_wp2_with fail;go_quiet (fail)
     go_wp2
     go_roundw
     case rel=>exact⟨j+1,by go_num,by omega,⟨_,rfl⟩,Hin.o⟩
     case measure=>simp[intOf];omega
    ·obtain rfl:j=k:=aH;have j3:¬(j:Int)<(j:Int):=aH;have Hbk:=Aa (below_drewN hbr.o q);have Hnk:=Aa hin.o;have Hxk:=Aa (Hfds.o _ (af hlt));have Hokk:=Aa (Hok.o _ (af hlt));have Hnok:=Aa (fun(jj:Nat) (hs:xs[j].1.sort≠69) (hjj:jj<xs[j].1.fields.length) h=>Qf1 hlt hs hjj h);have Hsuc:=Aa (fun h2=>Qfn hlt hto.o Hnk.o h2);clear hin hbl c0 c1 c2 hto;go_wp2_with fail;go_loopw [5] (fun i wq=>∃m:Nat,i=.int .i64 m/\m<=(xs[j]).1.fields.length/\Hid (Below w w wq)/\Hid (∀f∈(xs[j]).1.fields.take m,B9 (Af xs) f.kind)) (fun i _=>(xs[j]).1.fields.length - (intOf i).toNat)
     case atStart=>exact⟨0,rfl,ah _,Hbk.o,by intro x hx;simp at hx⟩
     case round=>
      obtain⟨m,rfl,hm,hbq,hin⟩:=hrel;obtain⟨b',off',e',hbl',d0,d1,d2⟩:=Ge.at_ (Hrow.o.below hbq.o) hlt;simp only[ak,Addr.mk.injEq]at e';obtain⟨rfl,rfl,_⟩:=e';generalize xs[j]=x at d0 d1 d2 Hxk Hokk Hnok Hsuc hin hm ⊢;obtain⟨t,fv⟩:=x;simp only[]at d0 d1 d2 hm;obtain⟨A2,c2,e2,hfl,hr2⟩:=Hxk.o;simp only[]at e2;subst e2;have Hr2:=Aa hr2;clear hr2;have hsl:=t.sort.toNat_lt;have hfl':t.fields.length<=1000:=hfl;by_cases hml:m<t.fields.length
      ·have m1:(0:Int)<=(m:Int):=aH;have m2:(m:Int)<(t.fields.length:Int):=aH;by_cases hs:t.sort=69
       ·have t1:((t.sort.toNat:Int) != 69)=false:=by have:=Bq hs;simpa using this
        have t2:((t.sort.toNat:Int) == 69)=true:=Bq hs;have Hto:=Aa (Hsuc.o (fun h=>absurd hs h));clear hs;go_wp2_with fail;go_roundw
        case rel=>exact⟨j+1,by go_num,by omega,Hto.o,hbq.o⟩
        case measure=>simp[intOf];omega
       have t1:((t.sort.toNat:Int) != 69)=true:=by have:=Aq hs;simpa using this
       have t2:((t.sort.toNat:Int) == 69)=false:=Aq hs;obtain⟨bf,of,rfl,hbf,g0,g1,g2,g3⟩:=Dl.at_ (Hr2.o.below hbq.o) hml;have hfm:=af hml;have Hkd:=Aa ((Hokk.o.2.2.1.1 _ hfm).2.2.2.2 hs).1;have Hno:=Aa (fun h=>Hnok.o m hs hml h);have Hts:=Aa (Bt t.fields m hml);generalize t.fields[m]=f at g0 g1 g2 g3 Hkd Hno Hts;clear hs hfm;have Hrf:=Aa (Kn xs f.kind);have Hfind:=Aa (fun W (hW:Below w w W)=>Rt (.slice (some ⟨b,off,none⟩) xs.length c) xs (S6 f.kind) W (H.o.below hW));go_wp2_with fail;refine(Sz f.kind Hkd.o _).mono ?_;rintro e w4 ⟨rfl,rfl⟩;go_wp2_with fail;refine(P4 f.kind Hkd.o _).mono ?_;rintro e w4 ⟨rfl,rfl⟩;go_wp2_with fail;refine(Hfind.o _ hbq.o).mono ?_;rintro e w4 ⟨rfl,hb4⟩;have Hb4:=Aa (hbq.o.trans (hb4.mono hbq.o.size));clear hb4;cases hx:Eb xs (S6 f.kind)with
       |none=>
        unfold Rv Nl;rcases hir:Sm f.kind with _|_
        ·have hrk:B9 (Af xs) f.kind:=Hrf.o.2 (fun h=>by rw[hir]at h;cases h)
         have Hin:=Aa (show ∀f∈t.fields.take (m+1),B9 (Af xs) f.kind by
          intro g hg;rw[Hts.o]at hg;rcases ag.1 hg with hg|hg
          ·exact hin.o g hg
          simp at hg;subst hg;exact hrk)
         clear hrk;go_wp2_with fail;go_roundw
         case rel=>exact⟨m+1,by go_num,by omega,aY,Hin.o⟩
         case measure=>simp[intOf];omega
        have Hn:=Aa (Hno.o (fun h=>by have:=Hrf.o.1 h hir;rw[hx]at this;cases this));go_wp2_with fail;go_ret;exact⟨⟨false,rfl,by simp[Hn.o]⟩,aY⟩
       |some y=>
        have hrk:B9 (Af xs) f.kind:=Hrf.o.2 (fun _=>by rw[hx];rfl);obtain⟨ty,yv⟩:=y;obtain⟨A5,c5,e5,_⟩:=Hfds.o _ (Co hx).1;simp only[]at e5;subst e5;unfold Rv Pw;rcases hir:Sm f.kind with _|_
        ·skip
         have Hin:=Aa (show ∀f∈t.fields.take (m+1),B9 (Af xs) f.kind by
          intro g hg;rw[Hts.o]at hg;rcases ag.1 hg with hg|hg
          ·exact hin.o g hg
          simp at hg;subst hg;exact hrk)
         clear hrk;go_wp2_with fail;go_roundw
         case rel=>exact⟨m+1,by go_num,by omega,aY,Hin.o⟩
         case measure=>simp[intOf];omega
        skip
        have Hin:=Aa (show ∀f∈t.fields.take (m+1),B9 (Af xs) f.kind by
         intro g hg;rw[Hts.o]at hg;rcases ag.1 hg with hg|hg
         ·exact hin.o g hg
         simp at hg;subst hg;exact hrk)
        clear hrk;go_wp2_with fail;go_roundw
        case rel=>exact⟨m+1,by go_num,by omega,aY,Hin.o⟩
        case measure=>simp[intOf];omega
      ·obtain rfl:m=t.fields.length:=aH;have m2:¬(t.fields.length:Int)<(t.fields.length:Int):=aH;have Hto:=Aa (Hsuc.o (fun _ f hf=>hin.o f (by rw[List.take_length];exact hf)));go_wp2_with fail;go_roundw
       case rel=>exact⟨j+1,by go_num,by omega,Hto.o,hbq.o⟩
       case measure=>simp[intOf];omega
  ·obtain rfl:k=xs.length:=aH;have k2:¬(xs.length:Int)<(xs.length:Int):=aH;have Hall:=Aa (Qg5 hto.o);clear hto;go_wp2_with fail;go_loopw [10] (fun i wq=>∃j:Nat,i=.int .i64 j/\j<=xs.length/\Hid (Below w w wq)/\Hid (∀x∈xs.take j,Bs (Af xs) (xs.length+1) x.1=true)) (fun i _=>xs.length - (intOf i).toNat)
   case atStart=>exact⟨0,rfl,ah _,hbr.o,by intro x hx;simp at hx⟩
   case round=>
    obtain⟨j,rfl,hj,hbq,hin⟩:=hrel;by_cases hjl:j<xs.length
    ·obtain⟨b,off,rfl,hbl,d0,d1,d2⟩:=Ge.at_ (Hrow.o.below hbq.o) hjl;have Hts:=Aa (Bt xs j hjl);have Hno:=Aa (fun h=>Qg3 (xs:=xs) hjl h);have Hokj:=Aa (Hok.o _ (af hjl));have hxj:=(Hfds.o _ (af hjl)).below hbq.o;generalize xs[j]=x at d0 d1 d2 Hts Hno Hokj hxj;obtain⟨t,fv⟩:=x;simp only[]at d0 d1 d2 hxj;have Hxj:=Aa hxj;obtain⟨A2,c2,rfl,_⟩:=hxj;have j1:(0:Int)<=(j:Int):=aH;have j2:(j:Int)<(xs.length:Int):=aH;have He:=Aa (fun W (hW:Below w w W) (hX:Dl W (.slice A2 t.fields.length c2) t.fields)=>Qew (.slice (some ⟨b,off,none⟩) xs.length c) (.slice A2 t.fields.length c2) xs t W (H.o.below hW) Hokj.o hX Hok.o);go_wp2_with fail;refine(He.o _ hbq.o Hxj.o).mono ?_;rintro e w4 ⟨rfl,hb4⟩;have Hb4:=Aa (hbq.o.trans (hb4.mono hbq.o.size));clear hb4;rcases Bool.eq_false_or_eq_true (Bs (Af xs) (xs.length+1) t)with he|he
     ·have Hin:=Aa (show ∀x∈xs.take (j+1),Bs (Af xs) (xs.length+1) x.1=true by
       intro x hx;rw[Hts.o]at hx;rcases ag.1 hx with hx|hx
       ·exact hin.o x hx
       simp at hx;subst hx;exact he)
      rw[he];clear he;go_wp2_with fail;go_roundw
      case rel=>exact⟨j+1,by go_num,by omega,Hb4.o,Hin.o⟩
      case measure=>simp[intOf];omega
     have Hn:=Aa (Hno.o he);rw[he];clear he;go_wp2_with fail;go_ret;exact⟨⟨false,rfl,by simp[Hn.o]⟩,Hb4.o⟩
    ·obtain rfl:j=xs.length:=aH
     have Hfin:=Aa (show Rq (Af xs)from⟨Hall.o.1,Hall.o.2,fun t ht=>by
      obtain⟨x,hx,rfl⟩:=ax.1 ht;rw[show (Af xs).length=xs.length by unfold Af;simp];exact hin.o x (by rw[List.take_length];exact hx)⟩)
     clear hin;go_wp2_with fail;go_ret;exact⟨⟨true,rfl,by simp[Hfin.o]⟩,hbq.o⟩
theorem Qfa{w:World}{b1 b2 k1 k2 n1 n2:Nat}{e1 e2:TypeId}{v1 v2:Value}{xs ys:List Value}(h1:w.ownsRow b1 e1 k1 v1 n1 xs)(h2:w.ownsRow b2 e2 k2 v2 n2 ys)(hne:e1≠e2):v1.ownBlock=none\/v1.ownBlock≠v2.ownBlock:=by
 rcases h1.2 with⟨rfl,_⟩|⟨g,cap,cur,rfl,_,hh,_⟩
 ·exact .inl rfl
 rcases h2.2 with⟨rfl,_⟩|⟨g',cap',cur',rfl,_,hh',_⟩
 ·exact .inr eW
 refine .inr ?_;simp only[Value.ownBlock,ne_eq,ak];rintro rfl;rw[hh]at hh';simp only[ak,Obj.cells.injEq]at hh';exact hne hh'.2.1
section
variable {P:Program}
theorem Qbu(w:World){ops:Array Oper}{rest:List Oper}{o:Oper}{a:Act}{Q:Exit->Act->World->Prop}(hgd:o.guard=none)(s x:Operand)(t:TypeId)
  (ho:o.op=.call {callee:=.builtin .append,args:=#[s,x],argTypes:=#[t,t]})
  (base:Nat) (e:TypeId) (z:Value) (k bytes:Nat) (ht:P.underlying t=some (.slice e)) (hinfo:(P.info? e).map (fun i=>(i.zero,i.size,i.bytes))=some (some z,k,bytes))
  (hzs:z.cells.size=k) (hk:0<k) (W:World) (us:List Value) (hul:us.length=k) (hw:w=W.alloc (.cells us.toArray e)) (hu:∀u∈us,u.oneCell'=true) (v:Value) (n:Nat) (xs:List Value) (hs:a.eval s=v) (hx:a.eval x=.slice (W,0) 1 1)
  (hown:W.ownsRow base e k v n xs)
  (h63:n+1<=maxLen) (hbytes:(n+1)*bytes<=140737488355328) (hbase:base<=W.heap.size)
  (h:∀v' w',w'.ownsRow base e k v' (n+1) (xs++us)->Below base W w'->(W.alloc (.cells us.toArray e)).grownBy w' v.ownBlock->wpList P ops Q rest (a.put o.dst v') w'):wpList P ops Q (o::rest) a w:=by
 subst hw;obtain⟨i0,hi,hz0,hz1,hz2⟩:=info_parts hinfo;refine wpList_append_own _ hgd s x t ho base e i0 z k bytes ht hi hz0 hz1 hz2 hzs hk v n xs hs (hown.alloc _) ⟨W.heap.size,0,none⟩ 1 1 us hx aH ?_ hu h63 hbytes ?_ ?_
 ·exact gZ
 ·exact iy
 intro v' w' h1 h2 _;exact h v' w' h1 (((At base W).alloc hbase _).grown h2 aN (fun k hk=>(hown.lt k hk).1)) h2
end
def Kg(w:World)(base:Nat)(xs:List (Ty × Value)):Prop:=∀x∈xs,w.ownsRow base 94 4 x.2 x.1.fields.length (x.1.fields.flatMap Ta)/\Ek x.1
theorem Kg.below{w w':World}{base:Nat}{xs:List (Ty × Value)}(h:Kg w base xs)(hb:Below w w w'):Kg w' base xs:=fun x hx=>⟨Bl (h x hx).1 hb,(h x hx).2⟩
theorem Kg.grown{w w':World}{base b2 k n:Nat}{xs:List (Ty × Value)}{v:Value}{ys:List Value}{e:TypeId}(h:Kg w base xs)(hv:w.ownsRow b2 e k v n ys)(hne:94≠e)(hg:w.grownBy w' v.ownBlock):Kg w' base xs:=
 fun x hx=>⟨(h x hx).1.kept hg (Qfa (h x hx).1 hv hne),(h x hx).2⟩
theorem Kg.fds{w:World}{base:Nat}{xs:List (Ty × Value)}(h:Kg w base xs):∀x∈xs,Dl w x.2 x.1.fields:=fun x hx=>by
 obtain⟨h1,h2⟩:=h x hx;have hl:=h2.2.2.2.1;obtain⟨A,c,e,hr⟩:=Bj.ownK h1 bh;exact⟨A,c,e,by omega,hr⟩
theorem Ge.own{w:World}{base:Nat}{v:Value}{xs:List (Ty × Value)}(h:w.ownsRow base 90 3 v xs.length (xs.flatMap stc))(hl:xs.length<=1000)(ht:Kg w base xs):Ge w v xs:=by
 obtain⟨A,c,e,hr⟩:=Bj.ownK h bh;exact⟨A,c,e,hl,hr,ht.fds⟩
theorem Qby{L:List (List UInt8)}{k:Nat}(hk:k<L.length){S:List Ty}(h:E4 L=(E4 (L.drop k)).map (S ++ ·)):
  E4 L=(match C9 L[k]with|none=>none|some t=>(E4 (L.drop (k+1))).map ((S++[t]) ++ ·)):=by
 rw[h,List.drop_eq_getElem_cons hk,E4,Qas];cases Eh L[k]with
 |none=>rfl
 |some t=>
  simp only;cases E4 (L.drop (k+1))with
  |none=>rfl
  |some r=>simp
theorem Jq{s:List UInt8}(h:400<s.length\/M9 s=none):Bz s=none:=by
 cases hs:Bz s with
 |none=>rfl
 |some S=>
  have:=Pc.1 hs;rcases h with h|h
  ·omega
  rw[h]at this;exact absurd this.2.1 aM
theorem Xm{s:List UInt8}{S:List Ty}(h4:s.length<=400)(h:M9 s=some S)(b:Bool)(hb:b=true↔Rq S):Bz s=if b=true then some S else none:=by
 cases b with
 |true=>
  rw[if_pos rfl];exact Pc.2 ⟨h4,h,hb.1 rfl⟩
 |false=>
  rw[if_neg aL];cases hs:Bz s with
  |none=>rfl
  |some T=>
   have:=Pc.1 hs;rw[h]at this;obtain⟨_,e,hv⟩:=this;simp only[ak]at e;subst e;exact absurd (hb.2 hv) aL
def Jj(o:Option (List Ty))(w:World)(e:Ending)(w':World):Prop:=
 (match o with
  |some S=>∃v xs,e=.returned (.tuple #[v,.bool true])/\Af xs=S/\Ge w' v xs
  |none=>∃A n c,e=.returned (.tuple #[.slice A n c,.bool false]))/\Below w w w'
theorem Jj.no{w w':World}{e:Ending}{o:Option (List Ty)}(ho:o=none){A:Option Addr}{n c:Nat}(he:e=.returned (.tuple #[.slice A n c,.bool false]))(hb:Below w w w'):Jj o w e w':=by
 rw[ho];exact⟨⟨A,n,c,he⟩,hb⟩
theorem Jj.yes{w w':World}{e:Ending}{o:Option (List Ty)}{v:Value}{xs:List (Ty × Value)}(ho:o=some (Af xs))(he:e=.returned (.tuple #[v,.bool true]))(hs:Ge w' v xs)(hb:Below w w w'):Jj o w e w':=by
 rw[ho];exact⟨⟨v,xs,he,rfl,hs⟩,hb⟩
theorem My{w:World}{base:Nat}{v:Value}{ls:List (List UInt8)}(h:w.ownsRow base 9 1 v ls.length (Ah ls))(hne:ls≠[]):
  ∃g c,v=.slice (some ⟨g,0,none⟩) ls.length c/\base<=g/\g<w.heap.size/\∀j (hj:j<ls.length),w.cell? ⟨g,j,none⟩=some (.string ⟨ls[j].toArray⟩):=by
 rcases h.2 with⟨_,h0⟩|⟨g,cap,cur,rfl,hb,hh,_⟩
 ·cases ls with
  |nil=>exact absurd rfl hne
  |cons=>simp at h0
 refine⟨g,cap,rfl,hb,(h.lt g rfl).2,fun j hj=>?_⟩;have:=h.cells (g:=g) rfl j (.string ⟨ls[j].toArray⟩) (by simp[Ah,hj]);rwa [Qd0]at this
theorem Qba{s:List UInt8}(h:9<(Ag 10 s).length):M9 s=none:=if_pos (.inl h)
theorem Qbn{s:List UInt8}(h:(Ag 10 s).getLast?≠some []):M9 s=none:=if_pos (.inr h)
theorem Qem{s:List UInt8}(h:¬9<(Ag 10 s).length)(h2:(Ag 10 s).getLast?=some []):M9 s=E4 (Ag 10 s).dropLast:=if_neg (by rintro(h3|h3)<;>contradiction)
theorem Ri(s:List UInt8)(w:World)(hs:s.length<=4000000)(h:400<s.length\/9<(Ag 10 s).length\/(Ag 10 s).getLast?≠some []):
  Calls prog 66 #[s] w (Jj (Bz s) w):=by
 have HF:=Aa (show Bz s=none by
  rcases h with h|h|h
  ·exact Jq (.inl h)
  ·exact Jq (.inr (Qba h))
  exact Jq (.inr (Qbn h)))
 have Hcut:=Aa (fun W=>Cg s 10 10 rfl W hs);have hne:=D7 10 s;have hle:=Gt 10 s;generalize Ag 10 s=L at h Hcut hne hle;go_enter func66,ntmps66;go_wp2_with fail;refine(Hcut.o _).mono ?_;rintro e w1 ⟨v,rfl,ho,hb⟩;obtain⟨g,c,rfl,hg1,hg2,hcells⟩:=My ho hne;have hpos:0<L.length:=List.length_pos_iff.2 hne;have Hb:=Aa hb;have k1:(0:Int)<=(L.length:Int) - 1:=aH;have k2:(L.length:Int) - 1<(L.length:Int):=aH;have k3:((L.length:Int) - 1).toNat=L.length - 1:=aH;by_cases h1:400<s.length
 ·have q1:(400:Int)<(s.length:Int):=aH;clear h hcells ho hb;go_wp2_with fail;refine aF (v:=.tuple #[.slice none 0 0,.bool false]) (by simp[results,results66,go_sem]) rfl ?_;exact Jj.no HF.o rfl Hb.o
 have q1:¬(400:Int)<(s.length:Int):=aH;by_cases h2:9<L.length
 ·have q2:(9:Int)<(L.length:Int):=aH;clear h hcells ho hb;go_wp2_with fail;refine aF (v:=.tuple #[.slice none 0 0,.bool false]) (by simp[results,results66,go_sem]) rfl ?_;exact Jj.no HF.o rfl Hb.o
 have q2:¬(9:Int)<(L.length:Int):=aH;have h3:L.getLast?≠some []:=by rcases h with h|h|h<;>first|exact h|exact absurd h h1|exact absurd h h2
 have cl:=hcells (L.length - 1) aH;have he:¬(L[L.length - 1]=[]):=by
  intro e;apply h3;rw[List.getLast?_eq_getElem?,List.getElem?_eq_getElem aH,e]
 have he':(L[L.length - 1] == [])=false:=cP;clear h hcells ho hb h3;generalize L[L.length - 1]=x at cl he he';go_wp2_with fail;refine aF (v:=.tuple #[.slice none 0 0,.bool false]) (by simp[results,results66,go_sem]) rfl ?_;exact Jj.no HF.o rfl Hb.o
def Xj(w:World)(v:Value)(l:List Cq):Prop:=
 ∃g c,v=.slice (some ⟨g,0,none⟩) l.length c/\g<w.heap.size/\l.length<=c/\c<=maxLen/\∀j (hj:j<l.length),w.cell? ⟨g,j,none⟩=some (.string ⟨l[j].toArray⟩)
theorem Xj.below{w w':World}{v:Value}{l:List Cq}(h:Xj w v l)(hb:Below w w w'):Xj w' v l:=by
 obtain⟨g,c,rfl,hg,h1,h2,hc⟩:=h;exact⟨g,c,rfl,ad hg hb.size,h1,h2,fun j hj=>(hb.cell (p:=⟨g,j,none⟩) hg).trans (hc j hj)⟩
theorem Xj.own{w:World}{base:Nat}{v:Value}{n:Nat}{l:List Cq}(h:w.ownsRow base 9 1 v n (Ah l))(hne:l≠[]):Xj w v l:=by
 obtain rfl:n=l.length:=by have:=h.1;simp[Ah]at this;omega
 rcases h.2 with⟨_,h0⟩|⟨g,cap,cur,rfl,hb,hh,hnc,hcm,_⟩
 ·cases l with
  |nil=>exact absurd rfl hne
  |cons=>simp at h0
 refine⟨g,cap,rfl,(h.lt g rfl).2,hnc,hcm,fun j hj=>?_⟩;have:=h.cells (g:=g) rfl j (.string ⟨l[j].toArray⟩) (by simp[Ah,hj]);rwa [Qd0]at this
theorem Qj8(p:Cq->Bool):∀(l:List Cq),(∀(j:Nat) (hj:j<l.length),j<(l.takeWhile p).length->p l[j]=true)/\(∀(h:(l.takeWhile p).length<l.length),p l[(l.takeWhile p).length]=false) /\
  l.takeWhile p=l.take (l.takeWhile p).length/\l.dropWhile p=l.drop (l.takeWhile p).length/\(l.takeWhile p).length<=l.length
 |[]=>aM
 |x::l=>by
  obtain⟨i1,i2,i3,i4,i5⟩:=Qj8 p l;by_cases h:p x=true
  ·simp only[List.takeWhile_cons,List.dropWhile_cons,h,if_true,List.length_cons];refine⟨?_,?_,?_,?_,by omega⟩
   ·intro j hj hlt;cases j with
    |zero=>simpa using h
    |succ j=>simpa using i1 j (by simpa using hj) (by simpa using hlt)
   ·intro hh;simpa using i2 (by simpa using hh)
   ·simpa using i3
   simpa using i4
  have h':p x=false:=aS;simp[h']
theorem Ge.fds{w:World}{v:Value}{xs:List (Ty × Value)}(h:Ge w v xs){x:Ty × Value}(hx:x∈xs):Dl w x.2 x.1.fields:=by
 obtain⟨_,_,_,_,_,h⟩:=h;exact h x hx
theorem N8{c d:UInt8}(h:c≠d):((c.toNat:Int) != (d.toNat:Int))=true:=by
 rw[bne_iff_ne];intro e;exact h (UInt8.toNat_inj.1 aH)
theorem Ky{c d:UInt8}(h:c=d):((c.toNat:Int) != (d.toNat:Int))=false:=by subst h;simp
theorem Qdc(p:UInt8->Bool):∀(s:List UInt8) (i:Nat) (hi:i<s.length),(i<(s.takeWhile p).length->p s[i]=true)/\(i=(s.takeWhile p).length->p s[i]=false)
 |[],i,hi=>by simp at hi
 |x::s,0,hi=>by
  by_cases h:p x=true
  ·simp[h]
  simp[h]
 |x::s,i+1,hi=>by
  have ih:=Qdc p s i (by simpa using hi);by_cases h:p x=true
  ·rw[List.takeWhile_cons_of_pos h];simpa using ih
  rw[List.takeWhile_cons_of_neg h];simp
theorem Qs(p:UInt8->Bool)(s:List UInt8):s.take (s.takeWhile p).length=s.takeWhile p/\s.drop (s.takeWhile p).length=s.dropWhile p/\(s.takeWhile p).length<=s.length:=by
 have e:s.takeWhile p++s.dropWhile p=s:=List.takeWhile_append_dropWhile;have h1:(s.takeWhile p++s.dropWhile p).take (s.takeWhile p).length=s.takeWhile p:=List.take_left;have h2:(s.takeWhile p++s.dropWhile p).drop (s.takeWhile p).length=s.dropWhile p:=List.drop_left;rw[e]at h1 h2;have h3:=congrArg List.length e;rw[ai]at h3;exact⟨h1,h2,by omega⟩
theorem S4(s:List UInt8)(w:World)(hs:s.length<=4000000):
  Calls prog 132 #[s] w fun e w'=>e=.returned (.int .i64 ((s.takeWhile Ba).length:Int))/\w=w':=by
 have HT:=Aa (Qdc Ba s);have hle:=(Qs Ba s).2.2;generalize hn:(s.takeWhile Ba).length=n at *;clear hn;go_enter func132,ntmps132;go_wp2_with fail;go_loop [3] (fun i=>∃k:Nat,i=.int .i64 k/\k<=n) (fun i=>n - (intOf i).toNat)
 case atStart=>exact⟨0,rfl,ah _⟩
 case round=>
  obtain⟨k,rfl,hk⟩:=hrel;by_cases hlt:k<s.length
  ·obtain⟨q1,q2⟩:=HT.o k hlt;have hc:=(s[k]).toNat_lt;by_cases hkn:k<n
   ·obtain⟨h3,h4⟩:=Dc.1 (q1 hkn);clear q1 q2;go_wp2_with fail;go_round
    case rel=>exact⟨k+1,by go_num,by omega⟩
    case measure=>simp[intOf];omega
   have hd:=q2 aH;have hkn2:k=n:=aH;have h2:(s[k]).toNat<48\/(48<=(s[k]).toNat/\57<(s[k]).toNat):=by
    by_cases h3:48<=(s[k]).toNat
    ·refine .inr ⟨h3,?_⟩;by_cases h4:57<(s[k]).toNat
     ·exact h4
     have:=Dc.2 ⟨h3,by omega⟩;rw[hd]at this;cases this
    exact .inl aH
   clear q1 q2 hd;subst hkn2;rcases h2 with h2|⟨h2,h3⟩
   ·go_wp2_with fail;exact iK
   go_wp2_with fail;exact iK
  ·have hkn2:k=n:=aH;subst hkn2;go_wp2_with fail;exact iK
def Bm(S:List Ty)(k:Kd)(o:Option (Vl × List UInt8))(w:World)(e:Ending)(w':World):Prop:=
 (match o with
  |some x=>∃b,e=.returned (.tuple #[.pointer (some ⟨b,0,none⟩),x.2,.bool true])/\Gb (fun c=>w.heap.size<=c) w' b (B6 S k x.1)
  |none=>∃(q:Option Addr) (r:ByteArray),e=.returned (.tuple #[.pointer q,.string r,.bool false]))/\Below w w w'
theorem Bm.no{S:List Ty}{k:Kd}{o:Option (Vl × List UInt8)}{w w':World}{e:Ending}(ho:o=none){q:Option Addr}{r:ByteArray}(he:e=.returned (.tuple #[.pointer q,.string r,.bool false]))(hb:Below w w w'):Bm S k o w e w':=by
 rw[ho];exact⟨⟨q,r,he⟩,hb⟩
theorem Gb.leaf{P:Nat->Prop}{w:World}{kind text:List UInt8}{T:TypeId}(hP:P w.heap.size):Gb P (w.alloc (.cells #[kind,text,.slice none 0 0,.slice none 0 0] T)) w.heap.size (.mk kind text [] []):=
 .mk kind text [] none none 0 0 [] rfl aM hP aM aM aM aM ⟨rfl,ah _,fun h=>absurd h aM⟩ ⟨rfl,ah _,fun h=>absurd h aM⟩ aM aM (fun _ _ h=>absurd h aM) (fun _ _ h=>absurd h aM) aM
theorem Qis(s:List UInt8):Ql s=if Dn (s.takeWhile Ba) 999999 then(Ci (s.takeWhile Ba)).map (fun n=>(n,s.dropWhile Ba))else none:=by
 unfold Ql Dn;cases h:Ci (s.takeWhile Ba)with
 |none=>rfl
 |some n=>simp[(B0.1 h).1]
theorem Qg0(S:List Ty)(xv:Value)(hxv:xv.oneCell'=true)(s:List UInt8)(k:Kd)(hs0:k.signs=[])(hb:k.base=[110])(w:World)(hs:s.length<=4000000)(q:Option (Vl × List UInt8))(hq:q=match Ql s with|some (n,r)=>some (.mk 110 (Aw n) 0 [],r)|none=>none):
  Calls prog 93 #[.agg #[xv],s,.string ⟨#[110]⟩] w (Bm S k q w):=by
 have hkd:Bn k=[110]:=cj;have HQ:=Aa (hq.trans (by rw[Qis]));obtain⟨e1,e2,hle⟩:=Qs Ba s;have Hd:=Aa (fun W=>S4 s W hs);have Hn:=Aa (fun W=>Df (s.takeWhile Ba) 999999 W aH aL);have HD:=Aa (fun m (h:Ci (s.takeWhile Ba)=some m)=>(B0.1 h).2);have E1:=Aa e1;have E2:=Aa e2;have k1:((s.takeWhile Ba).length:Int)<=(s.length:Int):=aH;generalize (s.takeWhile Ba).length=n at *;generalize s.takeWhile Ba=tw at *;generalize s.dropWhile Ba=dw at *;have k2:(0:Int)<=(n:Int):=aH;have k3:((n:Int)).toNat=n:=aH;have hn8:n<=4000000:=aH;clear e1 e2 hs0 hb hq;go_enter func93,ntmps93;go_wp2_with fail;refine(Hd.o _).mono ?_;rintro e w1 ⟨rfl,rfl⟩;go_wp2_with fail;rw[E1.o];refine(Hn.o _).mono ?_;rintro e w2 ⟨m,hm,rfl,hdm,hb2⟩;have Hb2:=Aa (((At w.heap.size w).alloc (Ao _) (.cells #[xv] 73)).trans (hb2.mono aM));have Hdm:=Aa hdm;have hz2:=Hb2.o.size;have Hok:=Aa (show Dn tw 999999=(Ci tw).isSome by unfold Dn;cases h:Ci tw with|none=>rfl|some m=>simp[(B0.1 h).1]);generalize Dn tw 999999=ok at *;clear hb2 hdm;go_wp2_with fail;refine M4 [26,27,28,29,30,31,32,33,34,35,6,7,8]
  (fun ix v W=>match ix with|0=>v=.string ⟨#[110]⟩|1=>v=(s:List UInt8)|2=>v=(n:Int)|3=>v=(tw:List UInt8)|4=>v=.agg #[.string ⟨#[110]⟩,(tw:List UInt8),.slice none 0 0,.slice none 0 0]|5=>∃c,v=.pointer (some ⟨c,0,none⟩)|6=>v=(s:List UInt8)|7=>v=(n:Int)|8=>v=(dw:List UInt8)|9=>v=.bool ok|10=>∃c,v=.pointer (some ⟨c,0,none⟩)|11=>v=(dw:List UInt8)|12=>v=.bool ok|_=>True)
  (fun L U W=>(L 5=false->Below w2 w2 W)/\(L 5=true->∃W7,W=W7.alloc (.cells #[.string ⟨#[110]⟩,(tw:List UInt8),.slice none 0 0,.slice none 0 0] 87)/\Below w2 w2 W7/\U 5=.pointer (some ⟨W7.heap.size,0,none⟩))/\(L 10=true->U 10=U 5)) (⟨fun _=>(At _ _).drew,fun h=>Bool.noConfusion h,fun h=>Bool.noConfusion h⟩) ?_ ?_
 ·repeat (first|exact An.nil|(refine An.cons ?_ ?_;rotate_left))
  all_goals
   rintro L U W hL hpre HR Hdep K hK;first|(simp[Region.binds]at hpre;done)|simp[Region.binds]at hpre|clear hpre
  iterate 3
   ·exact fK
  ·go_simp;rw[E1.o];exact jy
  ·exact fK
  ·obtain⟨R1,R2,R3⟩:=HR.o;have hB:=R1 hL;have h10:L 10=false:=Bi Hdep.o 10 5 rfl hL;go_simp;exact hK W.heap.size _ _ ⟨_,rfl⟩ Ab ⟨fun h=>by simp at h,fun _=>⟨W,rfl,hB,rfl⟩,fun h=>absurd (h10.symm.trans aS) aL⟩ aJ
  iterate 2
   ·exact fK
  ·exact gH
  ·exact fK
  ·exact gh
  iterate 2
   ·exact fK
 rintro L U W hL hφ hR;have hφ10:U 10=U 5:=hR.2.2 (hL 10 aL);have e11:U 11=(dw:List UInt8):=hφ 11 aL;have e12:U 12=.bool ok:=hφ 12 aL;clear hφ;obtain⟨_,h2,h3⟩:=hR;obtain⟨W7,rfl,hb7,u5⟩:=h2 (hL 5 aL);rw[u5]at hφ10;clear hL h2;simp only[hφ10,e11,e12];clear hφ10;go_wp2_with fail;refine aF (v:=.tuple #[.pointer (some ⟨W7.heap.size,0,none⟩),dw,.bool ok]) (by simp[results,results93,go_sem]) rfl ?_;have hz7:=hb7.size;have Hb7:=((Hb2.o.trans (hb7.mono hz2)).alloc (ae hz2 hz7) (.cells #[.string ⟨#[110]⟩,tw,.slice none 0 0,.slice none 0 0] 87))
 have HQ:=HQ.o;cases ok with
 |false=>exact Bm.no HQ rfl Hb7
 |true=>
  cases hd:Ci tw with
  |none=>rw[hd]at HQ;have:=Hok.o;rw[hd]at this;cases this
  |some m'=>
   rw[hd]at HQ;simp only[if_true,Option.map_some]at HQ;rw[HQ];refine⟨⟨W7.heap.size,rfl,?_⟩,Hb7⟩;rw[Z5,hkd,<-HD.o m' hd];exact jz
def Nm(c:UInt8):Bool:=c != 39
def Mu(s:List UInt8):Nat:=min (((s.drop 1).takeWhile Nm).length+2) s.length
theorem Qh5(r:List UInt8):(r.takeWhile Nm=r/\∀x∈r,x≠39)\/∃q,r=r.takeWhile Nm++39::q:=by
 induction r with
 |nil=>exact .inl ⟨rfl,by simp⟩
 |cons x r ih=>
  by_cases hx:Nm x=true
  ·rw[List.takeWhile_cons_of_pos hx];rcases ih with⟨h1,h2⟩|⟨q,h⟩
   ·refine .inl ⟨by rw[h1],fun y hy=>?_⟩;rcases aA.1 hy with rfl|hy
    ·simpa [Nm]using hx
    exact h2 y hy
   exact .inr ⟨q,by rw[av,<-h]⟩
  rw[List.takeWhile_cons_of_neg hx];have:x=39:=by simpa [Nm]using hx
  subst this;exact .inr ⟨r,rfl⟩
theorem Qjp(c:UInt8)(r:List UInt8):(Ff ((c::r).take (Mu (c::r)))=false/\Mx (c::r)=none) \/
  ∃x q,Mx (c::r)=some (x,q)/\Ff ((c::r).take (Mu (c::r)))=true/\(c::r).take (Mu (c::r))=39::(x++[39])/\(c::r).drop (Mu (c::r))=q:=by
 rcases Qh5 r with⟨h1,h2⟩|⟨q,h⟩
 ·left;have e:Mu (c::r)=(c::r).length:=by unfold Mu;rw[show (c::r).drop 1=r from rfl,h1];simp
  rw[e,List.take_length];have hd:Ap 39 (r.dropWhile Cb)=none:=by
   cases hc:r.dropWhile Cb with
   |nil=>rfl
   |cons x z=>
    have hx:x∈r:=(List.dropWhile_sublist _).subset (by rw[hc];simp);simp[Ap,h2 x hx]
  constructor
  ·unfold Ff;by_cases h0:r=[]
   ·subst h0;simp
   have hl:(c::r).getLast?=some (r.getLast h0):=by rw[List.getLast?_cons,List.getLast?_eq_some_getLast h0];rfl
   have:=h2 _ (List.getLast_mem h0);rw[hl];simp[this]
  unfold Mx;by_cases hc:c=39
  ·subst hc;rw[show Ap 39 (39::r)=some r by simp[Ap]];simp only;rw[hd]
  simp[Ap,hc]
 generalize htw:r.takeWhile Nm=tw at *;have hno:∀x∈tw,Nm x=true:=fun x hx=>by rw[<-htw]at hx;exact(List.all_eq_true.1 (List.all_takeWhile)) x hx
 have e:Mu (c::r)=tw.length+2:=by
  unfold Mu;rw[show (c::r).drop 1=r from rfl,htw];have:(c::r).length=tw.length+1+q.length+1:=by rw[h];simp;omega
  omega
 have et:(c::r).take (tw.length+2)=c::(tw++[39]):=by
  rw[List.take_succ_cons,h,List.take_append,au aH];simp
 have ed:(c::r).drop (tw.length+2)=q:=by
  rw[List.drop_succ_cons,h,List.drop_append,List.drop_of_length_le aH];simp
 have eq:Ff (c::(tw++[39]))=(decide (c=39) && Db tw):=by
  unfold Ff;have hl:(c::(tw++[39])).getLast?=some 39:=by rw[<-av,List.getLast?_append];rfl
  rw[hl];simp
 rw[e,et,ed,eq];by_cases hc:c=39
 ·subst hc;by_cases hall:tw.all Cb=true
  ·have ha:=List.all_eq_true.1 hall;have t1:r.takeWhile Cb=tw:=by rw[h,List.takeWhile_append_of_pos ha];simp[Cb,H7,Ba]
   have t2:r.dropWhile Cb=39::q:=by rw[h,List.dropWhile_append_of_pos ha];simp[Cb,H7,Ba]
   by_cases h12:tw.length<=12
   ·right;exact⟨tw,q,by simp[Mx,Ap,t1,t2,h12],by simp[Db,h12,hall],rfl,rfl⟩
   left;exact⟨by simp[Db,h12],by simp[Mx,Ap,t1,t2,h12]⟩
  left;refine⟨by simp[Db,hall],?_⟩;have:Ap 39 (r.dropWhile Cb)=none:=by
   rw[h];clear htw h e et ed eq;induction tw with
   |nil=>simp at hall
   |cons x tw ih=>
    by_cases hx:Cb x=true
    ·rw[av,List.dropWhile_cons_of_pos hx];exact ih (fun y hy=>hno y (by simp[hy])) (by simpa [hx]using hall)
    rw[av,List.dropWhile_cons_of_neg hx];have:=hno x aM;simp[Nm]at this;simp[Ap,this]
  unfold Mx;rw[show Ap 39 (39::r)=some r by simp[Ap]];simp only;rw[this]
 left;exact⟨by simp[hc],by simp[Mx,Ap,hc]⟩
theorem Qhs(S:List Ty)(xv:Value)(hxv:xv.oneCell'=true)(s:List UInt8)(k:Kd)(hs0:k.signs=[])(hb:k.base=[116])(w:World)(hs:s.length<=4000000)(hne:s≠[])(q:Option (Vl × List UInt8))(hq:q=match Mx s with|some (x,r)=>some (.mk 116 x 0 [],r)|none=>none):
  Calls prog 93 #[.agg #[xv],s,.string ⟨#[116]⟩] w (Bm S k q w):=by
 have hkd:Bn k=[116]:=cj;have HQ:=Aa hq
 have Hor:=Aa (show (Ff (s.take (Mu s))=false/\Mx s=none)\/∃x q,Mx s=some (x,q)/\Ff (s.take (Mu s))=true/\s.take (Mu s)=39::(x++[39])/\s.drop (Mu s)=q by
  cases s with
  |nil=>exact absurd rfl hne
  |cons c r=>exact Qjp c r)
 have hz:1<=s.length:=by cases s with|nil=>exact absurd rfl hne|cons c r=>simp
 have HT:=Aa (fun i (hi:i+1<s.length)=>(show (i<((s.drop 1).takeWhile Nm).length->s[i+1]≠39)/\(i=((s.drop 1).takeWhile Nm).length->s[i+1]=39)from by
  have h:=Qdc Nm (s.drop 1) i aN;simp only[List.getElem_drop,Nat.add_comm 1 i]at h;exact⟨fun h1=>by simpa [Nm]using h.1 h1,fun h1=>by simpa [Nm]using h.2 h1⟩))
 have hle:((s.drop 1).takeWhile Nm).length+1<=s.length:=by
  have:=(Qs Nm (s.drop 1)).2.2;rw[List.length_drop]at this;omega
 have hqd:Mu s=min (((s.drop 1).takeWhile Nm).length+2) s.length:=rfl;have Hn:=Aa (fun W=>Vd (s.take (Mu s)) W aN);generalize ((s.drop 1).takeWhile Nm).length=m at *;have k1:((Mu s:Nat):Int)<=(s.length:Int):=aH;have Hmin:Hid ((if ((m:Int)+1+1)<=(s.length:Int)then((m:Int)+1+1)else(s.length:Int))=((Mu s:Nat):Int)):=by
  unfold Hid;split<;>omega
 have k3:((Mu s:Nat):Int).toNat=Mu s:=aH;have k2:(0:Int)<=((Mu s:Nat):Int):=aH;generalize Mu s=n at *;generalize hnok:Ff (s.take n)=ok at *;have HI:∃tw dw,tw=s.take n/\dw=s.drop n:=⟨_,_,rfl,rfl⟩
 obtain⟨tw,dw,e1,e2⟩:=HI;rw[<-e1,<-e2]at Hor;rw[<-e1]at Hn hnok;have E1:=Aa e1.symm;have E2:=Aa e2.symm;have Hok:=Aa hnok;clear e1 e2 hs0 hb hq hqd hne hnok;go_enter func93,ntmps93;go_wp2_with fail;go_loop [9] (fun i=>∃j:Nat,i=.int .i64 ((j:Int)+1)/\j<=m) (fun i=>m+1 - (intOf i).toNat)
 case atStart=>exact⟨0,rfl,ah _⟩
 case round=>
  obtain⟨j,rfl,hj⟩:=hrel;by_cases hlt:j+1<s.length
  ·obtain⟨q1,q2⟩:=HT.o j hlt;have hc:=(s[j+1]).toNat_lt;by_cases hjm:j<m
   ·have h3:=q1 hjm;have h4:((s[j+1]).toNat:Int)≠39:=fun h=>h3 (by apply UInt8.toNat_inj.1;simpa using(by exact_mod_cast h:(s[j+1]).toNat=39));clear q1 q2 h3;go_wp2_with fail;go_round
    case rel=>exact⟨j+1,by go_num,by omega⟩
    case measure=>simp[intOf];omega
   have hjm2:j=m:=aH;have h4:((s[j+1]).toNat:Int)=39:=by rw[q2 hjm2];rfl
   clear q1 q2;subst hjm2;clear hjm HT hj hle;have e9:(j:Int)+1+1=(n:Int):=by rw[<-Hmin.o,if_pos aH]
   go_wp2_with fail;refine M4 [55,56,57,58,59,60,61,62,63,64,65,66,67,6,7,8]
    (fun ix v W=>match ix with|0=>v=.string ⟨#[116]⟩|1=>v=(s:List UInt8)|2=>v=(n:Int)|3=>v=.string ⟨(tw:List UInt8).toArray⟩|4=>v=.agg #[.string ⟨#[116]⟩,.string ⟨(tw:List UInt8).toArray⟩,.slice none 0 0,.slice none 0 0]|5=>∃c,v=.pointer (some ⟨c,0,none⟩)|6=>v=(s:List UInt8)|7=>v=(n:Int)|8=>v=.string ⟨(dw:List UInt8).toArray⟩|9=>v=(s:List UInt8)|10=>v=(n:Int)|11=>v=.string ⟨(tw:List UInt8).toArray⟩|12=>v=.bool ok|13=>∃c,v=.pointer (some ⟨c,0,none⟩)|14=>v=.string ⟨(dw:List UInt8).toArray⟩|15=>v=.bool ok|_=>True)
    (fun L U W=>(L 5=false->Below w w W)/\(L 5=true->∃W7,W=W7.alloc (.cells #[.string ⟨#[116]⟩,.string ⟨(tw:List UInt8).toArray⟩,.slice none 0 0,.slice none 0 0] 87)/\Below w w W7/\U 5=.pointer (some ⟨W7.heap.size,0,none⟩))/\(L 13=true->U 13=U 5)) (⟨fun _=>((At w.heap.size w).alloc (Ao _) _).drew,fun h=>Bool.noConfusion h,fun h=>Bool.noConfusion h⟩) ?_ ?_
   ·exact fR
   rintro L U W hL hφ hR;have hφ10:U 13=U 5:=hR.2.2 (hL 13 aL);have e11:U 14=.string ⟨(dw:List UInt8).toArray⟩:=hφ 14 aL;have e12:U 15=.bool ok:=hφ 15 aL;clear hφ;obtain⟨_,h2,h3⟩:=hR;obtain⟨W7,rfl,hb7,u5⟩:=h2 (hL 5 aL);rw[u5]at hφ10;clear hL h2;simp only[hφ10,e11,e12];clear hφ10;go_wp2_with fail;refine aF (v:=.tuple #[.pointer (some ⟨W7.heap.size,0,none⟩),.string ⟨dw.toArray⟩,.bool ok]) (by simp[results,results93,go_sem]) rfl ?_;have hz7:=hb7.size;have Hb7:=(hb7.alloc aH (.cells #[.string ⟨#[116]⟩,.string ⟨tw.toArray⟩,.slice none 0 0,.slice none 0 0] 87))
   have HQ:=HQ.o;rcases Hor.o with⟨o1,o2⟩|⟨x,q',o1,o2,o3,o4⟩
   ·exact iH
   rw[o1]at HQ;subst o2;rw[HQ];subst o4;refine⟨⟨W7.heap.size,rfl,?_⟩,Hb7⟩;exact jA
  ·have hjm2:j=m:=aH;subst hjm2;have hj3:(j:Int)<=5000000:=aH;have hj4:(0:Int)<=(j:Int):=aH;have hj5:¬((j:Int)+1+1<=(s.length:Int)):=aH;clear HT hj;have e9:(s.length:Int)=(n:Int):=by rw[<-Hmin.o,if_neg aH]
   go_wp2_with fail;refine M4 [55,56,57,58,59,60,61,62,63,64,65,66,67,6,7,8]
    (fun ix v W=>match ix with|0=>v=.string ⟨#[116]⟩|1=>v=(s:List UInt8)|2=>v=(n:Int)|3=>v=.string ⟨(tw:List UInt8).toArray⟩|4=>v=.agg #[.string ⟨#[116]⟩,.string ⟨(tw:List UInt8).toArray⟩,.slice none 0 0,.slice none 0 0]|5=>∃c,v=.pointer (some ⟨c,0,none⟩)|6=>v=(s:List UInt8)|7=>v=(n:Int)|8=>v=.string ⟨(dw:List UInt8).toArray⟩|9=>v=(s:List UInt8)|10=>v=(n:Int)|11=>v=.string ⟨(tw:List UInt8).toArray⟩|12=>v=.bool ok|13=>∃c,v=.pointer (some ⟨c,0,none⟩)|14=>v=.string ⟨(dw:List UInt8).toArray⟩|15=>v=.bool ok|_=>True)
    (fun L U W=>(L 5=false->Below w w W)/\(L 5=true->∃W7,W=W7.alloc (.cells #[.string ⟨#[116]⟩,.string ⟨(tw:List UInt8).toArray⟩,.slice none 0 0,.slice none 0 0] 87)/\Below w w W7/\U 5=.pointer (some ⟨W7.heap.size,0,none⟩))/\(L 13=true->U 13=U 5)) (⟨fun _=>((At w.heap.size w).alloc (Ao _) _).drew,fun h=>Bool.noConfusion h,fun h=>Bool.noConfusion h⟩) ?_ ?_
   ·exact fR
   rintro L U W hL hφ hR;have hφ10:U 13=U 5:=hR.2.2 (hL 13 aL);have e11:U 14=.string ⟨(dw:List UInt8).toArray⟩:=hφ 14 aL;have e12:U 15=.bool ok:=hφ 15 aL;clear hφ;obtain⟨_,h2,h3⟩:=hR;obtain⟨W7,rfl,hb7,u5⟩:=h2 (hL 5 aL);rw[u5]at hφ10;clear hL h2;simp only[hφ10,e11,e12];clear hφ10;go_wp2_with fail;refine aF (v:=.tuple #[.pointer (some ⟨W7.heap.size,0,none⟩),.string ⟨dw.toArray⟩,.bool ok]) (by simp[results,results93,go_sem]) rfl ?_;have hz7:=hb7.size;have Hb7:=(hb7.alloc aH (.cells #[.string ⟨#[116]⟩,.string ⟨tw.toArray⟩,.slice none 0 0,.slice none 0 0] 87))
   have HQ:=HQ.o;rcases Hor.o with⟨o1,o2⟩|⟨x,q',o1,o2,o3,o4⟩
   ·exact iH
   rw[o1]at HQ;subst o2;rw[HQ];subst o4;refine⟨⟨W7.heap.size,rfl,?_⟩,Hb7⟩;exact jA
theorem Qf:∀(p s:List UInt8),Fe p s=if s.take p.length=p then some (s.drop p.length)else none
 |[],s=>by simp[Fe]
 |c::p,[]=>by simp[Fe,Ap]
 |c::p,x::s=>by
  have ih:=Qf p s;unfold Fe;by_cases h:x=c
  ·subst h;simp only[Ap,if_true,List.length_cons,List.take_succ_cons,List.drop_succ_cons,List.cons.injEq,true_and];exact ih
  simp[Ap,h]
theorem Qf0(S:List Ty)(xv:Value)(hxv:xv.oneCell'=true)(s:List UInt8)(k:Kd)(hs0:k.signs=[])(hb:k.base=[102])(w:World)(hs:s.length<=4000000)(q:Option (Vl × List UInt8))(hq:q=match N0 s with|some (b,r)=>some (.mk 102 (if b then Ea else Ks) 0 [],r)|none=>none):
  Calls prog 93 #[.agg #[xv],s,.string ⟨#[102]⟩] w (Bm S k q w):=by
 have hkd:Bn k=[102]:=cj;have Hq:=Aa hq;have Hy:=Aa (Qf Ea s);have Hn:=Aa (Qf Ks s);clear hq hs0 hb;go_enter func93,ntmps93;go_wp2_with fail;go_loop [70] (fun i=>(i=.int .i64 0)\/(i=.int .i64 1/\¬s.take 3=Ea)\/(i=.int .i64 2/\¬s.take 3=Ea/\¬s.take 2=Ks)) (fun i=>3 - (intOf i).toNat)
 case atStart=>exact .inl rfl
 case round=>
  obtain rfl|⟨rfl,hny⟩|⟨rfl,hny,hnn⟩:=hrel
  ·by_cases hl:3<=s.length
   ·have hl2:(3:Int)<=(s.length:Int):=aH;by_cases ht:s.take 3=Ea
    ·have HQ:=@Aa (q=some (.mk 102 Ea 0 [],s.drop 3)) (by rw[Hq.o];unfold N0;rw[Hy.o,if_pos (show s.take Ea.length=Ea from ht)];rfl);generalize hdw:s.drop 3=dw at *;have E2:=Aa hdw;have tb:(s.take 3 == [121,101,115])=true:=by rw[ht];rfl
     clear Hq hdw ht;go_wp2_with fail;have HbW:=Aa (((At w.heap.size w).alloc (Ao _) (.cells #[xv] 73)).alloc aM (.cells #[.string ⟨#[121,101,115]⟩,.string ⟨#[110,111]⟩] 9));refine M4 [87,88,89,90,91,92,93,94,6,7,8]
      (fun ix v W=>match ix with|0=>v=.string ⟨#[102]⟩|1=>v=.string ⟨#[121,101,115]⟩|2=>v=.agg #[.string ⟨#[102]⟩,.string ⟨#[121,101,115]⟩,.slice none 0 0,.slice none 0 0]|3=>∃c,v=.pointer (some ⟨c,0,none⟩)|4=>v=(s:List UInt8)|5=>v=.string ⟨#[121,101,115]⟩|6=>v=.int .i64 3|7=>v=(dw:List UInt8)|8=>∃c,v=.pointer (some ⟨c,0,none⟩)|9=>v=(dw:List UInt8)|10=>v=.bool true|_=>True)
      (fun L U W=>(L 3=false->Below w w W)/\(L 3=true->∃W7,W=W7.alloc (.cells #[.string ⟨#[102]⟩,.string ⟨#[121,101,115]⟩,.slice none 0 0,.slice none 0 0] 87)/\Below w w W7/\U 3=.pointer (some ⟨W7.heap.size,0,none⟩))/\(L 8=true->U 8=U 3)) (⟨fun _=>HbW.o.drew,fun h=>Bool.noConfusion h,fun h=>Bool.noConfusion h⟩) ?_ ?_
     ·exact fY
     rintro L U W hL hφ hR;have hφ10:U 8=U 3:=hR.2.2 (hL 8 aL);have e11:U 9=(dw:List UInt8):=hφ 9 aL;have e12:U 10=.bool true:=hφ 10 aL;clear hφ;obtain⟨_,h2,h3⟩:=hR;obtain⟨W7,rfl,hb7,u5⟩:=h2 (hL 3 aL);rw[u5]at hφ10;clear hL h2;simp only[hφ10,e11,e12];clear hφ10;go_wp2_with fail;refine aF (v:=.tuple #[.pointer (some ⟨W7.heap.size,0,none⟩),dw,.bool true]) (by simp[results,results93,go_sem]) rfl ?_;have hz7:=hb7.size;have Hb7:=(hb7.alloc aH (.cells #[.string ⟨#[102]⟩,.string ⟨#[121,101,115]⟩,.slice none 0 0,.slice none 0 0] 87))
     rw[HQ.o];refine⟨⟨W7.heap.size,rfl,?_⟩,Hb7⟩;exact jB
    have tb:(s.take 3 == [121,101,115])=false:=by simpa [Ea,Ks]using ht
    go_wp2_with fail;go_round
    case rel=>exact .inr (.inl ⟨rfl,ht⟩)
    case measure=>simp[intOf]
   have hl2:¬((3:Int)<=(s.length:Int)):=aH;have ht:¬s.take 3=Ea:=fun h=>hl ev;go_wp2_with fail;go_round
   case rel=>exact .inr (.inl ⟨rfl,ht⟩)
   case measure=>simp[intOf]
  ·by_cases hl:2<=s.length
   ·have hl2:(2:Int)<=(s.length:Int):=aH;by_cases ht:s.take 2=Ks
    ·have HQ:=@Aa (q=some (.mk 102 Ks 0 [],s.drop 2)) (by rw[Hq.o];unfold N0;rw[Hy.o,if_neg (show ¬s.take Ea.length=Ea from hny),Hn.o,if_pos (show s.take Ks.length=Ks from ht)];rfl);generalize hdw:s.drop 2=dw at *;have E2:=Aa hdw;have tb:(s.take 2 == [110,111])=true:=by rw[ht];rfl
     clear Hq hdw ht;go_wp2_with fail;have HbW:=Aa (((At w.heap.size w).alloc (Ao _) (.cells #[xv] 73)).alloc aM (.cells #[.string ⟨#[121,101,115]⟩,.string ⟨#[110,111]⟩] 9));refine M4 [87,88,89,90,91,92,93,94,6,7,8]
      (fun ix v W=>match ix with|0=>v=.string ⟨#[102]⟩|1=>v=.string ⟨#[110,111]⟩|2=>v=.agg #[.string ⟨#[102]⟩,.string ⟨#[110,111]⟩,.slice none 0 0,.slice none 0 0]|3=>∃c,v=.pointer (some ⟨c,0,none⟩)|4=>v=(s:List UInt8)|5=>v=.string ⟨#[110,111]⟩|6=>v=.int .i64 2|7=>v=(dw:List UInt8)|8=>∃c,v=.pointer (some ⟨c,0,none⟩)|9=>v=(dw:List UInt8)|10=>v=.bool true|_=>True)
      (fun L U W=>(L 3=false->Below w w W)/\(L 3=true->∃W7,W=W7.alloc (.cells #[.string ⟨#[102]⟩,.string ⟨#[110,111]⟩,.slice none 0 0,.slice none 0 0] 87)/\Below w w W7/\U 3=.pointer (some ⟨W7.heap.size,0,none⟩))/\(L 8=true->U 8=U 3)) (⟨fun _=>HbW.o.drew,fun h=>Bool.noConfusion h,fun h=>Bool.noConfusion h⟩) ?_ ?_
     ·exact fY
     rintro L U W hL hφ hR;have hφ10:U 8=U 3:=hR.2.2 (hL 8 aL);have e11:U 9=(dw:List UInt8):=hφ 9 aL;have e12:U 10=.bool true:=hφ 10 aL;clear hφ;obtain⟨_,h2,h3⟩:=hR;obtain⟨W7,rfl,hb7,u5⟩:=h2 (hL 3 aL);rw[u5]at hφ10;clear hL h2;simp only[hφ10,e11,e12];clear hφ10;go_wp2_with fail;refine aF (v:=.tuple #[.pointer (some ⟨W7.heap.size,0,none⟩),dw,.bool true]) (by simp[results,results93,go_sem]) rfl ?_;have hz7:=hb7.size;have Hb7:=(hb7.alloc aH (.cells #[.string ⟨#[102]⟩,.string ⟨#[110,111]⟩,.slice none 0 0,.slice none 0 0] 87))
     rw[HQ.o];refine⟨⟨W7.heap.size,rfl,?_⟩,Hb7⟩;exact jB
    have tb:(s.take 2 == [110,111])=false:=by simpa [Ea,Ks]using ht
    go_wp2_with fail;go_round
    case rel=>exact .inr (.inr ⟨rfl,hny,ht⟩)
    case measure=>simp[intOf]
   have hl2:¬((2:Int)<=(s.length:Int)):=aH;have ht:¬s.take 2=Ks:=fun h=>hl ev;go_wp2_with fail;go_round
   case rel=>exact .inr (.inr ⟨rfl,hny,ht⟩)
   case measure=>simp[intOf]
  ·have HQ:=@Aa (q=none) (by rw[Hq.o];simp only[N0,Hy.o,Hn.o,if_neg (show ¬s.take Ea.length=Ea from hny),if_neg (show ¬s.take Ks.length=Ks from hnn)]);clear Hq;go_wp2_with fail;refine aF (v:=.tuple #[.pointer none,s,.bool false]) (by simp[results,results93,go_sem]) rfl ?_;exact Bm.no HQ.o rfl (((At w.heap.size w).alloc (Ao _) _).alloc aM _)
end
theorem Rr:(prog.info? 53).map (fun i=>(i.zero,i.size,i.bytes))=some (some (.pointer none),1,8):=aP
theorem Qhm:(prog.info? 3).map (fun i=>(i.zero,i.size,i.bytes))=some (some (.int .i64 0),1,8):=aP
theorem Tr{W:World}{base s1 s2 n1 n2:Nat}{e1 e2:TypeId}{v1 v2:Value}{xs ys:List Value}(h:W.ownsRow base e1 s1 v1 n1 xs)(k:W.ownsRow base e2 s2 v2 n2 ys)(hne:e1≠e2):v1.ownBlock=none\/v1.ownBlock≠v2.ownBlock:=by
 obtain⟨_,⟨rfl,_⟩|⟨g,cap,cur,rfl,_,h3,_⟩⟩:=h
 ·exact .inl rfl
 obtain⟨_,⟨rfl,_⟩|⟨g',cap',cur',rfl,_,k3,_⟩⟩:=k
 ·exact .inr eW
 refine .inr fun e=>?_;injection e with e;simp only at e;subst e;rw[h3]at k3;injection k3 with k3;injection k3 with _ k3;exact hne k3
theorem Md{base b:Nat}{v:Value}(h:∀k,v.ownBlock=some k->base<=k)(hb:b<base):v.ownBlock=none\/v.ownBlock≠some b:=by
 by_cases hr:v.ownBlock=none
 ·exact .inl hr
 exact .inr fun e=>by have:=h b e;omega
structure Eg(base B:Nat)(W:World)(h0 h1 tu tv ku kv:Value)(gs:List Nat)(xs:List (Nat × SV)):Prop where
 lt:B<W.heap.size
 bs:base<=W.heap.size
 hB:B<base
 bk:Qb W B
 c0:W.cell? (B,0)=some h0
 c1:W.cell? (B,1)=some h1
 c2:W.cell? (B,2)=some tu
 c3:W.cell? (B,3)=some ku
 tags:W.ownsRow base 3 1 tv gs.length (Dj gs)
 row:W.ownsRow base 53 1 kv xs.length (D9 (xs.map (·.1)))
 kids:∀x∈xs,Gb (fun c=>base<=c/\kv.ownBlock≠some c/\tv.ownBlock≠some c) W x.1 x.2
theorem Eg.after{base B:Nat}{W W':World}{h0 h1 tu tv ku kv:Value}{gs:List Nat}{xs:List (Nat × SV)}(h:Eg base B W h0 h1 tu tv ku kv gs xs)(hb:Below W W W'):Eg base B W' h0 h1 tu tv ku kv gs xs:=by
 obtain⟨hc,_,hz⟩:=By hb;exact⟨hz _ h.lt,ae h.bs hb.size,h.hB,h.bk.belowAt h.lt hb,(hc _ _ h.lt).trans h.c0,(hc _ _ h.lt).trans h.c1,(hc _ _ h.lt).trans h.c2,(hc _ _ h.lt).trans h.c3,Bl h.tags hb,Bl h.row hb,fun x hx=>(h.kids x hx).after hb⟩
theorem Eg.set2{base B:Nat}{W:World}{h0 h1 tu tv ku kv:Value}{gs:List Nat}{xs:List (Nat × SV)}(h:Eg base B W h0 h1 tu tv ku kv gs xs):Eg base B (W.setCell ⟨B,2,none⟩ tv) h0 h1 tv tv ku kv gs xs:=by
 have hg:=Am W B 2 tv;exact jC
theorem Eg.set3{base B:Nat}{W:World}{h0 h1 tu tv ku kv:Value}{gs:List Nat}{xs:List (Nat × SV)}(h:Eg base B W h0 h1 tu tv ku kv gs xs):Eg base B (W.setCell ⟨B,3,none⟩ kv) h0 h1 tu tv kv kv gs xs:=by
 have hg:=Am W B 3 kv;exact jC
theorem Eg.appK{base B:Nat}{W W':World}{h0 h1 tu tv ku kv kv':Value}{gs:List Nat}{xs:List (Nat × SV)}{x:Nat × SV}(h:Eg base B W h0 h1 tu tv ku kv gs xs)(hx:Gb (fun c=>base<=c/\kv.ownBlock≠some c/\tv.ownBlock≠some c) W x.1 x.2)
  (hown:W'.ownsRow base 53 1 kv' (xs.length+1) (D9 (xs.map (·.1))++[.pointer (some ⟨x.1,0,none⟩)])) (hg:W.grownBy W' kv.ownBlock) (hwh:kv'.ownBlock=kv.ownBlock\/∃k,kv'.ownBlock=some k/\W.heap.size<=k):Eg base B W' h0 h1 tu tv ku kv' gs (xs++[x]):=by
 have hn:some B≠kv.ownBlock:=fun e=>eO;refine⟨ad h.lt hg.size,ae h.bs hg.size,h.hB,h.bk.grown h.lt hg hn,hg.cell h.c0 hn,hg.cell h.c1 hn,hg.cell h.c2 hn,hg.cell h.c3 hn,h.tags.kept hg (Tr h.tags h.row aL),by simpa [D9]using hown,fun y hy=>?_⟩;have hy':Gb (fun c=>base<=c/\kv.ownBlock≠some c/\tv.ownBlock≠some c) W y.1 y.2:=by
  rcases ag.1 hy with hy|hy
  ·exact h.kids y hy
  rw[aq]at hy;subst hy;exact hx
 refine hy'.kept (fun b o v hb _ hv=>hg.cell hv fun e=>hb.2.1 e.symm) hg.size fun c hc hl=>⟨hc.1,?_,hc.2.2⟩
 rcases hwh with e|⟨k,e,hk⟩
 ·rw[e];exact hc.2.1
 exact jq
theorem Eg.appT{base B:Nat}{W W':World}{h0 h1 tu tv tv' ku kv:Value}{gs:List Nat}{xs:List (Nat × SV)}{g:Nat}(h:Eg base B W h0 h1 tu tv ku kv gs xs)
  (hown:W'.ownsRow base 3 1 tv' (gs.length+1) (Dj gs++[.int .i64 (g:Int)])) (hg:W.grownBy W' tv.ownBlock) (hwh:tv'.ownBlock=tv.ownBlock\/∃k,tv'.ownBlock=some k/\W.heap.size<=k):Eg base B W' h0 h1 tu tv' ku kv (gs++[g]) xs:=by
 have hn:some B≠tv.ownBlock:=fun e=>by have:=(h.tags.lt B e.symm).1;have:=h.hB;omega
 refine⟨ad h.lt hg.size,ae h.bs hg.size,h.hB,h.bk.grown h.lt hg hn,hg.cell h.c0 hn,hg.cell h.c1 hn,hg.cell h.c2 hn,hg.cell h.c3 hn,by simpa [Dj]using hown,h.row.kept hg (Tr h.row h.tags aL),fun y hy=>?_⟩;refine(h.kids y hy).kept (fun b o v hb _ hv=>hg.cell hv fun e=>hb.2.2 e.symm) hg.size fun c hc hl=>⟨hc.1,hc.2.1,?_⟩
 rcases hwh with e|⟨k,e,hk⟩
 ·rw[e];exact hc.2.2
 exact jq
theorem Qb5{w:World}{base k n m c:Nat}{e:TypeId}{A:Option Addr}{xs:List Value}(h:w.ownsRow base e k (.slice A m c) n xs):m=n:=by
 rcases h.2 with⟨e,h0⟩|⟨g,cap,cur,e,_⟩
 ·injection e with _ e1 e2;omega
 injection e with _ e1 e2
theorem Eg.push{base B n c:Nat}{W W':World}{A:Option Addr}{h0 h1 tu tv ku kv':Value}{gs:List Nat}{xs:List (Nat × SV)}{x:Nat × SV}(h:Eg base B W h0 h1 tu tv ku (.slice A n c) gs xs)(hx:Gb (fun c1=>base<=c1/\(Value.slice A n c).ownBlock≠some c1/\tv.ownBlock≠some c1) W x.1 x.2)
  (hown:W'.ownsRow base 53 1 kv' (xs.length+1) (D9 (xs.map (·.1))++[.pointer (some ⟨x.1,0,none⟩)])) (hg:W.grownBy W' (Value.slice A n c).ownBlock) (hwh:kv'.ownBlock=(Value.slice A n c).ownBlock\/∃k,kv'.ownBlock=some k/\W.heap.size<=k):
  ∃A6 c6,kv'=.slice A6 (xs++[x]).length c6/\Eg base B W' h0 h1 tu tv ku kv' gs (xs++[x])/\Below base W W':=by
 have hA:=h.appK hx hown hg hwh;have e:(xs++[x]).length=xs.length+1:=aM;rcases hown.2 with⟨e0,h0⟩|⟨g,cap,cur,e1,_⟩
 ·omega
 exact⟨some ⟨g,0,none⟩,cap,by rw[e,e1],hA,(At _ _).grown hg h.bs (fun k hk=>(h.row.lt k hk).1)⟩
theorem Eg.pushT{base B n c g:Nat}{W W':World}{A:Option Addr}{h0 h1 tu tv' ku kv:Value}{gs:List Nat}{xs:List (Nat × SV)}(h:Eg base B W h0 h1 tu (.slice A n c) ku kv gs xs)
  (hown:W'.ownsRow base 3 1 tv' (gs.length+1) (Dj gs++[.int .i64 (g:Int)])) (hg:W.grownBy W' (Value.slice A n c).ownBlock) (hwh:tv'.ownBlock=(Value.slice A n c).ownBlock\/∃k,tv'.ownBlock=some k/\W.heap.size<=k):
  ∃A6 c6,tv'=.slice A6 (gs++[g]).length c6/\Eg base B W' h0 h1 tu tv' ku kv (gs++[g]) xs/\Below base W W':=by
 have hA:=h.appT hown hg hwh;have e:(gs++[g]).length=gs.length+1:=aM;rcases hown.2 with⟨e0,h0⟩|⟨g9,cap,cur,e1,_⟩
 ·omega
 exact⟨some ⟨g9,0,none⟩,cap,by rw[e,e1],hA,(At _ _).grown hg h.bs (fun k hk=>(h.tags.lt k hk).1)⟩
theorem Qa9{w:World}{base n:Nat}{e:TypeId}{v:Value}{xs:List Value}(h:w.ownsRow base e 1 v n xs)(hx:xs.length=n)(hl:n<=1000):∃A c,v=.slice A n c/\Bj w A n xs/\∀g o,0<n->A=some ⟨g,o,none⟩->base<=g:=by
 have h':=h;rcases h.2 with⟨rfl,h0⟩|⟨g,cap,cur,rfl,hbg,hh,hnc,hcm,hcs,htk⟩
 ·subst h0;exact⟨none,0,rfl,⟨hx,ah _,fun hn=>absurd hn aL⟩,fun g o hn _=>absurd hn aL⟩
 refine⟨some ⟨g,0,none⟩,cap,rfl,⟨hx,by unfold maxLen;omega,fun hn=>⟨g,0,rfl,(h'.lt g rfl).2,fun j u hu=>?_⟩⟩,fun g' o _ e=>by injection e with e;injection e with e;subst e;exact hbg⟩;have:=h'.cells (g:=g) rfl j u hu;have e1:(⟨g,0,none⟩:Addr).add j=⟨g,0+j,none⟩:=bv;rwa [e1]at this
theorem Eg.done{base B:Nat}{W:World}{kind text:List UInt8}{tv kv:Value}{gs:List Nat}{xs:List (Nat × SV)}(h:Eg base B W kind text tv tv kv kv gs xs)(hg:gs.length<=1000)(hx:xs.length<=1000):Gb (fun c=>B<=c) W B (.mk kind text gs (xs.map (·.2))):=by
 obtain⟨A1,c1,rfl,r1,p1⟩:=Qa9 h.tags (by simp[Dj]) hg;obtain⟨A2,c2,rfl,r2,p2⟩:=Qa9 h.row (by simp[D9]) hx;have hB:=h.hB;exact .mk kind text gs A1 A2 c1 c2 xs rfl h.lt (Ao _) h.c0 h.c1 h.c2 h.c3 r1 r2 hg hx (fun g o hn e=>by have:=p1 g o hn e;omega) (fun g o hn e=>by have:=p2 g o hn e;omega) fun x hx=>(h.kids x hx).mono fun c hc _=>by have:=hc.1;omega
theorem Eg.new{W:World}{T:TypeId}(h0 h1:Value):Eg (W.heap.size+1) W.heap.size (W.alloc (.cells #[h0,h1,.slice none 0 0,.slice none 0 0] T)) h0 h1 (.slice none 0 0) (.slice none 0 0) (.slice none 0 0) (.slice none 0 0) [] []:=
 ⟨by simp,by simp,by omega,Qb.new _ _ _,by simp[go_sem],by simp[go_sem],by simp[go_sem],by simp[go_sem],World.ownsRow_nil _ _ _ _,World.ownsRow_nil _ _ _ _,by simp⟩
end Go.Proofs.YtpjijpcemejlnaaGreatDoor
