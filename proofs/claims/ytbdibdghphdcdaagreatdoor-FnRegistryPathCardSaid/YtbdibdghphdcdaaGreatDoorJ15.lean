/- Texts joined. Conditions: as each theorem names them. -/
import Derived.BigQuiet
import Derived.Sort.Walk0
import Derived.Test.YtbdibdghphdcdaaGreatDoorJ12
import Derived.Test.YtbdibdghphdcdaaGreatDoorJ13
import Derived.Test.YtbdibdghphdcdaaGreatDoorJ14
set_option maxRecDepth 100000
set_option maxHeartbeats 32000000
set_option linter.unusedVariables false
set_option linter.unusedSimpArgs false
namespace Go.Proofs.YtbdibdghphdcdaaGreatDoor
open Go.RowKit Go.Proofs.Tryz
theorem Qa2(s:List UInt8)(w:World)(hs:s.length<=1000):
  Calls prog 70 #[s] w (Ec (Dx s) w):=by
 rcases Gk 61 s with⟨hn,_⟩|⟨p,u,h,hp,_⟩
 ·exact Qgi s w hs hn
 cases p with
 |nil=>exact Qfh s u w hs h
 |cons c nm=>
  rcases Bool.eq_false_or_eq_true (Bh nm)with hnm|hnm
  ·by_cases hso:Eo c
   ·by_cases hu:u=[]
    ·rcases hso with rfl|rfl|rfl
     ·exact Qct s nm u w hs h hp hnm hu
     ·exact Qdk s nm u w hs h hp hnm hu
     exact Qcz s nm u w hs h hp hnm hu
    rcases hso with rfl|rfl|rfl
    ·exact sType_full82 s nm u w hs h hp hnm hu
    ·exact sType_full85 s nm u w hs h hp hnm hu
    exact sType_full69 s nm u w hs h hp hnm hu
   exact Qg5 s c nm u w hs h hp hnm hso
  exact Qg0 s c nm u w hs h hp hnm
section
attribute [local go_sem] Qo7 Qok Qoa Ql9 ByteArray.mk_append_mk
def X7(k:Kd):Bool:=decide (k.base=[64])
def Xx(k:Kd):List UInt8:=if k.base=[64]then k.name else[]
theorem Sx(k:Kd)(hk:Cq k)(w:World):
  Calls prog 43 #[.string ⟨(B6 k).toArray⟩] w fun e w'=>e=.returned (.tuple #[.string ⟨(Xx k).toArray⟩,.bool (X7 k)])/\w=w':=by
 obtain⟨_,hb,hl⟩:=hk;unfold B6 Xx X7;by_cases h:k.base=[64]
 ·rw[if_pos h,if_pos h,aD h];refine Qb6 k.name w ?_;rcases hb with⟨_,hn⟩|⟨h2,_⟩
  ·have:=(Dz.1 hn).2.1;omega
  rcases h2 with h2|h2|h2<;>· rw[h]at h2;exact absurd h2 aJ
 rw[if_neg h,if_neg h,aC h];rcases hb with⟨h2,_⟩|⟨h2,_⟩
 ·exact absurd h2 h
 rcases h2 with h2|h2|h2<;>· rw[h2];exact Qfg _ [] w aJ aK
theorem N3(k:Kd)(hk:Cq k)(w:World):
  Calls prog 44 #[.string ⟨(Be k).toArray⟩] w fun e w'=>e=.returned (.string ⟨(B6 k).toArray⟩)/\w=w':=
 Qfz k w hk.1 (Qbk hk.2.1) cj
theorem Nb(xs:List (Ty × Value))(k:Kd):Cc (Af xs) k↔(X7 k=true->(D8 xs (Xx k)).isSome=true):=by
 unfold Cc X7 Xx;by_cases h:k.base=[64]
 ·rw[if_pos h,Jc];simp[h]
 rw[if_neg h];simp[h]
def V6(S:List Ty):Prop:=(S.Pairwise fun t u=>t.name≠u.name)/\Jl S/\∀t∈S,Cg S (S.length+1) t=true
def Qg1(xs:List (Ty × Value))(k:Nat):Prop:=
 (((xs.take k).map (·.1)).Pairwise fun t u=>t.name≠u.name)/\∀x∈xs.take k,x.1.sort≠69->∀f∈x.1.fields,Cc (Af xs) f.kind
theorem Qia(xs:List (Ty × Value)):Qg1 xs 0:=⟨by simp,by simp⟩
theorem Qie{xs:List (Ty × Value)}{k:Nat}(hk:k<xs.length)(h:Qg1 xs k)(h1:∀x∈xs.take k,x.1.name≠xs[k].1.name)(h2:xs[k].1.sort≠69->∀f∈xs[k].1.fields,Cc (Af xs) f.kind):Qg1 xs (k+1):=by
 unfold Qg1;rw[Cn xs k hk];refine⟨?_,?_⟩
 ·rw[az,List.pairwise_append];refine⟨h.1,by simp,?_⟩;intro a ha b hb;obtain⟨x,hx,rfl⟩:=ax.1 ha;simp at hb;subst hb;exact h1 x hx
 intro x hx;rcases af.1 hx with hx|hx
 ·exact h.2 x hx
 simp at hx;subst hx;exact h2
theorem Qj9{xs:List (Ty × Value)}(h:Qg1 xs xs.length):((Af xs).Pairwise fun t u=>t.name≠u.name)/\Jl (Af xs):=by
 unfold Qg1 at h;rw[List.take_length]at h;refine⟨h.1,?_⟩;intro t ht hs f hf;obtain⟨x,hx,rfl⟩:=ax.1 ht;exact h.2 x hx hs f hf
theorem Qjn{xs:List (Ty × Value)}{j k:Nat}(hjk:j<k)(hk:k<xs.length)(h:xs[j].1.name=xs[k].1.name):¬V6 (Af xs):=by
 rintro⟨hp,_⟩;have:=List.pairwise_iff_getElem.1 hp j k (by unfold Af;simp;omega) (by unfold Af;simp;omega) hjk;unfold Af at this;simp at this;exact this h
theorem Qlm{xs:List (Ty × Value)}{k j:Nat}(hk:k<xs.length)(hs:xs[k].1.sort≠69)(hj:j<xs[k].1.fields.length)(h:¬Cc (Af xs) xs[k].1.fields[j].kind):¬V6 (Af xs):=by
 rintro⟨_,hp,_⟩;exact h (hp xs[k].1 (ax.2 ⟨xs[k],ae hk,rfl⟩) hs _ (ae hj))
theorem Qlk{xs:List (Ty × Value)}{k:Nat}(hk:k<xs.length)(h:Cg (Af xs) (xs.length+1) xs[k].1=false):¬V6 (Af xs):=by
 rintro⟨_,_,hp⟩;have:=hp xs[k].1 (ax.2 ⟨xs[k],ae hk,rfl⟩);rw[show (Af xs).length=xs.length by unfold Af;simp,h]at this;cases this
theorem Qhl(v:Value)(xs:List (Ty × Value))(w:World)(h:Gl w v xs)(hok:∀x∈xs,Ft x.1):
  Calls prog 71 #[v] w fun e w'=>(∃b,e=.returned (.bool b)/\(b=true↔V6 (Af xs)))/\Below w w w':=by
 have H:=Aa h;have Hok:=Aa hok;obtain⟨A,c,rfl,hxl,hrow,hfds⟩:=h;have Hrow:=Aa hrow;have Hfds:=Aa hfds;clear hok hrow hfds;go_enter func71,ntmps71;go_wp2_with fail;go_loopw [3] (fun i wr=>∃k:Nat,i=.int .i64 k/\k<=xs.length/\Hid (Qg1 xs k)/\Hid (Below w w wr)) (fun i _=>xs.length - (intOf i).toNat)
 case atStart=>exact⟨0,rfl,ag _,Qia xs,Ap _ _⟩
 case round=>
  obtain⟨k,rfl,hk,hto,hbr⟩:=hrel;by_cases hlt:k<xs.length
  ·have k1:(0:Int)<=(k:Int):=aH;have k2:(k:Int)<(xs.length:Int):=aH;go_wp2_with fail;go_loopw [4] (fun i wq=>∃j:Nat,i=.int .i64 j/\j<=k/\(∃q,wq=wr.drewN q)/\Hid (∀x∈xs.take j,x.1.name≠xs[k].1.name)) (fun i _=>k - (intOf i).toNat)
   case atStart=>exact⟨0,rfl,ag _,⟨0,rfl⟩,by intro x hx;simp at hx⟩
   case round=>
    obtain⟨j,rfl,hj,⟨q,rfl⟩,hin⟩:=hrel;obtain⟨b,off,rfl,hbl,c0,c1,c2⟩:=Gl.at_ (Hrow.o.below hbr.o) hlt;by_cases hjl:j<k
    ·obtain⟨b',off',e',hbl',d0,d1,d2⟩:=Gl.at_ (Hrow.o.below hbr.o) (show j<xs.length by omega);simp only[aj,Addr.mk.injEq]at e';obtain⟨rfl,rfl,_⟩:=e';have Hnn:=Aa (fun h=>Qjn (xs:=xs) hjl hlt h);have Hts:=Aa (Cn xs j (show j<xs.length by omega));have j1:(0:Int)<=(j:Int):=aH;have j2:(j:Int)<(xs.length:Int):=aH;have j3:(j:Int)<(k:Int):=aH;by_cases he:xs[j].1.name=xs[k].1.name
     ·have t1:(xs[j].1.name == xs[k].1.name)=true:=dm;have Hno:=Aa (Hnn.o he);clear he;go_wp2_with fail;go_quiet (fail)
      go_wp2_with fail;go_ret;exact⟨⟨false,rfl,by simp[Hno.o]⟩,below_drewN (below_drewN hbr.o q) _⟩
     have t1:(xs[j].1.name == xs[k].1.name)=false:=dm
     have Hin:=Aa (show ∀x∈xs.take (j+1),x.1.name≠xs[k].1.name by
      intro x hx;rw[Hts.o]at hx;rcases af.1 hx with hx|hx
      ·exact hin.o x hx
      simp at hx;subst hx;exact he)
     clear he;go_wp2_with fail;go_quiet (fail)
     go_wp2
     go_roundw
     case rel=>exact⟨j+1,by go_num,by omega,⟨_,rfl⟩,Hin.o⟩
     case measure=>simp[intOf];omega
    ·obtain rfl:j=k:=aH;have j3:¬(j:Int)<(j:Int):=aH;have Hbk:=Aa (below_drewN hbr.o q);have Hnk:=Aa hin.o;have Hxk:=Aa (Hfds.o _ (ae hlt));have Hokk:=Aa (Hok.o _ (ae hlt));have Hnok:=Aa (fun(jj:Nat) (hs:xs[j].1.sort≠69) (hjj:jj<xs[j].1.fields.length) h=>Qlm hlt hs hjj h);have Hsuc:=Aa (fun h2=>Qie hlt hto.o Hnk.o h2);clear hin hbl c0 c1 c2 hto;go_wp2_with fail;go_loopw [5] (fun i wq=>∃m:Nat,i=.int .i64 m/\m<=(xs[j]).1.fields.length/\Hid (Below w w wq)/\Hid (∀f∈(xs[j]).1.fields.take m,Cc (Af xs) f.kind)) (fun i _=>(xs[j]).1.fields.length - (intOf i).toNat)
     case atStart=>exact⟨0,rfl,ag _,Hbk.o,by intro x hx;simp at hx⟩
     case round=>
      obtain⟨m,rfl,hm,hbq,hin⟩:=hrel;obtain⟨b',off',e',hbl',d0,d1,d2⟩:=Gl.at_ (Hrow.o.below hbq.o) hlt;simp only[aj,Addr.mk.injEq]at e';obtain⟨rfl,rfl,_⟩:=e';generalize xs[j]=x at d0 d1 d2 Hxk Hokk Hnok Hsuc hin hm ⊢;obtain⟨t,fv⟩:=x;simp only[]at d0 d1 d2 hm;obtain⟨A2,c2,e2,hfl,hr2⟩:=Hxk.o;simp only[]at e2;subst e2;have Hr2:=Aa hr2;clear hr2;have hsl:=t.sort.toNat_lt;have hfl':t.fields.length<=1000:=hfl;by_cases hml:m<t.fields.length
      ·have m1:(0:Int)<=(m:Int):=aH;have m2:(m:Int)<(t.fields.length:Int):=aH;by_cases hs:t.sort=69
       ·have t1:((t.sort.toNat:Int) != 69)=false:=by have:=Bm hs;simpa using this
        have t2:((t.sort.toNat:Int) == 69)=true:=Bm hs;have Hto:=Aa (Hsuc.o (fun h=>absurd hs h));clear hs;go_wp2_with fail;go_roundw
        case rel=>exact⟨j+1,by go_num,by omega,Hto.o,hbq.o⟩
        case measure=>simp[intOf];omega
       have t1:((t.sort.toNat:Int) != 69)=true:=by have:=Aq hs;simpa using this
       have t2:((t.sort.toNat:Int) == 69)=false:=Aq hs;obtain⟨bf,of,rfl,hbf,g0,g1,g2,g3⟩:=Dv.at_ (Hr2.o.below hbq.o) hml;have hfm:=ae hml;have Hkd:=Aa ((Hokk.o.2.2.1.1 _ hfm).2.2.2.2 hs).1;have Hno:=Aa (fun h=>Hnok.o m hs hml h);have Hts:=Aa (Cn t.fields m hml);generalize t.fields[m]=f at g0 g1 g2 g3 Hkd Hno Hts;clear hs hfm;have Hrf:=Aa (Nb xs f.kind);have Hfind:=Aa (fun W (hW:Below w w W)=>Xl (.slice (some ⟨b,off,none⟩) xs.length c) xs (Xx f.kind) W (H.o.below hW));go_wp2_with fail;refine(N3 f.kind Hkd.o _).mono ?_;rintro e w4 ⟨rfl,rfl⟩;go_wp2_with fail;refine(Sx f.kind Hkd.o _).mono ?_;rintro e w4 ⟨rfl,rfl⟩;go_wp2_with fail;refine(Hfind.o _ hbq.o).mono ?_;rintro e w4 ⟨rfl,hb4⟩;have Hb4:=Aa (hbq.o.trans (hb4.mono hbq.o.size));clear hb4;cases hx:D8 xs (Xx f.kind)with
       |none=>
        unfold Xp Qo;rcases hir:X7 f.kind with _|_
        ·have hrk:Cc (Af xs) f.kind:=Hrf.o.2 (fun h=>by rw[hir]at h;cases h)
         have Hin:=Aa (show ∀f∈t.fields.take (m+1),Cc (Af xs) f.kind by
          intro g hg;rw[Hts.o]at hg;rcases af.1 hg with hg|hg
          ·exact hin.o g hg
          simp at hg;subst hg;exact hrk)
         clear hrk;go_wp2_with fail;go_roundw
         case rel=>exact⟨m+1,by go_num,by omega,aW,Hin.o⟩
         case measure=>simp[intOf];omega
        have Hn:=Aa (Hno.o (fun h=>by have:=Hrf.o.1 h hir;rw[hx]at this;cases this));go_wp2_with fail;go_ret;exact⟨⟨false,rfl,by simp[Hn.o]⟩,aW⟩
       |some y=>
        have hrk:Cc (Af xs) f.kind:=Hrf.o.2 (fun _=>by rw[hx];rfl);obtain⟨ty,yv⟩:=y;obtain⟨A5,c5,e5,_⟩:=Hfds.o _ (Cu hx).1;simp only[]at e5;subst e5;unfold Xp Mj;rcases hir:X7 f.kind with _|_
        ·skip
         have Hin:=Aa (show ∀f∈t.fields.take (m+1),Cc (Af xs) f.kind by
          intro g hg;rw[Hts.o]at hg;rcases af.1 hg with hg|hg
          ·exact hin.o g hg
          simp at hg;subst hg;exact hrk)
         clear hrk;go_wp2_with fail;go_roundw
         case rel=>exact⟨m+1,by go_num,by omega,aW,Hin.o⟩
         case measure=>simp[intOf];omega
        skip
        have Hin:=Aa (show ∀f∈t.fields.take (m+1),Cc (Af xs) f.kind by
         intro g hg;rw[Hts.o]at hg;rcases af.1 hg with hg|hg
         ·exact hin.o g hg
         simp at hg;subst hg;exact hrk)
        clear hrk;go_wp2_with fail;go_roundw
        case rel=>exact⟨m+1,by go_num,by omega,aW,Hin.o⟩
        case measure=>simp[intOf];omega
      ·obtain rfl:m=t.fields.length:=aH;have m2:¬(t.fields.length:Int)<(t.fields.length:Int):=aH;have Hto:=Aa (Hsuc.o (fun _ f hf=>hin.o f (by rw[List.take_length];exact hf)));go_wp2_with fail;go_roundw
       case rel=>exact⟨j+1,by go_num,by omega,Hto.o,hbq.o⟩
       case measure=>simp[intOf];omega
  ·obtain rfl:k=xs.length:=aH;have k2:¬(xs.length:Int)<(xs.length:Int):=aH;have Hall:=Aa (Qj9 hto.o);clear hto;go_wp2_with fail;go_loopw [10] (fun i wq=>∃j:Nat,i=.int .i64 j/\j<=xs.length/\Hid (Below w w wq)/\Hid (∀x∈xs.take j,Cg (Af xs) (xs.length+1) x.1=true)) (fun i _=>xs.length - (intOf i).toNat)
   case atStart=>exact⟨0,rfl,ag _,hbr.o,by intro x hx;simp at hx⟩
   case round=>
    obtain⟨j,rfl,hj,hbq,hin⟩:=hrel;by_cases hjl:j<xs.length
    ·obtain⟨b,off,rfl,hbl,d0,d1,d2⟩:=Gl.at_ (Hrow.o.below hbq.o) hjl;have Hts:=Aa (Cn xs j hjl);have Hno:=Aa (fun h=>Qlk (xs:=xs) hjl h);have Hokj:=Aa (Hok.o _ (ae hjl));have hxj:=(Hfds.o _ (ae hjl)).below hbq.o;generalize xs[j]=x at d0 d1 d2 Hts Hno Hokj hxj;obtain⟨t,fv⟩:=x;simp only[]at d0 d1 d2 hxj;have Hxj:=Aa hxj;obtain⟨A2,c2,rfl,_⟩:=hxj;have j1:(0:Int)<=(j:Int):=aH;have j2:(j:Int)<(xs.length:Int):=aH;have He:=Aa (fun W (hW:Below w w W) (hX:Dv W (.slice A2 t.fields.length c2) t.fields)=>Qh8 (.slice (some ⟨b,off,none⟩) xs.length c) (.slice A2 t.fields.length c2) xs t W (H.o.below hW) Hokj.o hX Hok.o);go_wp2_with fail;refine(He.o _ hbq.o Hxj.o).mono ?_;rintro e w4 ⟨rfl,hb4⟩;have Hb4:=Aa (hbq.o.trans (hb4.mono hbq.o.size));clear hb4;rcases Bool.eq_false_or_eq_true (Cg (Af xs) (xs.length+1) t)with he|he
     ·have Hin:=Aa (show ∀x∈xs.take (j+1),Cg (Af xs) (xs.length+1) x.1=true by
       intro x hx;rw[Hts.o]at hx;rcases af.1 hx with hx|hx
       ·exact hin.o x hx
       simp at hx;subst hx;exact he)
      rw[he];clear he;go_wp2_with fail;go_roundw
      case rel=>exact⟨j+1,by go_num,by omega,Hb4.o,Hin.o⟩
      case measure=>simp[intOf];omega
     have Hn:=Aa (Hno.o he);rw[he];clear he;go_wp2_with fail;go_ret;exact⟨⟨false,rfl,by simp[Hn.o]⟩,Hb4.o⟩
    ·obtain rfl:j=xs.length:=aH
     have Hfin:=Aa (show V6 (Af xs)from⟨Hall.o.1,Hall.o.2,fun t ht=>by
      obtain⟨x,hx,rfl⟩:=ax.1 ht;rw[show (Af xs).length=xs.length by unfold Af;simp];exact hin.o x (by rw[List.take_length];exact hx)⟩)
     clear hin;go_wp2_with fail;go_ret;exact⟨⟨true,rfl,by simp[Hfin.o]⟩,hbq.o⟩
theorem Qjf{w:World}{b1 b2 k1 k2 n1 n2:Nat}{e1 e2:TypeId}{v1 v2:Value}{xs ys:List Value}(h1:w.ownsRow b1 e1 k1 v1 n1 xs)(h2:w.ownsRow b2 e2 k2 v2 n2 ys)(hne:e1≠e2):v1.ownBlock=none\/v1.ownBlock≠v2.ownBlock:=by
 rcases h1.2 with⟨rfl,_⟩|⟨g,cap,cur,rfl,_,hh,_⟩
 ·exact .inl rfl
 rcases h2.2 with⟨rfl,_⟩|⟨g',cap',cur',rfl,_,hh',_⟩
 ·exact .inr gq
 refine .inr ?_;simp only[Value.ownBlock,ne_eq,aj];rintro rfl;rw[hh]at hh';simp only[aj,Obj.cells.injEq]at hh';exact hne hh'.2.1
section
variable {P:Program}
theorem Qfn(w:World){ops:Array Oper}{rest:List Oper}{o:Oper}{a:Act}{Q:Exit->Act->World->Prop}(hgd:o.guard=none)(s x:Operand)(t:TypeId)
  (ho:o.op=.call {callee:=.builtin .append,args:=#[s,x],argTypes:=#[t,t]})
  (base:Nat) (e:TypeId) (z:Value) (k bytes:Nat) (ht:P.underlying t=some (.slice e)) (hinfo:(P.info? e).map (fun i=>(i.zero,i.size,i.bytes))=some (some z,k,bytes))
  (hzs:z.cells.size=k) (hk:0<k) (W:World) (us:List Value) (hul:us.length=k) (hw:w=W.alloc (.cells us.toArray e)) (hu:∀u∈us,u.oneCell'=true) (v:Value) (n:Nat) (xs:List Value) (hs:a.eval s=v) (hx:a.eval x=.slice (W,0) 1 1)
  (hown:W.ownsRow base e k v n xs)
  (h63:n+1<=maxLen) (hbytes:(n+1)*bytes<=140737488355328) (hbase:base<=W.heap.size)
  (h:∀v' w',w'.ownsRow base e k v' (n+1) (xs++us)->Below base W w'->(W.alloc (.cells us.toArray e)).grownBy w' v.ownBlock->wpList P ops Q rest (a.put o.dst v') w'):wpList P ops Q (o::rest) a w:=by
 subst hw;obtain⟨i0,hi,hz0,hz1,hz2⟩:=info_parts hinfo;refine wpList_append_own _ hgd s x t ho base e i0 z k bytes ht hi hz0 hz1 hz2 hzs hk v n xs hs (hown.alloc _) ⟨W.heap.size,0,none⟩ 1 1 us hx aH ?_ hu h63 hbytes ?_ ?_
 ·exact jr
 ·exact jS
 intro v' w' h1 h2 _;exact h v' w' h1 (((Ap base W).alloc hbase _).grown h2 aM (fun k hk=>(hown.lt k hk).1)) h2
end
def M8(w:World)(base:Nat)(xs:List (Ty × Value)):Prop:=∀x∈xs,w.ownsRow base 88 4 x.2 x.1.fields.length (x.1.fields.flatMap Mn)/\Ft x.1
theorem M8.below{w w':World}{base:Nat}{xs:List (Ty × Value)}(h:M8 w base xs)(hb:Below w w w'):M8 w' base xs:=fun x hx=>⟨Db (h x hx).1 hb,(h x hx).2⟩
theorem M8.grown{w w':World}{base b2 k n:Nat}{xs:List (Ty × Value)}{v:Value}{ys:List Value}{e:TypeId}(h:M8 w base xs)(hv:w.ownsRow b2 e k v n ys)(hne:88≠e)(hg:w.grownBy w' v.ownBlock):M8 w' base xs:=
 fun x hx=>⟨(h x hx).1.kept hg (Qjf (h x hx).1 hv hne),(h x hx).2⟩
theorem M8.fds{w:World}{base:Nat}{xs:List (Ty × Value)}(h:M8 w base xs):∀x∈xs,Dv w x.2 x.1.fields:=fun x hx=>by
 obtain⟨h1,h2⟩:=h x hx;have hl:=h2.2.2.2.1;obtain⟨A,c,e,hr⟩:=Cd.ownK h1 aU;exact⟨A,c,e,by omega,hr⟩
theorem Gl.own{w:World}{base:Nat}{v:Value}{xs:List (Ty × Value)}(h:w.ownsRow base 86 3 v xs.length (xs.flatMap stc))(hl:xs.length<=1000)(ht:M8 w base xs):Gl w v xs:=by
 obtain⟨A,c,e,hr⟩:=Cd.ownK h aU;exact⟨A,c,e,hl,hr,ht.fds⟩
theorem Qdz{L:List (List UInt8)}{k:Nat}(hk:k<L.length){S:List Ty}(h:Gi L=(Gi (L.drop k)).map (S ++ ·)):
  Gi L=(match Dx L[k]with|none=>none|some t=>(Gi (L.drop (k+1))).map ((S++[t]) ++ ·)):=by
 rw[h,List.drop_eq_getElem_cons hk,Gi,Qdt];cases Fi L[k]with
 |none=>rfl
 |some t=>
  simp only;cases Gi (L.drop (k+1))with
  |none=>rfl
  |some r=>simp
theorem K0{s:List UInt8}(h:400<s.length\/Qb s=none):Cl s=none:=by
 cases hs:Cl s with
 |none=>rfl
 |some S=>
  have:=Rk.1 hs;rcases h with h|h
  ·omega
  rw[h]at this;exact absurd this.2.1 aK
theorem Qbf{s:List UInt8}{S:List Ty}(h4:s.length<=400)(h:Qb s=some S)(b:Bool)(hb:b=true↔V6 S):Cl s=if b=true then some S else none:=by
 cases b with
 |true=>
  rw[if_pos rfl];exact Rk.2 ⟨h4,h,hb.1 rfl⟩
 |false=>
  rw[if_neg aJ];cases hs:Cl s with
  |none=>rfl
  |some T=>
   have:=Rk.1 hs;rw[h]at this;obtain⟨_,e,hv⟩:=this;simp only[aj]at e;subst e;exact absurd (hb.2 hv) aJ
def Kw(o:Option (List Ty))(w:World)(e:Ending)(w':World):Prop:=
 (match o with
  |some S=>∃v xs,e=.returned (.tuple #[v,.bool true])/\Af xs=S/\Gl w' v xs
  |none=>∃A n c,e=.returned (.tuple #[.slice A n c,.bool false]))/\Below w w w'
theorem Kw.no{w w':World}{e:Ending}{o:Option (List Ty)}(ho:o=none){A:Option Addr}{n c:Nat}(he:e=.returned (.tuple #[.slice A n c,.bool false]))(hb:Below w w w'):Kw o w e w':=by
 rw[ho];exact⟨⟨A,n,c,he⟩,hb⟩
theorem Kw.yes{w w':World}{e:Ending}{o:Option (List Ty)}{v:Value}{xs:List (Ty × Value)}(ho:o=some (Af xs))(he:e=.returned (.tuple #[v,.bool true]))(hs:Gl w' v xs)(hb:Below w w w'):Kw o w e w':=by
 rw[ho];exact⟨⟨v,xs,he,rfl,hs⟩,hb⟩
theorem Pw{w:World}{base:Nat}{v:Value}{ls:List (List UInt8)}(h:w.ownsRow base 9 1 v ls.length (Cb ls))(hne:ls≠[]):
  ∃g c,v=.slice (some ⟨g,0,none⟩) ls.length c/\base<=g/\g<w.heap.size/\∀j (hj:j<ls.length),w.cell? ⟨g,j,none⟩=some (.string ⟨ls[j].toArray⟩):=by
 rcases h.2 with⟨_,h0⟩|⟨g,cap,cur,rfl,hb,hh,_⟩
 ·cases ls with
  |nil=>exact absurd rfl hne
  |cons=>simp at h0
 refine⟨g,cap,rfl,hb,(h.lt g rfl).2,fun j hj=>?_⟩;have:=h.cells (g:=g) rfl j (.string ⟨ls[j].toArray⟩) (by simp[Cb,hj]);rwa [Qd6]at this
theorem Qe4{s:List UInt8}(h:9<(Al 10 s).length):Qb s=none:=if_pos (.inl h)
theorem Qfm{s:List UInt8}(h:(Al 10 s).getLast?≠some []):Qb s=none:=if_pos (.inr h)
theorem Qiz{s:List UInt8}(h:¬9<(Al 10 s).length)(h2:(Al 10 s).getLast?=some []):Qb s=Gi (Al 10 s).dropLast:=if_neg (by rintro(h3|h3)<;>contradiction)
theorem V0(s:List UInt8)(w:World)(hs:s.length<=4000000)(h:400<s.length\/9<(Al 10 s).length\/(Al 10 s).getLast?≠some []):
  Calls prog 37 #[s] w (Kw (Cl s) w):=by
 have HF:=Aa (show Cl s=none by
  rcases h with h|h|h
  ·exact K0 (.inl h)
  ·exact K0 (.inr (Qe4 h))
  exact K0 (.inr (Qfm h)))
 have Hcut:=Aa (fun W=>C9 s 10 10 rfl W hs);have hne:=E8 10 s;have hle:=Jz 10 s;generalize Al 10 s=L at h Hcut hne hle;go_enter func37,ntmps37;go_wp2_with fail;refine(Hcut.o _).mono ?_;rintro e w1 ⟨v,rfl,ho,hb⟩;obtain⟨g,c,rfl,hg1,hg2,hcells⟩:=Pw ho hne;have hpos:0<L.length:=List.length_pos_iff.2 hne;have Hb:=Aa hb;have k1:(0:Int)<=(L.length:Int) - 1:=aH;have k2:(L.length:Int) - 1<(L.length:Int):=aH;have k3:((L.length:Int) - 1).toNat=L.length - 1:=aH;by_cases h1:400<s.length
 ·have q1:(400:Int)<(s.length:Int):=aH;clear h hcells ho hb;go_wp2_with fail;refine aF (v:=.tuple #[.slice none 0 0,.bool false]) (by simp[results,results37,go_sem]) rfl ?_;exact Kw.no HF.o rfl Hb.o
 have q1:¬(400:Int)<(s.length:Int):=aH;by_cases h2:9<L.length
 ·have q2:(9:Int)<(L.length:Int):=aH;clear h hcells ho hb;go_wp2_with fail;refine aF (v:=.tuple #[.slice none 0 0,.bool false]) (by simp[results,results37,go_sem]) rfl ?_;exact Kw.no HF.o rfl Hb.o
 have q2:¬(9:Int)<(L.length:Int):=aH;have h3:L.getLast?≠some []:=by rcases h with h|h|h<;>first|exact h|exact absurd h h1|exact absurd h h2
 have cl:=hcells (L.length - 1) aH;have he:¬(L[L.length - 1]=[]):=by
  intro e;apply h3;rw[List.getLast?_eq_getElem?,List.getElem?_eq_getElem aH,e]
 have he':(L[L.length - 1] == [])=false:=dm;clear h hcells ho hb h3;generalize L[L.length - 1]=x at cl he he';go_wp2_with fail;refine aF (v:=.tuple #[.slice none 0 0,.bool false]) (by simp[results,results37,go_sem]) rfl ?_;exact Kw.no HF.o rfl Hb.o
def Qad(w:World)(v:Value)(l:List Cw):Prop:=
 ∃g c,v=.slice (some ⟨g,0,none⟩) l.length c/\g<w.heap.size/\l.length<=c/\c<=maxLen/\∀j (hj:j<l.length),w.cell? ⟨g,j,none⟩=some (.string ⟨l[j].toArray⟩)
theorem Qad.below{w w':World}{v:Value}{l:List Cw}(h:Qad w v l)(hb:Below w w w'):Qad w' v l:=by
 obtain⟨g,c,rfl,hg,h1,h2,hc⟩:=h;exact⟨g,c,rfl,ac hg hb.size,h1,h2,fun j hj=>(hb.cell (p:=⟨g,j,none⟩) hg).trans (hc j hj)⟩
theorem Qad.own{w:World}{base:Nat}{v:Value}{n:Nat}{l:List Cw}(h:w.ownsRow base 9 1 v n (Cb l))(hne:l≠[]):Qad w v l:=by
 obtain rfl:n=l.length:=by have:=h.1;simp[Cb]at this;omega
 rcases h.2 with⟨_,h0⟩|⟨g,cap,cur,rfl,hb,hh,hnc,hcm,_⟩
 ·cases l with
  |nil=>exact absurd rfl hne
  |cons=>simp at h0
 refine⟨g,cap,rfl,(h.lt g rfl).2,hnc,hcm,fun j hj=>?_⟩;have:=h.cells (g:=g) rfl j (.string ⟨l[j].toArray⟩) (by simp[Cb,hj]);rwa [Qd6]at this
theorem Qos(p:Cw->Bool):∀(l:List Cw),(∀(j:Nat) (hj:j<l.length),j<(l.takeWhile p).length->p l[j]=true)/\(∀(h:(l.takeWhile p).length<l.length),p l[(l.takeWhile p).length]=false) /\
  l.takeWhile p=l.take (l.takeWhile p).length/\l.dropWhile p=l.drop (l.takeWhile p).length/\(l.takeWhile p).length<=l.length
 |[]=>aK
 |x::l=>by
  obtain⟨i1,i2,i3,i4,i5⟩:=Qos p l;by_cases h:p x=true
  ·simp only[List.takeWhile_cons,List.dropWhile_cons,h,if_true,List.length_cons];refine⟨?_,?_,?_,?_,by omega⟩
   ·intro j hj hlt;cases j with
    |zero=>simpa using h
    |succ j=>simpa using i1 j (by simpa using hj) fQ
   ·intro hh;simpa using i2 (by simpa using hh)
   ·simpa using i3
   simpa using i4
  have h':p x=false:=aQ;simp[h']
theorem Gl.fds{w:World}{v:Value}{xs:List (Ty × Value)}(h:Gl w v xs){x:Ty × Value}(hx:x∈xs):Dv w x.2 x.1.fields:=by
 obtain⟨_,_,_,_,_,h⟩:=h;exact h x hx
theorem Rl{c d:UInt8}(h:c≠d):((c.toNat:Int) != (d.toNat:Int))=true:=by
 rw[bne_iff_ne];intro e;exact h (UInt8.toNat_inj.1 aH)
theorem Nz{c d:UInt8}(h:c=d):((c.toNat:Int) != (d.toNat:Int))=false:=by subst h;simp
def At(s d:List UInt8):Option (List Ty × Kd):=
 match Cl s with
 |none=>none
 |some S=>match Dd d with
  |none=>none
  |some k=>if Cc S k then some (S,k)else none
theorem Qha{s d:List UInt8}{S:List Ty}{k:Kd}(h:At s d=some (S,k)):Cl s=some S/\Dd d=some k/\Cc S k:=by
 unfold At at h;cases h1:Cl s with
 |none=>rw[h1]at h;cases h
 |some T=>cases h2:Dd d with
  |none=>rw[h1,h2]at h;cases h
  |some q=>
   rw[h1,h2]at h;simp only at h;split at h
   ·rename_i hr;simp only[aj,aE]at h;obtain⟨rfl,rfl⟩:=h;exact⟨rfl,rfl,hr⟩
   cases h
theorem Cs{s d:List UInt8}{S:List Ty}{k:Kd}(h:At s d=some (S,k)):Gy S/\s.length<=400/\scB S=s/\Cq k/\Be k=d/\Cc S k:=by
 obtain⟨h1,h2,h3⟩:=Qha h;obtain⟨a1,a2,a3⟩:=Qh.1 h1;obtain⟨b1,b2⟩:=Fr.1 h2;exact⟨a1,a2,a3,b1,b2,h3⟩
def Sv(st:Nat × Nat)(c:UInt8):Option (Nat × Nat):=
 if Bo c=true then some (st.1,st.2+1)else if c=64/\8<st.1+st.2 then none else some (st.2,0)
def mach:Nat × Nat->List UInt8->Option (Nat × Nat)
 |st,[]=>some st
 |st,c::r=>match Sv st c with
  |none=>none
  |some q=>mach q r
theorem Gn:∀(a b:List UInt8) (st:Nat × Nat),mach st (a++b)=match mach st a with|none=>none|some q=>mach q b
 |[],b,st=>rfl
 |c::a,b,st=>by
  rw[av,mach,mach];cases h:Sv st c with
  |none=>rfl
  |some q=>exact Gn a b q
theorem Ko:∀(g:List UInt8) (st:Nat × Nat),g.all Bo=true->mach st g=some (st.1,st.2+g.length)
 |[],st,_=>rfl
 |c::g,st,h=>by
  simp only[List.all_cons,aw]at h;rw[mach,Sv,if_pos h.1];simp only;rw[Ko g _ h.2];simp;omega
theorem Qeg{p:List UInt8}{x:UInt8}{g1 g2 q:List UInt8}(h1:g1.all Bo=true)(h2:g2.all Bo=true){st:Nat × Nat}(h:mach (0,0) (p++(g1++x::(g2++64::q)))=some st):g1.length+g2.length<=8:=by
 rw[Gn]at h;cases hp:mach (0,0) p with
 |none=>rw[hp]at h;cases h
 |some s0=>
  rw[hp]at h;simp only at h;rw[Gn,Ko g1 _ h1]at h;simp only[mach]at h;by_cases hx:Bo x=true
  ·rw[Sv,if_pos hx]at h;simp only at h;rw[Gn,Ko g2 _ h2]at h;simp only[mach]at h;rw[Sv,if_neg aJ]at h;split at h
   ·cases h
   rename_i h';split at h'
   ·cases h'
   rename_i hc;simp at hc;omega
  rw[Sv,if_neg hx]at h;split at h
  ·cases h
  rename_i h';split at h'
  ·cases h'
  injection h' with h';subst h';rw[Gn,Ko g2 _ h2]at h;simp only[mach]at h;rw[Sv,if_neg aJ]at h;split at h
  ·cases h
  rename_i h';split at h'
  ·cases h'
  rename_i hc;simp at hc;omega
theorem Tz{p g q:List UInt8}(h1:g.all Bo=true){st:Nat × Nat}(h:mach (0,0) (p++(g++64::q))=some st):g.length<=8:=by
 rw[Gn]at h;cases hp:mach (0,0) p with
 |none=>rw[hp]at h;cases h
 |some s0=>
  rw[hp]at h;simp only at h;rw[Gn,Ko g _ h1]at h;simp only[mach]at h;rw[Sv,if_neg aJ]at h;split at h
  ·cases h
  rename_i h';split at h'
  ·cases h'
  rename_i hc;simp at hc;omega
def Qaf(s:List UInt8):Prop:=∀p g q,s=p++(g++64::q)->g.all Bo=true->g.length<=8
theorem Qaf.of_mach{s:List UInt8}{st:Nat × Nat}(h:mach (0,0) s=some st):Qaf s:=fun p g q e hg=>by subst e;exact Tz hg h
theorem Qc8:∀{a b c d:List UInt8},a++b=c++d->(∃m,c=a++m/\b=m++d)\/(∃m,a=c++m/\d=m++b)
 |[],b,c,d,h=>.inl ⟨c,rfl,h⟩
 |x::a,b,[],d,h=>.inr ⟨x::a,rfl,h.symm⟩
 |x::a,b,y::c,d,h=>by
  rw[av,av]at h;injection h with h1 h2;subst h1;rcases Qc8 h2 with⟨m,e1,e2⟩|⟨m,e1,e2⟩
  ·exact .inl ⟨m,by rw[e1];rfl,e2⟩
  exact .inr ⟨m,by rw[e1];rfl,e2⟩
theorem Qmt{p:UInt8->Bool}{a b:List UInt8}(h:(a++b).all p=true):a.all p=true/\b.all p=true:=by
 rw[List.all_append,aw]at h;exact h
theorem Qaf.turned{a b:List UInt8}{x:UInt8}{st:Nat × Nat}(h:mach (0,0) (a++x::b)=some st)(i:List UInt8)(hi:i=[]\/∃c,i=[c]/\Bo c=false/\c≠64):Qaf (a++(i++b)):=by
 intro p g q e hg;rcases Qc8 e with⟨m,e1,e2⟩|⟨m,e1,e2⟩
 ·
  rcases hi with rfl|⟨c,rfl,_,_⟩
  ·rw[List.nil_append]at e2;subst e2;exact Tz (p:=a++x::m) hg aQ
  cases m with
  |nil=>
   rw[List.nil_append,List.singleton_append]at e2;cases g with
   |nil=>simp
   |cons y g=>
    rw[av]at e2;injection e2 with e3 e4;subst e3;simp only[List.all_cons,aw]at hg;rename_i hc _;rw[hg.1]at hc;cases hc
  |cons y m=>
   rw[List.singleton_append,av]at e2;injection e2 with e3 e4;subst e4;exact Tz (p:=a++x::m) hg aQ
 ·
  subst e1;rcases Qc8 e2 with⟨n,f1,f2⟩|⟨n,f1,f2⟩
  ·
   subst f1;cases n with
   |nil=>
    rw[List.nil_append]at f2;rcases hi with rfl|⟨c,rfl,_,hc⟩
    ·rw[List.nil_append]at f2;subst f2;have:=Qeg (p:=p) (x:=x) (g1:=g) (g2:=[]) (q:=q) hg rfl aQ;simpa using this
    rw[List.singleton_append]at f2;injection f2 with f3 _;exact absurd f3.symm hc
   |cons y n=>
    rw[av]at f2;injection f2 with f3 f4;subst f3;exact Tz (p:=p) (g:=g) (q:=n++x::b) hg aQ
  ·
   subst f1;obtain⟨hm,hn⟩:=Qmt hg;rcases hi with rfl|⟨c,rfl,hc,hc2⟩
   ·rw[List.nil_append]at f2;subst f2;have:=Qeg (p:=p) (x:=x) (g1:=m) (g2:=n) (q:=q) hm hn aQ;rw[ah];exact this
   cases n with
   |nil=>
    rw[List.nil_append,List.singleton_append]at f2;injection f2 with f3 _;exact absurd f3 hc2
   |cons y n=>
    rw[List.singleton_append,av]at f2;injection f2 with f3 _;subst f3;simp only[List.all_cons,aw]at hn;rw[hn.1]at hc;cases hc
theorem Qh7(s:List UInt8)(w:World)(h4:s.length<=400)(h9:¬9<(Al 10 s).length)(hlast:(Al 10 s).getLast?=some []):
  Calls prog 37 #[s] w (Kw (Cl s) w):=by
 have HL:=Aa (Qiz h9 hlast);have Hcut:=Aa (fun W=>C9 s 10 10 rfl W aH);have hne:=E8 10 s;have Hpl:=Aa (As 10 s);generalize Al 10 s=L at h9 hlast HL Hcut hne Hpl;go_enter func37,ntmps37;go_wp2_with fail;refine(Hcut.o _).mono ?_;rintro e w1 ⟨v,rfl,ho,hb⟩;obtain⟨g,c,rfl,hg1,hg2,hcells⟩:=Pw ho hne;have hpos:0<L.length:=List.length_pos_iff.2 hne;have Hb:=Aa hb;have Hcells:=Aa hcells;have hz1:=hb.size;have k1:(0:Int)<=(L.length:Int) - 1:=aH;have k2:(L.length:Int) - 1<(L.length:Int):=aH;have k3:((L.length:Int) - 1).toNat=L.length - 1:=aH;have q1:¬(400:Int)<(s.length:Int):=aH;have q2:¬(9:Int)<(L.length:Int):=aH;have cl:=hcells (L.length - 1) aH;have he:L[L.length - 1]=[]:=by
  rw[List.getLast?_eq_getElem?,List.getElem?_eq_getElem aH]at hlast;simpa using hlast
 rw[he]at cl;have hDl:L.dropLast.length=L.length - 1:=aK;clear he hlast hcells ho hb hne;go_wp2_with fail
 go_loopw [5,6] (fun v i wr=>∃(xs:List (Ty × Value)),i=.int .i64 (xs.length:Nat)/\xs.length+1<=L.length/\Hid (Gi L.dropLast=(Gi (L.dropLast.drop xs.length)).map (Af xs ++ ·)) /\
   Hid (wr.ownsRow w1 86 3 v xs.length (xs.flatMap stc))/\Hid (M8 wr w1.heap.size xs)/\Hid (Below w1 w1 wr)/\w1.heap.size<=wr.heap.size) (fun _ i _=>L.length - (intOf i).toNat)
 case atStart=>exact⟨[],rfl,by simp;omega,by simp[Hid,Af],World.ownsRow_lit (base:=w1.heap.size) (e:=86) (size:=3) w1 #[] 0 (An _) (ag _) rfl,by intro x hx;simp at hx,(Ap _ _).alloc (An _) _,by simp⟩
 case round=>
  obtain⟨xs,rfl,hxl,hty,hown,htys,hbr,hszr⟩:=hrel;obtain⟨A,cA,rfl,hrA⟩:=Cd.ownK hown.o aU;have HrA:=Aa hrA;have HbW:=Aa (Hb.o.trans (hbr.o.mono hz1));clear hrA;by_cases hlt:xs.length+1<L.length
  ·have j1:(xs.length:Int)+1<(L.length:Int):=aH;have j2:(0:Int)<=(xs.length:Int):=aH;have j3:(xs.length:Int)<(L.length:Int):=aH;have cell:_:=(hbr.o.cell (p:=⟨g,xs.length,none⟩) hg2).trans (Hcells.o xs.length aH);have hstep:=Qdz (L:=L.dropLast) (k:=xs.length) aH hty.o;have hge:L.dropLast[xs.length]' aH=L[xs.length]:=aK;rw[hge]at hstep;have hpl:=Hpl.o _ (ae (show xs.length<L.length by omega));have Hstep:=Aa hstep;generalize L[xs.length]=p at cell Hstep hpl;have Hread:=Aa (fun W=>Qa2 p W aH);have Htok:=Aa (fun t (h:Dx p=some t)=>(Gm.1 ((Qdt p).symm.trans h)).1);generalize Dx p=o at Hstep Hread Htok;clear hstep hge hty;go_wp2_with fail;refine(Hread.o _).mono ?_;rintro e w4 ⟨hcase,hb4⟩;have HbW4:=Aa (HbW.o.trans (hb4.mono HbW.o.size));cases o with
   |none=>
    obtain⟨x,a,A2,n2,c2,rfl⟩:=hcase;have Hno:=@Aa (Cl s=none) (K0 (.inr (HL.o.trans Hstep.o)));clear hb4;go_wp2_with fail;refine aF (v:=.tuple #[.slice none 0 0,.bool false]) (by simp[results,results37,go_sem]) rfl ?_;exact Kw.no Hno.o rfl (by(repeat (first|exact HbW4.o|refine Below.setCell ?_ eZ _|refine Below.alloc ?_ eZ _|refine Below.drew ?_)))
   |some t=>
    obtain⟨fv,rfl,hfv⟩:=hcase;have htk:=Htok.o t rfl;have h8:=htk.2.2.2.1;obtain⟨A2,c2,rfl,_⟩:=Cd.ownK hfv aU;have Hstep2:=@Aa (Gi L.dropLast=(Gi (L.dropLast.drop (xs.length+1))).map ((Af xs++[t]) ++ ·)) Hstep.o;have Hw5:=Aa ((Db hown.o hb4).alloc (.cells #[.int .u8 (t.sort.toNat:Int),t.name,.slice A2 t.fields.length c2] 86));have Hbb:=@Aa (Below w1 w1 (w4.alloc (.cells #[.int .u8 (t.sort.toNat:Int),t.name,.slice A2 t.fields.length c2] 86))) ((hbr.o.trans (hb4.mono hszr)).alloc (ad hszr hb4.size) _)
    have Hty5:=Aa (show M8 (w4.alloc (.cells #[.int .u8 (t.sort.toNat:Int),t.name,.slice A2 t.fields.length c2] 86)) w1.heap.size (xs++[(t,.slice A2 t.fields.length c2)])from by
     intro x hx;rcases af.1 hx with hx|hx
     ·exact⟨(Db ((htys.o x hx).1) hb4).alloc _,(htys.o x hx).2⟩
     simp at hx;subst hx;exact⟨(Vd hfv hszr).alloc _,htk⟩)
    have hz5:w1.heap.size<=w4.heap.size+1:=by have:=hb4.size;omega
    have Hsz5:=@Aa ((w4.alloc (.cells #[.int .u8 (t.sort.toNat:Int),t.name,.slice A2 t.fields.length c2] 86)).heap.size=w4.heap.size+1) aK;clear hfv htk hb4;unfold Mj;go_wp2_with (at_builtin;go_loud (refine Qfn _ rfl _ _ 59 rfl w1 86 (.agg #[.int .u8 0,a6,.slice none 0 0]) 3 48 underlying59 Tryz.infoSt rfl aJ (w4.alloc (.cells #[.int .u8 (t.sort.toNat:Int),t.name,.slice A2 t.fields.length c2] 86)) [.int .u8 (t.sort.toNat:Int),t.name,.slice A2 t.fields.length c2] rfl rfl bh _ xs.length (xs.flatMap stc) rfl (by rw[Hsz5.o];rfl) Hw5.o aU aH aM ?_;intro v5 w5 hown5 hb5 hg5;have Hty6:=Aa ((Hty5.o.below ((Ap _ _).alloc (An _) _)).grown (Hw5.o.alloc _) aJ hg5);have Hown5:=Aa hown5;have Hb5:=Aa (Hbb.o.trans hb5);clear hown5 hb5 hg5))
    go_roundw
    case rel=>
     refine⟨xs++[(t,Value.slice A2 t.fields.length c2)],by rw[ah];go_num,by simp;omega,?_,?_,?_,Hb5.o,Hb5.o.size⟩
     ·show Gi L.dropLast=_;rw[Hstep2.o];simp[Af]
     ·show World.ownsRow _ _ _ _ _ _ _;rw[List.flatMap_append,ah];exact Hown5.o
     ·exact Hty6.o
    case measure=>simp[intOf];omega
  ·have j1:¬(xs.length:Int)+1<(L.length:Int):=aH
   have Hlin:=Aa (show Qb s=some (Af xs)by
    rw[HL.o,hty.o,List.drop_of_length_le aH];simp[Gi])
   have Hval:=Aa (fun(_:Unit)=>Qhl (.slice A xs.length cA) xs wr (Gl.own hown.o aH htys.o) (fun x hx=>(htys.o x hx).2));have Hs:=Aa (Gl.own hown.o aH htys.o);clear hty;go_wp2_with fail;refine(Hval.o ()).mono ?_;rintro e w4 ⟨⟨b,rfl,hbv⟩,hb4⟩;have Hfin:=Aa (Qbf h4 Hlin.o b hbv);have HbW4:=Aa (HbW.o.trans (hb4.mono HbW.o.size));have Hs4:=Aa (Hs.o.below hb4);clear hb4 hbv;cases b with
   |true=>
    go_wp2_with fail;refine aF (v:=.tuple #[.slice A xs.length cA,.bool true]) (by simp[results,results37,go_sem]) rfl ?_;exact Kw.yes (xs:=xs) Hfin.o rfl Hs4.o HbW4.o
   |false=>
    go_wp2_with fail;refine aF (v:=.tuple #[.slice A xs.length cA,.bool false]) (by simp[results,results37,go_sem]) rfl ?_;exact Kw.no Hfin.o rfl HbW4.o
theorem Vc(s:List UInt8)(w:World)(hs:s.length<=4000000):
  Calls prog 37 #[s] w (Kw (Cl s) w):=by
 by_cases h1:400<s.length
 ·exact V0 s w hs (.inl h1)
 by_cases h2:9<(Al 10 s).length
 ·exact V0 s w hs (.inr (.inl h2))
 by_cases h3:(Al 10 s).getLast?=some []
 ·exact Qh7 s w aH h2 h3
 exact V0 s w hs (.inr (.inr h3))
def Ke(o:Option (List Ty × Kd))(w:World)(e:Ending)(w':World):Prop:=
 (match o with
  |some x=>∃v xs,e=.returned (.tuple #[v,.bool true])/\Af xs=x.1/\Gl w' v xs
  |none=>∃A n c,e=.returned (.tuple #[.slice A n c,.bool false]))/\Below w w w'
theorem Ke.no{w w':World}{e:Ending}{o:Option (List Ty × Kd)}(ho:o=none){A:Option Addr}{n c:Nat}(he:e=.returned (.tuple #[.slice A n c,.bool false]))(hb:Below w w w'):Ke o w e w':=by
 rw[ho];exact⟨⟨A,n,c,he⟩,hb⟩
theorem Zv(s d:List UInt8)(w:World)(hs:s.length<=4000000)(h:Cl s=none):
  Calls prog 22 #[s,d] w (Ke (At s d) w):=by
 have HF:=Aa (show At s d=none by unfold At;rw[h]);have Hof:=Aa (fun W=>Vc s W hs);rw[h]at Hof;clear h;go_enter func22,ntmps22;go_wp2_with fail;refine(Hof.o _).mono ?_;rintro e w1 ⟨⟨A,n,c,rfl⟩,hb⟩;go_wp2_with fail;refine aF (v:=.tuple #[.slice none 0 0,.bool false]) (by simp[results,results22,go_sem]) rfl ?_;exact Ke.no HF.o rfl hb
theorem Qdp(s d:List UInt8)(w:World)(hs:s.length<=4000000)(hd:d.length<=4000000)(S:List Ty)(h:Cl s=some S)(hk:Dd d=none):
  Calls prog 22 #[s,d] w (Ke (At s d) w):=by
 have HF:=Aa (show At s d=none by unfold At;rw[h,hk]);have Hof:=Aa (fun W=>Vc s W hs);have Hkd:=Aa (fun W=>Qk d.length d W (An _) aH);rw[h]at Hof;rw[hk]at Hkd;clear h hk;go_enter func22,ntmps22;go_wp2_with fail;refine(Hof.o _).mono ?_;rintro e w1 ⟨⟨v,xs,rfl,hx,hsc⟩,hb⟩;clear hsc;go_wp2_with fail;refine(Hkd.o _).mono ?_;rintro e w2 ⟨rfl,rfl⟩;go_wp2_with fail;refine aF (v:=.tuple #[.slice none 0 0,.bool false]) (by simp[results,results22,go_sem]) rfl ?_;exact Ke.no HF.o rfl hb
theorem Ke.of{w w':World}{e:Ending}{S:List Ty}{k:Kd}{v:Value}{xs:List (Ty × Value)}{b:Bool}{o:Option (List Ty × Kd)}(ho:o=if b=true then some (S,k)else none)(he:e=.returned (.tuple #[v,.bool b]))(hx:Af xs=S)(hs:Gl w' v xs)(hb:Below w w w'):Ke o w e w':=by
 cases b with
 |true=>rw[ho];exact⟨⟨v,xs,he,hx,hs⟩,hb⟩
 |false=>
  obtain⟨A,c,rfl,_⟩:=hs;rw[ho];exact⟨⟨A,_,c,he⟩,hb⟩
theorem Qi4(s d:List UInt8)(w:World)(hs:s.length<=4000000)(S:List Ty)(h:Cl s=some S)(k:Kd)(hk:Dd d=some k):
  Calls prog 22 #[s,d] w (Ke (At s d) w):=by
 obtain⟨hok,rfl⟩:=Fr.1 hk;have HF:=Aa (show At s (Be k)=if Cc S k then some (S,k)else none by unfold At;rw[h,hk]);have Hof:=Aa (fun W=>Vc s W hs);have hl:=hok.2.2;have Hkd:=Aa (fun W=>Qk (Be k).length (Be k) W (An _) aH);have Hok:=Aa hok;rw[h]at Hof;rw[hk]at Hkd;clear h hk hok;go_enter func22,ntmps22;go_wp2_with fail;refine(Hof.o _).mono ?_;rintro e w1 ⟨⟨v,xs,rfl,hx,hsc⟩,hb⟩;subst hx;have Hsc:=Aa hsc;obtain⟨A,c,rfl,_,_,hfds⟩:=hsc;have Hfds:=Aa hfds;have Hb:=Aa hb;clear hb hfds;go_wp2_with fail;refine(Hkd.o _).mono ?_;rintro e w2 ⟨rfl,rfl⟩;go_wp2_with fail;refine(N3 k Hok.o _).mono ?_;rintro e w2 ⟨rfl,rfl⟩;go_wp2_with fail;refine(Sx k Hok.o _).mono ?_;rintro e w2 ⟨rfl,rfl⟩;go_wp2_with fail;refine(Xl _ xs (Xx k) _ Hsc.o).mono ?_;rintro e w2 ⟨rfl,hb2⟩;have Hb2:=Aa (Hb.o.trans (hb2.mono Hb.o.size));have Hs2:=Aa (Hsc.o.below hb2);clear hb2;cases hx2:D8 xs (Xx k)with
 |none=>
  unfold Xp Qo;rcases hir:X7 k with _|_
  ·have Hr:=Aa (show (if Cc (Af xs) k then some (Af xs,k)else none)=if (true:Bool)=true then some (Af xs,k)else none by
    have:=Nb xs k;rw[hx2,hir]at this;simp at this;simp[this])
   go_wp2_with fail;refine aF (v:=.tuple #[.slice A xs.length c,.bool true]) (by simp[results,results22,go_sem]) rfl ?_;exact lC
  have Hr:=Aa (show (if Cc (Af xs) k then some (Af xs,k)else none)=if (false:Bool)=true then some (Af xs,k)else none by
   have:=Nb xs k;rw[hx2,hir]at this;simp at this;simp[this])
  go_wp2_with fail;refine aF (v:=.tuple #[.slice A xs.length c,.bool false]) (by simp[results,results22,go_sem]) rfl ?_;exact Ke.of (b:=false) (HF.o.trans Hr.o) rfl rfl (Hs2.o.below ((Ap _ _).alloc (An _) _)) aY
 |some y=>
  obtain⟨ty,yv⟩:=y;obtain⟨A5,c5,e5,_⟩:=Hfds.o _ (Cu hx2).1;simp only[]at e5;subst e5;unfold Xp Mj;rcases hir:X7 k with _|_
  ·have Hr:=Aa (show (if Cc (Af xs) k then some (Af xs,k)else none)=if (true:Bool)=true then some (Af xs,k)else none by
    have:=Nb xs k;rw[hx2,hir]at this;simp at this;simp[this])
   go_wp2_with fail;refine aF (v:=.tuple #[.slice A xs.length c,.bool true]) (by simp[results,results22,go_sem]) rfl ?_;exact lC
  have Hr:=Aa (show (if Cc (Af xs) k then some (Af xs,k)else none)=if (true:Bool)=true then some (Af xs,k)else none by
   have:=Nb xs k;rw[hx2,hir]at this;simp at this;simp[this])
  go_wp2_with fail;refine aF (v:=.tuple #[.slice A xs.length c,.bool true]) (by simp[results,results22,go_sem]) rfl ?_;exact lC
theorem Pm(s d:List UInt8)(w:World)(hs:s.length<=4000000)(hd:d.length<=4000000):
  Calls prog 22 #[s,d] w (Ke (At s d) w):=by
 cases h:Cl s with
 |none=>exact Zv s d w hs h
 |some S=>cases hk:Dd d with
  |none=>exact Qdp s d w hs hd S h hk
  |some k=>exact Qi4 s d w hs S h k hk
end
end Go.Proofs.YtbdibdghphdcdaaGreatDoor
