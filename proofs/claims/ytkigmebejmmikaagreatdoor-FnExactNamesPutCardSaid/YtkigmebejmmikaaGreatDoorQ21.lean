/- Texts joined. Conditions: as each theorem names them. -/
import Derived.BigQuiet
import Derived.Sort.Walk0
import Derived.Test.YtkigmebejmmikaaGreatDoorQ03
import Derived.Test.YtkigmebejmmikaaGreatDoorQ04
import Derived.Test.YtkigmebejmmikaaGreatDoorQ05
import Derived.Test.YtkigmebejmmikaaGreatDoorQ06
import Derived.Test.YtkigmebejmmikaaGreatDoorQ07
import Derived.Test.YtkigmebejmmikaaGreatDoorQ11
import Derived.Test.YtkigmebejmmikaaGreatDoorQ13
import Derived.Test.YtkigmebejmmikaaGreatDoorQ17
import Derived.Test.YtkigmebejmmikaaGreatDoorQ18
import Derived.Test.YtkigmebejmmikaaGreatDoorQ19
import Derived.Test.YtkigmebejmmikaaGreatDoorQ20
set_option maxRecDepth 100000
set_option maxHeartbeats 32000000
set_option linter.unusedVariables false
set_option linter.unusedSimpArgs false
namespace Go.Proofs.YtkigmebejmmikaaGreatDoor
open Go.RowKit Go.Proofs.Tryz
theorem Vm(s:List UInt8)(w:World)(hs:s.length<=1000):
  Calls prog 78 #[.string ⟨s.toArray⟩] w (Dd (Cz s) w):=by
 rcases Eo 61 s with⟨hn,_⟩|⟨p,u,h,hp,_⟩
 ·exact Qbo s w hs hn
 cases p with
 |nil=>exact Qao s u w hs h
 |cons c nm=>
  rcases Bool.eq_false_or_eq_true (Au nm)with hnm|hnm
  ·by_cases hso:Dp c
   ·by_cases hu:u=[]
    ·rcases hso with rfl|rfl|rfl
     ·exact Ya s nm u w hs h hp hnm hu
     ·exact Xq s nm u w hs h hp hnm hu
     exact Xr s nm u w hs h hp hnm hu
    rcases hso with rfl|rfl|rfl
    ·exact sType_full82 s nm u w hs h hp hnm hu
    ·exact sType_full85 s nm u w hs h hp hnm hu
    exact sType_full69 s nm u w hs h hp hnm hu
   exact Qbm s c nm u w hs h hp hnm hso
  exact Qcg s c nm u w hs h hp hnm
section
attribute [local go_sem] Qja Qit Qib Qgw ByteArray.mk_append_mk
def Ry(k:Kd):Bool:=decide (k.base=[64])
def Rp(k:Kd):List UInt8:=if k.base=[64]then k.name else[]
theorem Pk(k:Kd)(hk:Co k)(w:World):
  Calls prog 43 #[.string ⟨(Ce k).toArray⟩] w fun e w'=>e=.returned (.tuple #[.string ⟨(Rp k).toArray⟩,.bool (Ry k)])/\w=w':=by
 obtain⟨_,hb,hl⟩:=hk
 unfold Ce Rp Ry
 by_cases h:k.base=[64]
 ·rw[if_pos h,if_pos h,decide_eq_true h]
  refine Xc k.name w ?_
  rcases hb with⟨_,hn⟩|⟨h2,_⟩
  ·have:=(C9.1 hn).2.1;omega
  rcases h2 with h2|h2|h2<;>· rw[h]at h2;exact absurd h2 (by decide)
 rw[if_neg h,if_neg h,decide_eq_false h]
 rcases hb with⟨h2,_⟩|⟨h2,_⟩
 ·exact absurd h2 h
 rcases h2 with h2|h2|h2<;>· rw[h2];exact Zk _ [] w (by decide) (by simp)
theorem Rq(k:Kd)(hk:Co k)(w:World):
  Calls prog 44 #[.string ⟨(Bq k).toArray⟩] w fun e w'=>e=.returned (.string ⟨(Ce k).toArray⟩)/\w=w':=
 Qch k w hk.1 (Vq hk.2.1) (by have:=hk.2.2;omega)
theorem Kb(xs:List (Ty × Value))(k:Kd):Cb (Al xs) k↔(Ry k=true->(Ew xs (Rp k)).isSome=true):=by
 unfold Cb Ry Rp
 by_cases h:k.base=[64]
 ·rw[if_pos h,J4];simp[h]
 rw[if_neg h];simp[h]
def Rf(S:List Ty):Prop:=(S.Pairwise fun t u=>t.name≠u.name)/\Fq S/\∀t∈S,Bt S (S.length+1) t=true
def Qb1(xs:List (Ty × Value))(k:Nat):Prop:=
 (((xs.take k).map (·.1)).Pairwise fun t u=>t.name≠u.name)/\∀x∈xs.take k,x.1.sort≠69->∀f∈x.1.fields,Cb (Al xs) f.kind
theorem Qds(xs:List (Ty × Value)):Qb1 xs 0:=⟨by simp,by simp⟩
theorem Qdd{xs:List (Ty × Value)}{k:Nat}(hk:k<xs.length)(h:Qb1 xs k)(h1:∀x∈xs.take k,x.1.name≠xs[k].1.name)(h2:xs[k].1.sort≠69->∀f∈xs[k].1.fields,Cb (Al xs) f.kind):Qb1 xs (k+1):=by
 unfold Qb1
 rw[Bn xs k hk]
 refine⟨?_,?_⟩
 ·rw[List.map_append,List.pairwise_append]
  refine⟨h.1,by simp,?_⟩
  intro a ha b hb
  obtain⟨x,hx,rfl⟩:=List.mem_map.1 ha
  simp at hb;subst hb
  exact h1 x hx
 intro x hx
 rcases List.mem_append.1 hx with hx|hx
 ·exact h.2 x hx
 simp at hx;subst hx;exact h2
theorem Qgp{xs:List (Ty × Value)}(h:Qb1 xs xs.length):((Al xs).Pairwise fun t u=>t.name≠u.name)/\Fq (Al xs):=by
 unfold Qb1 at h
 rw[List.take_length]at h
 refine⟨h.1,?_⟩
 intro t ht hs f hf
 obtain⟨x,hx,rfl⟩:=List.mem_map.1 ht
 exact h.2 x hx hs f hf
theorem Qdp{xs:List (Ty × Value)}{j k:Nat}(hjk:j<k)(hk:k<xs.length)(h:xs[j].1.name=xs[k].1.name):¬Rf (Al xs):=by
 rintro⟨hp,_⟩
 have:=List.pairwise_iff_getElem.1 hp j k (by unfold Al;simp;omega) (by unfold Al;simp;omega) hjk
 unfold Al at this
 simp at this
 exact this h
theorem Qfs{xs:List (Ty × Value)}{k j:Nat}(hk:k<xs.length)(hs:xs[k].1.sort≠69)(hj:j<xs[k].1.fields.length)(h:¬Cb (Al xs) xs[k].1.fields[j].kind):¬Rf (Al xs):=by
 rintro⟨_,hp,_⟩
 exact h (hp xs[k].1 (List.mem_map.2 ⟨xs[k],List.getElem_mem hk,rfl⟩) hs _ (List.getElem_mem hj))
theorem Qe6{xs:List (Ty × Value)}{k:Nat}(hk:k<xs.length)(h:Bt (Al xs) (xs.length+1) xs[k].1=false):¬Rf (Al xs):=by
 rintro⟨_,_,hp⟩
 have:=hp xs[k].1 (List.mem_map.2 ⟨xs[k],List.getElem_mem hk,rfl⟩)
 rw[show (Al xs).length=xs.length by unfold Al;simp,h]at this
 cases this
theorem Qbg(v:Value)(xs:List (Ty × Value))(w:World)(h:Kf w v xs)(hok:∀x∈xs,Dc x.1):
  Calls prog 79 #[v] w fun e w'=>(∃b,e=.returned (.bool b)/\(b=true↔Rf (Al xs)))/\Below w.heap.size w w':=by
 have H:=Aa h
 have Hok:=Aa hok
 obtain⟨A,c,rfl,hxl,hrow,hfds⟩:=h
 have Hrow:=Aa hrow
 have Hfds:=Aa hfds
 clear hok hrow hfds
 go_enter func79,ntmps79
 go_wp2_with fail
 go_loopw [3] (fun i wr=>∃k:Nat,i=.int .i64 k/\k<=xs.length/\Hid (Qb1 xs k)/\Hid (Below w.heap.size w wr)) (fun i _=>xs.length - (intOf i).toNat)
 case atStart=>exact⟨0,rfl,Nat.zero_le _,Qds xs,As _ _⟩
 case round=>
  obtain⟨k,rfl,hk,hto,hbr⟩:=hrel
  by_cases hlt:k<xs.length
  ·have k1:(0:Int)<=(k:Int):=by omega
   have k2:(k:Int)<(xs.length:Int):=by omega
   go_wp2_with fail
   go_loopw [4] (fun i wq=>∃j:Nat,i=.int .i64 j/\j<=k/\(∃q,wq=wr.drewN q)/\Hid (∀x∈xs.take j,x.1.name≠xs[k].1.name)) (fun i _=>k - (intOf i).toNat)
   case atStart=>exact⟨0,rfl,Nat.zero_le _,⟨0,rfl⟩,by intro x hx;simp at hx⟩
   case round=>
    obtain⟨j,rfl,hj,⟨q,rfl⟩,hin⟩:=hrel
    obtain⟨b,off,rfl,hbl,c0,c1,c2⟩:=Kf.at_ (Hrow.o.below hbr.o) hlt
    by_cases hjl:j<k
    ·obtain⟨b',off',e',hbl',d0,d1,d2⟩:=Kf.at_ (Hrow.o.below hbr.o) (show j<xs.length by omega)
     simp only[Option.some.injEq,Addr.mk.injEq]at e'
     obtain⟨rfl,rfl,_⟩:=e'
     have Hnn:=Aa (fun h=>Qdp (xs:=xs) hjl hlt h)
     have Hts:=Aa (Bn xs j (show j<xs.length by omega))
     have j1:(0:Int)<=(j:Int):=by omega
     have j2:(j:Int)<(xs.length:Int):=by omega
     have j3:(j:Int)<(k:Int):=by omega
     by_cases he:xs[j].1.name=xs[k].1.name
     ·have t1:(xs[j].1.name == xs[k].1.name)=true:=by simpa using he
      have Hno:=Aa (Hnn.o he)
      clear he
      go_wp2_with fail
      go_quiet (fail)
      go_wp2_with fail
      go_ret
      exact⟨⟨false,rfl,by simp[Hno.o]⟩,below_drewN (below_drewN hbr.o q) _⟩
     have t1:(xs[j].1.name == xs[k].1.name)=false:=by simpa using he
     have Hin:=Aa (show ∀x∈xs.take (j+1),x.1.name≠xs[k].1.name by
      intro x hx
      rw[Hts.o]at hx
      rcases List.mem_append.1 hx with hx|hx
      ·exact hin.o x hx
      simp at hx;subst hx;exact he)
     clear he
     go_wp2_with fail
     go_quiet (fail)
     go_wp2
     go_roundw
     case rel=>exact⟨j+1,by go_num,by omega,⟨_,rfl⟩,Hin.o⟩
     case measure=>simp[intOf];omega
    ·obtain rfl:j=k:=by omega
     have j3:¬(j:Int)<(j:Int):=by omega
     have Hbk:=Aa (below_drewN hbr.o q)
     have Hnk:=Aa hin.o
     have Hxk:=Aa (Hfds.o _ (List.getElem_mem hlt))
     have Hokk:=Aa (Hok.o _ (List.getElem_mem hlt))
     have Hnok:=Aa (fun(jj:Nat) (hs:xs[j].1.sort≠69) (hjj:jj<xs[j].1.fields.length) h=>Qfs hlt hs hjj h)
     have Hsuc:=Aa (fun h2=>Qdd hlt hto.o Hnk.o h2)
     clear hin hbl c0 c1 c2 hto
     go_wp2_with fail
     go_loopw [5] (fun i wq=>∃m:Nat,i=.int .i64 m/\m<=(xs[j]).1.fields.length/\Hid (Below w.heap.size w wq)/\Hid (∀f∈(xs[j]).1.fields.take m,Cb (Al xs) f.kind)) (fun i _=>(xs[j]).1.fields.length - (intOf i).toNat)
     case atStart=>exact⟨0,rfl,Nat.zero_le _,Hbk.o,by intro x hx;simp at hx⟩
     case round=>
      obtain⟨m,rfl,hm,hbq,hin⟩:=hrel
      obtain⟨b',off',e',hbl',d0,d1,d2⟩:=Kf.at_ (Hrow.o.below hbq.o) hlt
      simp only[Option.some.injEq,Addr.mk.injEq]at e'
      obtain⟨rfl,rfl,_⟩:=e'
      generalize xs[j]=x at d0 d1 d2 Hxk Hokk Hnok Hsuc hin hm ⊢
      obtain⟨t,fv⟩:=x
      simp only[]at d0 d1 d2 hm
      obtain⟨A2,c2,e2,hfl,hr2⟩:=Hxk.o
      simp only[]at e2
      subst e2
      have Hr2:=Aa hr2
      clear hr2
      have hsl:=t.sort.toNat_lt
      have hfl':t.fields.length<=1000:=hfl
      by_cases hml:m<t.fields.length
      ·have m1:(0:Int)<=(m:Int):=by omega
       have m2:(m:Int)<(t.fields.length:Int):=by omega
       by_cases hs:t.sort=69
       ·have t1:((t.sort.toNat:Int) != 69)=false:=by have:=Bl hs;simpa using this
        have t2:((t.sort.toNat:Int) == 69)=true:=Bl hs
        have Hto:=Aa (Hsuc.o (fun h=>absurd hs h))
        clear hs
        go_wp2_with fail
        go_roundw
        case rel=>exact⟨j+1,by go_num,by omega,Hto.o,hbq.o⟩
        case measure=>simp[intOf];omega
       have t1:((t.sort.toNat:Int) != 69)=true:=by have:=An hs;simpa using this
       have t2:((t.sort.toNat:Int) == 69)=false:=An hs
       obtain⟨bf,of,rfl,hbf,g0,g1,g2,g3⟩:=Fg.at_ (Hr2.o.below hbq.o) hml
       have hfm:=List.getElem_mem hml
       have Hkd:=Aa ((Hokk.o.2.2.1.1 _ hfm).2.2.2.2 hs).1
       have Hno:=Aa (fun h=>Hnok.o m hs hml h)
       have Hts:=Aa (Bn t.fields m hml)
       generalize t.fields[m]=f at g0 g1 g2 g3 Hkd Hno Hts
       clear hs hfm
       have Hrf:=Aa (Kb xs f.kind)
       have Hfind:=Aa (fun W (hW:Below w.heap.size w W)=>Qr (.slice (some ⟨b,off,none⟩) xs.length c) xs (Rp f.kind) W (H.o.below hW))
       go_wp2_with fail
       refine(Rq f.kind Hkd.o _).mono ?_
       rintro e w4 ⟨rfl,rfl⟩
       go_wp2_with fail
       refine(Pk f.kind Hkd.o _).mono ?_
       rintro e w4 ⟨rfl,rfl⟩
       go_wp2_with fail
       refine(Hfind.o _ hbq.o).mono ?_
       rintro e w4 ⟨rfl,hb4⟩
       have Hb4:=Aa (hbq.o.trans (hb4.mono hbq.o.size))
       clear hb4
       cases hx:Ew xs (Rp f.kind)with
       |none=>
        unfold Q4 M3
        rcases hir:Ry f.kind with _|_
        ·have hrk:Cb (Al xs) f.kind:=Hrf.o.2 (fun h=>by rw[hir]at h;cases h)
         have Hin:=Aa (show ∀f∈t.fields.take (m+1),Cb (Al xs) f.kind by
          intro g hg
          rw[Hts.o]at hg
          rcases List.mem_append.1 hg with hg|hg
          ·exact hin.o g hg
          simp at hg;subst hg;exact hrk)
         clear hrk
         go_wp2_with fail
         go_roundw
         case rel=>exact⟨m+1,by go_num,by omega,(by(repeat (first|exact Hb4.o|refine Below.setCell ?_ (by first|exact Ap _|exact Hb4.o.size|(simp;done)|(simp;omega)|omega) _|refine Below.alloc ?_ (by first|exact Ap _|exact Hb4.o.size|(simp;done)|(simp;omega)|omega) _|refine Below.drew ?_))),Hin.o⟩
         case measure=>simp[intOf];omega
        have Hn:=Aa (Hno.o (fun h=>by have:=Hrf.o.1 h hir;rw[hx]at this;cases this))
        go_wp2_with fail
        go_ret
        exact⟨⟨false,rfl,by simp[Hn.o]⟩,(by(repeat (first|exact Hb4.o|refine Below.setCell ?_ (by first|exact Ap _|exact Hb4.o.size|(simp;done)|(simp;omega)|omega) _|refine Below.alloc ?_ (by first|exact Ap _|exact Hb4.o.size|(simp;done)|(simp;omega)|omega) _|refine Below.drew ?_)))⟩
       |some y=>
        have hrk:Cb (Al xs) f.kind:=Hrf.o.2 (fun _=>by rw[hx];rfl)
        obtain⟨ty,yv⟩:=y
        obtain⟨A5,c5,e5,_⟩:=Hfds.o _ (Ek hx).1
        simp only[]at e5
        subst e5
        unfold Q4 Pc
        rcases hir:Ry f.kind with _|_
        ·skip
         have Hin:=Aa (show ∀f∈t.fields.take (m+1),Cb (Al xs) f.kind by
          intro g hg
          rw[Hts.o]at hg
          rcases List.mem_append.1 hg with hg|hg
          ·exact hin.o g hg
          simp at hg;subst hg;exact hrk)
         clear hrk
         go_wp2_with fail
         go_roundw
         case rel=>exact⟨m+1,by go_num,by omega,(by(repeat (first|exact Hb4.o|refine Below.setCell ?_ (by first|exact Ap _|exact Hb4.o.size|(simp;done)|(simp;omega)|omega) _|refine Below.alloc ?_ (by first|exact Ap _|exact Hb4.o.size|(simp;done)|(simp;omega)|omega) _|refine Below.drew ?_))),Hin.o⟩
         case measure=>simp[intOf];omega
        skip
        have Hin:=Aa (show ∀f∈t.fields.take (m+1),Cb (Al xs) f.kind by
         intro g hg
         rw[Hts.o]at hg
         rcases List.mem_append.1 hg with hg|hg
         ·exact hin.o g hg
         simp at hg;subst hg;exact hrk)
        clear hrk
        go_wp2_with fail
        go_roundw
        case rel=>exact⟨m+1,by go_num,by omega,(by(repeat (first|exact Hb4.o|refine Below.setCell ?_ (by first|exact Ap _|exact Hb4.o.size|(simp;done)|(simp;omega)|omega) _|refine Below.alloc ?_ (by first|exact Ap _|exact Hb4.o.size|(simp;done)|(simp;omega)|omega) _|refine Below.drew ?_))),Hin.o⟩
        case measure=>simp[intOf];omega
      ·obtain rfl:m=t.fields.length:=by omega
       have m2:¬(t.fields.length:Int)<(t.fields.length:Int):=by omega
       have Hto:=Aa (Hsuc.o (fun _ f hf=>hin.o f (by rw[List.take_length];exact hf)))
       go_wp2_with fail
       go_roundw
       case rel=>exact⟨j+1,by go_num,by omega,Hto.o,hbq.o⟩
       case measure=>simp[intOf];omega
  ·obtain rfl:k=xs.length:=by omega
   have k2:¬(xs.length:Int)<(xs.length:Int):=by omega
   have Hall:=Aa (Qgp hto.o)
   clear hto
   go_wp2_with fail
   go_loopw [10] (fun i wq=>∃j:Nat,i=.int .i64 j/\j<=xs.length/\Hid (Below w.heap.size w wq)/\Hid (∀x∈xs.take j,Bt (Al xs) (xs.length+1) x.1=true)) (fun i _=>xs.length - (intOf i).toNat)
   case atStart=>exact⟨0,rfl,Nat.zero_le _,hbr.o,by intro x hx;simp at hx⟩
   case round=>
    obtain⟨j,rfl,hj,hbq,hin⟩:=hrel
    by_cases hjl:j<xs.length
    ·obtain⟨b,off,rfl,hbl,d0,d1,d2⟩:=Kf.at_ (Hrow.o.below hbq.o) hjl
     have Hts:=Aa (Bn xs j hjl)
     have Hno:=Aa (fun h=>Qe6 (xs:=xs) hjl h)
     have Hokj:=Aa (Hok.o _ (List.getElem_mem hjl))
     have hxj:=(Hfds.o _ (List.getElem_mem hjl)).below hbq.o
     generalize xs[j]=x at d0 d1 d2 Hts Hno Hokj hxj
     obtain⟨t,fv⟩:=x
     simp only[]at d0 d1 d2 hxj
     have Hxj:=Aa hxj
     obtain⟨A2,c2,rfl,_⟩:=hxj
     have j1:(0:Int)<=(j:Int):=by omega
     have j2:(j:Int)<(xs.length:Int):=by omega
     have He:=Aa (fun W (hW:Below w.heap.size w W) (hX:Fg W (.slice A2 t.fields.length c2) t.fields)=>Qdc (.slice (some ⟨b,off,none⟩) xs.length c) (.slice A2 t.fields.length c2) xs t W (H.o.below hW) Hokj.o hX Hok.o)
     go_wp2_with fail
     refine(He.o _ hbq.o Hxj.o).mono ?_
     rintro e w4 ⟨rfl,hb4⟩
     have Hb4:=Aa (hbq.o.trans (hb4.mono hbq.o.size))
     clear hb4
     rcases Bool.eq_false_or_eq_true (Bt (Al xs) (xs.length+1) t)with he|he
     ·have Hin:=Aa (show ∀x∈xs.take (j+1),Bt (Al xs) (xs.length+1) x.1=true by
       intro x hx
       rw[Hts.o]at hx
       rcases List.mem_append.1 hx with hx|hx
       ·exact hin.o x hx
       simp at hx;subst hx;exact he)
      rw[he]
      clear he
      go_wp2_with fail
      go_roundw
      case rel=>exact⟨j+1,by go_num,by omega,Hb4.o,Hin.o⟩
      case measure=>simp[intOf];omega
     have Hn:=Aa (Hno.o he)
     rw[he]
     clear he
     go_wp2_with fail
     go_ret
     exact⟨⟨false,rfl,by simp[Hn.o]⟩,Hb4.o⟩
    ·obtain rfl:j=xs.length:=by omega
     have Hfin:=Aa (show Rf (Al xs)from⟨Hall.o.1,Hall.o.2,fun t ht=>by
      obtain⟨x,hx,rfl⟩:=List.mem_map.1 ht
      rw[show (Al xs).length=xs.length by unfold Al;simp]
      exact hin.o x (by rw[List.take_length];exact hx)⟩)
     clear hin
     go_wp2_with fail
     go_ret
     exact⟨⟨true,rfl,by simp[Hfin.o]⟩,hbq.o⟩
theorem Qc2{w:World}{b1 b2 k1 k2 n1 n2:Nat}{e1 e2:TypeId}{v1 v2:Value}{xs ys:List Value}(h1:w.ownsRow b1 e1 k1 v1 n1 xs)(h2:w.ownsRow b2 e2 k2 v2 n2 ys)(hne:e1≠e2):v1.ownBlock=none\/v1.ownBlock≠v2.ownBlock:=by
 rcases h1.2 with⟨rfl,_⟩|⟨g,cap,cur,rfl,_,hh,_⟩
 ·exact .inl rfl
 rcases h2.2 with⟨rfl,_⟩|⟨g',cap',cur',rfl,_,hh',_⟩
 ·exact .inr (by simp[Value.ownBlock])
 refine .inr ?_
 simp only[Value.ownBlock,ne_eq,Option.some.injEq]
 rintro rfl
 rw[hh]at hh'
 simp only[Option.some.injEq,Obj.cells.injEq]at hh'
 exact hne hh'.2.1
section
variable {P:Program}
theorem Y7(w:World){ops:Array Oper}{rest:List Oper}{o:Oper}{a:Act}{Q:Exit->Act->World->Prop}(hgd:o.guard=none)(s x:Operand)(t:TypeId)
  (ho:o.op=.call {callee:=.builtin .append,args:=#[s,x],argTypes:=#[t,t]})
  (base:Nat) (e:TypeId) (z:Value) (k bytes:Nat) (ht:P.underlying t=some (.slice e)) (hinfo:(P.info? e).map (fun i=>(i.zero,i.size,i.bytes))=some (some z,k,bytes))
  (hzs:z.cells.size=k) (hk:0<k) (W:World) (us:List Value) (hul:us.length=k) (hw:w=W.alloc (.cells us.toArray e)) (hu:∀u∈us,u.oneCell'=true) (v:Value) (n:Nat) (xs:List Value) (hs:a.eval s=v) (hx:a.eval x=.slice (some ⟨W.heap.size,0,none⟩) 1 1)
  (hown:W.ownsRow base e k v n xs)
  (h63:n+1<=maxLen) (hbytes:(n+1)*bytes<=140737488355328) (hbase:base<=W.heap.size)
  (h:∀v' w',w'.ownsRow base e k v' (n+1) (xs++us)->Below base W w'->(W.alloc (.cells us.toArray e)).grownBy w' v.ownBlock->wpList P ops Q rest (a.put o.dst v') w'):wpList P ops Q (o::rest) a w:=by
 subst hw
 obtain⟨i0,hi,hz0,hz1,hz2⟩:=info_parts hinfo
 refine wpList_append_own _ hgd s x t ho base e i0 z k bytes ht hi hz0 hz1 hz2 hzs hk v n xs hs (hown.alloc _) ⟨W.heap.size,0,none⟩ 1 1 us hx (by omega) ?_ hu h63 hbytes ?_ ?_
 ·intro j y hj
  have e1:(⟨W.heap.size,0,none⟩:Addr).add j=⟨W.heap.size,j,none⟩:=by unfold Addr.add;split<;>simp_all
  rw[e1,World.cell?_alloc_new]
  simpa using hj
 ·have:(W.alloc (.cells us.toArray e)).heap.size=W.heap.size+1:=by simp
  omega
 intro v' w' h1 h2 _
 exact h v' w' h1 (((As base W).alloc hbase _).grown h2 (by simp;omega) (fun k hk=>(hown.lt k hk).1)) h2
end
def J8(w:World)(base:Nat)(xs:List (Ty × Value)):Prop:=∀x∈xs,w.ownsRow base 118 4 x.2 x.1.fields.length (x.1.fields.flatMap sfc)/\Dc x.1
theorem J8.below{w w':World}{base:Nat}{xs:List (Ty × Value)}(h:J8 w base xs)(hb:Below w.heap.size w w'):J8 w' base xs:=fun x hx=>⟨Bf (h x hx).1 hb,(h x hx).2⟩
theorem J8.grown{w w':World}{base b2 k n:Nat}{xs:List (Ty × Value)}{v:Value}{ys:List Value}{e:TypeId}(h:J8 w base xs)(hv:w.ownsRow b2 e k v n ys)(hne:118≠e)(hg:w.grownBy w' v.ownBlock):J8 w' base xs:=
 fun x hx=>⟨(h x hx).1.kept hg (Qc2 (h x hx).1 hv hne),(h x hx).2⟩
theorem J8.fds{w:World}{base:Nat}{xs:List (Ty × Value)}(h:J8 w base xs):∀x∈xs,Fg w x.2 x.1.fields:=fun x hx=>by
 obtain⟨h1,h2⟩:=h x hx
 have hl:=h2.2.2.2.1
 obtain⟨A,c,e,hr⟩:=Bh.ownK h1 (by unfold maxLen;omega)
 exact⟨A,c,e,by omega,hr⟩
theorem Kf.own{w:World}{base:Nat}{v:Value}{xs:List (Ty × Value)}(h:w.ownsRow base 95 3 v xs.length (xs.flatMap stc))(hl:xs.length<=1000)(ht:J8 w base xs):Kf w v xs:=by
 obtain⟨A,c,e,hr⟩:=Bh.ownK h (by unfold maxLen;omega)
 exact⟨A,c,e,hl,hr,ht.fds⟩
theorem Y8{L:List (List UInt8)}{k:Nat}(hk:k<L.length){S:List Ty}(h:Ev L=(Ev (L.drop k)).map (S ++ ·)):
  Ev L=(match Cz L[k]with|none=>none|some t=>(Ev (L.drop (k+1))).map ((S++[t]) ++ ·)):=by
 rw[h,List.drop_eq_getElem_cons hk,Ev,Zr]
 cases D7 L[k]with
 |none=>rfl
 |some t=>
  simp only
  cases Ev (L.drop (k+1))with
  |none=>rfl
  |some r=>simp
theorem Jc{s:List UInt8}(h:400<s.length\/Mo s=none):Ca s=none:=by
 cases hs:Ca s with
 |none=>rfl
 |some S=>
  have:=Nq.1 hs
  rcases h with h|h
  ·omega
  rw[h]at this;exact absurd this.2.1 (by simp)
theorem Vj{s:List UInt8}{S:List Ty}(h4:s.length<=400)(h:Mo s=some S)(b:Bool)(hb:b=true↔Rf S):Ca s=if b=true then some S else none:=by
 cases b with
 |true=>
  rw[if_pos rfl]
  exact Nq.2 ⟨h4,h,hb.1 rfl⟩
 |false=>
  rw[if_neg (by decide)]
  cases hs:Ca s with
  |none=>rfl
  |some T=>
   have:=Nq.1 hs
   rw[h]at this
   obtain⟨_,e,hv⟩:=this
   simp only[Option.some.injEq]at e
   subst e
   exact absurd (hb.2 hv) (by decide)
def Ha(o:Option (List Ty))(w:World)(e:Ending)(w':World):Prop:=
 (match o with
  |some S=>∃v xs,e=.returned (.tuple #[v,.bool true])/\Al xs=S/\Kf w' v xs
  |none=>∃A n c,e=.returned (.tuple #[.slice A n c,.bool false]))/\Below w.heap.size w w'
theorem Ha.no{w w':World}{e:Ending}{o:Option (List Ty)}(ho:o=none){A:Option Addr}{n c:Nat}(he:e=.returned (.tuple #[.slice A n c,.bool false]))(hb:Below w.heap.size w w'):Ha o w e w':=by
 rw[ho];exact⟨⟨A,n,c,he⟩,hb⟩
theorem Ha.yes{w w':World}{e:Ending}{o:Option (List Ty)}{v:Value}{xs:List (Ty × Value)}(ho:o=some (Al xs))(he:e=.returned (.tuple #[v,.bool true]))(hs:Kf w' v xs)(hb:Below w.heap.size w w'):Ha o w e w':=by
 rw[ho];exact⟨⟨v,xs,he,rfl,hs⟩,hb⟩
theorem Ma{w:World}{base:Nat}{v:Value}{ls:List (List UInt8)}(h:w.ownsRow base 9 1 v ls.length (Ae ls))(hne:ls≠[]):
  ∃g c,v=.slice (some ⟨g,0,none⟩) ls.length c/\base<=g/\g<w.heap.size/\∀j (hj:j<ls.length),w.cell? ⟨g,j,none⟩=some (.string ⟨ls[j].toArray⟩):=by
 rcases h.2 with⟨_,h0⟩|⟨g,cap,cur,rfl,hb,hh,_⟩
 ·cases ls with
  |nil=>exact absurd rfl hne
  |cons=>simp at h0
 refine⟨g,cap,rfl,hb,(h.lt g rfl).2,fun j hj=>?_⟩
 have:=h.cells (g:=g) rfl j (.string ⟨ls[j].toArray⟩) (by simp[Ae,hj])
 rwa [Qcj]at this
theorem Zl{s:List UInt8}(h:9<(Af 10 s).length):Mo s=none:=if_pos (.inl h)
theorem Z6{s:List UInt8}(h:(Af 10 s).getLast?≠some []):Mo s=none:=if_pos (.inr h)
theorem Qeh{s:List UInt8}(h:¬9<(Af 10 s).length)(h2:(Af 10 s).getLast?=some []):Mo s=Ev (Af 10 s).dropLast:=if_neg (by rintro(h3|h3)<;>contradiction)
theorem Qo(s:List UInt8)(w:World)(hs:s.length<=4000000)(h:400<s.length\/9<(Af 10 s).length\/(Af 10 s).getLast?≠some []):
  Calls prog 41 #[.string ⟨s.toArray⟩] w (Ha (Ca s) w):=by
 have HF:=Aa (show Ca s=none by
  rcases h with h|h|h
  ·exact Jc (.inl h)
  ·exact Jc (.inr (Zl h))
  exact Jc (.inr (Z6 h)))
 have Hcut:=Aa (fun W=>Cc s 10 10 rfl W hs)
 have hne:=Dy 10 s
 have hle:=Gm 10 s
 generalize Af 10 s=L at h Hcut hne hle
 go_enter func41,ntmps41
 go_wp2_with fail
 refine(Hcut.o _).mono ?_
 rintro e w1 ⟨v,rfl,ho,hb⟩
 obtain⟨g,c,rfl,hg1,hg2,hcells⟩:=Ma ho hne
 have hpos:0<L.length:=List.length_pos_iff.2 hne
 have Hb:=Aa hb
 have k1:(0:Int)<=(L.length:Int) - 1:=by omega
 have k2:(L.length:Int) - 1<(L.length:Int):=by omega
 have k3:((L.length:Int) - 1).toNat=L.length - 1:=by omega
 by_cases h1:400<s.length
 ·have q1:(400:Int)<(s.length:Int):=by omega
  clear h hcells ho hb
  go_wp2_with fail
  refine bodyPost_ret (v:=.tuple #[.slice none 0 0,.bool false]) (by simp[results,results41,go_sem]) rfl ?_
  exact Ha.no HF.o rfl Hb.o
 have q1:¬(400:Int)<(s.length:Int):=by omega
 by_cases h2:9<L.length
 ·have q2:(9:Int)<(L.length:Int):=by omega
  clear h hcells ho hb
  go_wp2_with fail
  refine bodyPost_ret (v:=.tuple #[.slice none 0 0,.bool false]) (by simp[results,results41,go_sem]) rfl ?_
  exact Ha.no HF.o rfl Hb.o
 have q2:¬(9:Int)<(L.length:Int):=by omega
 have h3:L.getLast?≠some []:=by rcases h with h|h|h<;>first|exact h|exact absurd h h1|exact absurd h h2
 have cl:=hcells (L.length - 1) (by omega)
 have he:¬(L[L.length - 1]=[]):=by
  intro e
  apply h3
  rw[List.getLast?_eq_getElem?,List.getElem?_eq_getElem (by omega),e]
 have he':(L[L.length - 1] == [])=false:=by simpa using he
 clear h hcells ho hb h3
 generalize L[L.length - 1]=x at cl he he'
 go_wp2_with fail
 refine bodyPost_ret (v:=.tuple #[.slice none 0 0,.bool false]) (by simp[results,results41,go_sem]) rfl ?_
 exact Ha.no HF.o rfl Hb.o
def Th(w:World)(v:Value)(l:List Cl):Prop:=
 ∃g c,v=.slice (some ⟨g,0,none⟩) l.length c/\g<w.heap.size/\l.length<=c/\c<=maxLen/\∀j (hj:j<l.length),w.cell? ⟨g,j,none⟩=some (.string ⟨l[j].toArray⟩)
theorem Th.below{w w':World}{v:Value}{l:List Cl}(h:Th w v l)(hb:Below w.heap.size w w'):Th w' v l:=by
 obtain⟨g,c,rfl,hg,h1,h2,hc⟩:=h
 exact⟨g,c,rfl,Nat.lt_of_lt_of_le hg hb.size,h1,h2,fun j hj=>(hb.cell (p:=⟨g,j,none⟩) hg).trans (hc j hj)⟩
theorem Th.own{w:World}{base:Nat}{v:Value}{n:Nat}{l:List Cl}(h:w.ownsRow base 9 1 v n (Ae l))(hne:l≠[]):Th w v l:=by
 obtain rfl:n=l.length:=by have:=h.1;simp[Ae]at this;omega
 rcases h.2 with⟨_,h0⟩|⟨g,cap,cur,rfl,hb,hh,hnc,hcm,_⟩
 ·cases l with
  |nil=>exact absurd rfl hne
  |cons=>simp at h0
 refine⟨g,cap,rfl,(h.lt g rfl).2,hnc,hcm,fun j hj=>?_⟩
 have:=h.cells (g:=g) rfl j (.string ⟨l[j].toArray⟩) (by simp[Ae,hj])
 rwa [Qcj]at this
theorem Qi1(p:Cl->Bool):∀(l:List Cl),(∀(j:Nat) (hj:j<l.length),j<(l.takeWhile p).length->p l[j]=true)/\(∀(h:(l.takeWhile p).length<l.length),p l[(l.takeWhile p).length]=false) /\
  l.takeWhile p=l.take (l.takeWhile p).length/\l.dropWhile p=l.drop (l.takeWhile p).length/\(l.takeWhile p).length<=l.length
 |[]=>by simp
 |x::l=>by
  obtain⟨i1,i2,i3,i4,i5⟩:=Qi1 p l
  by_cases h:p x=true
  ·simp only[List.takeWhile_cons,List.dropWhile_cons,h,if_true,List.length_cons]
   refine⟨?_,?_,?_,?_,by omega⟩
   ·intro j hj hlt
    cases j with
    |zero=>simpa using h
    |succ j=>simpa using i1 j (by simpa using hj) (by simpa using hlt)
   ·intro hh
    simpa using i2 (by simpa using hh)
   ·simpa using i3
   simpa using i4
  have h':p x=false:=by simpa using h
  simp[h']
theorem Kf.fds{w:World}{v:Value}{xs:List (Ty × Value)}(h:Kf w v xs){x:Ty × Value}(hx:x∈xs):Fg w x.2 x.1.fields:=by
 obtain⟨_,_,_,_,_,h⟩:=h
 exact h x hx
theorem Ng{c d:UInt8}(h:c≠d):((c.toNat:Int) != (d.toNat:Int))=true:=by
 rw[bne_iff_ne];intro e
 exact h (UInt8.toNat_inj.1 (by omega))
theorem Kn{c d:UInt8}(h:c=d):((c.toNat:Int) != (d.toNat:Int))=false:=by subst h;simp
theorem Qb4(p:UInt8->Bool):∀(s:List UInt8) (i:Nat) (hi:i<s.length),(i<(s.takeWhile p).length->p s[i]=true)/\(i=(s.takeWhile p).length->p s[i]=false)
 |[],i,hi=>by simp at hi
 |x::s,0,hi=>by
  by_cases h:p x=true
  ·simp[h]
  simp[h]
 |x::s,i+1,hi=>by
  have ih:=Qb4 p s i (by simpa using hi)
  by_cases h:p x=true
  ·rw[List.takeWhile_cons_of_pos h];simpa using ih
  rw[List.takeWhile_cons_of_neg h];simp
theorem Qc(p:UInt8->Bool)(s:List UInt8):s.take (s.takeWhile p).length=s.takeWhile p/\s.drop (s.takeWhile p).length=s.dropWhile p/\(s.takeWhile p).length<=s.length:=by
 have e:s.takeWhile p++s.dropWhile p=s:=List.takeWhile_append_dropWhile
 have h1:(s.takeWhile p++s.dropWhile p).take (s.takeWhile p).length=s.takeWhile p:=List.take_left
 have h2:(s.takeWhile p++s.dropWhile p).drop (s.takeWhile p).length=s.dropWhile p:=List.drop_left
 rw[e]at h1 h2
 have h3:=congrArg List.length e
 rw[List.length_append]at h3
 exact⟨h1,h2,by omega⟩
theorem Rx(s:List UInt8)(w:World)(hs:s.length<=4000000):
  Calls prog 85 #[.string ⟨s.toArray⟩] w fun e w'=>e=.returned (.int .i64 ((s.takeWhile Ba).length:Int))/\w=w':=by
 have HT:=Aa (Qb4 Ba s)
 have hle:=(Qc Ba s).2.2
 generalize hn:(s.takeWhile Ba).length=n at *
 clear hn
 go_enter func85,ntmps85
 go_wp2_with fail
 go_loop [3] (fun i=>∃k:Nat,i=.int .i64 k/\k<=n) (fun i=>n - (intOf i).toNat)
 case atStart=>exact⟨0,rfl,Nat.zero_le _⟩
 case round=>
  obtain⟨k,rfl,hk⟩:=hrel
  by_cases hlt:k<s.length
  ·obtain⟨q1,q2⟩:=HT.o k hlt
   have hc:=(s[k]).toNat_lt
   by_cases hkn:k<n
   ·obtain⟨h3,h4⟩:=Da.1 (q1 hkn)
    clear q1 q2
    go_wp2_with fail
    go_round
    case rel=>exact⟨k+1,by go_num,by omega⟩
    case measure=>simp[intOf];omega
   have hd:=q2 (by omega)
   have hkn2:k=n:=by omega
   have h2:(s[k]).toNat<48\/(48<=(s[k]).toNat/\57<(s[k]).toNat):=by
    by_cases h3:48<=(s[k]).toNat
    ·refine .inr ⟨h3,?_⟩
     by_cases h4:57<(s[k]).toNat
     ·exact h4
     have:=Da.2 ⟨h3,by omega⟩;rw[hd]at this;cases this
    exact .inl (by omega)
   clear q1 q2 hd
   subst hkn2
   rcases h2 with h2|⟨h2,h3⟩
   ·go_wp2_with fail
    go_ret
    exact⟨rfl,rfl⟩
   go_wp2_with fail
   go_ret
   exact⟨rfl,rfl⟩
  ·have hkn2:k=n:=by omega
   subst hkn2
   go_wp2_with fail
   go_ret
   exact⟨rfl,rfl⟩
def Bj(S:List Ty)(k:Kd)(o:Option (Vl × List UInt8))(w:World)(e:Ending)(w':World):Prop:=
 (match o with
  |some x=>∃b,e=.returned (.tuple #[.pointer (some ⟨b,0,none⟩),.string ⟨x.2.toArray⟩,.bool true])/\Ga (fun c=>w.heap.size<=c) w' b (Cq S k x.1)
  |none=>∃(q:Option Addr) (r:ByteArray),e=.returned (.tuple #[.pointer q,.string r,.bool false]))/\Below w.heap.size w w'
theorem Bj.no{S:List Ty}{k:Kd}{o:Option (Vl × List UInt8)}{w w':World}{e:Ending}(ho:o=none){q:Option Addr}{r:ByteArray}(he:e=.returned (.tuple #[.pointer q,.string r,.bool false]))(hb:Below w.heap.size w w'):Bj S k o w e w':=by
 rw[ho];exact⟨⟨q,r,he⟩,hb⟩
theorem Ga.leaf{P:Nat->Prop}{w:World}{kind text:List UInt8}{T:TypeId}(hP:P w.heap.size):Ga P (w.alloc (.cells #[.string ⟨kind.toArray⟩,.string ⟨text.toArray⟩,.slice none 0 0,.slice none 0 0] T)) w.heap.size (.mk kind text [] []):=
 .mk kind text [] none none 0 0 [] rfl (by simp) hP (by simp) (by simp) (by simp) (by simp) ⟨rfl,Nat.zero_le _,fun h=>absurd h (by simp)⟩ ⟨rfl,Nat.zero_le _,fun h=>absurd h (by simp)⟩ (by simp) (by simp) (fun _ _ h=>absurd h (by simp)) (fun _ _ h=>absurd h (by simp)) (by simp)
theorem Qgz(s:List UInt8):Pt s=if Dj (s.takeWhile Ba) 999999 then(Cf (s.takeWhile Ba)).map (fun n=>(n,s.dropWhile Ba))else none:=by
 unfold Pt Dj
 cases h:Cf (s.takeWhile Ba)with
 |none=>rfl
 |some n=>simp[(Bx.1 h).1]
theorem Qes(S:List Ty)(xv:Value)(hxv:xv.oneCell'=true)(s:List UInt8)(k:Kd)(hs0:k.signs=[])(hb:k.base=[110])(w:World)(hs:s.length<=4000000)(q:Option (Vl × List UInt8))(hq:q=match Pt s with|some (n,r)=>some (.mk 110 (Aw n) 0 [],r)|none=>none):
  Calls prog 50 #[.agg #[xv],.string ⟨s.toArray⟩,.string ⟨#[110]⟩] w (Bj S k q w):=by
 have hkd:Bq k=[110]:=by unfold Bq Ce;rw[hs0,hb];rfl
 have HQ:=Aa (hq.trans (by rw[Qgz]))
 obtain⟨e1,e2,hle⟩:=Qc Ba s
 have Hd:=Aa (fun W=>Rx s W hs)
 have Hn:=Aa (fun W=>Db (s.takeWhile Ba) 999999 W (by omega) (by decide))
 have HD:=Aa (fun m (h:Cf (s.takeWhile Ba)=some m)=>(Bx.1 h).2)
 have E1:=Aa e1
 have E2:=Aa e2
 have k1:((s.takeWhile Ba).length:Int)<=(s.length:Int):=by omega
 generalize (s.takeWhile Ba).length=n at *
 generalize s.takeWhile Ba=tw at *
 generalize s.dropWhile Ba=dw at *
 have k2:(0:Int)<=(n:Int):=by omega
 have k3:((n:Int)).toNat=n:=by omega
 have hn8:n<=4000000:=by omega
 clear e1 e2 hs0 hb hq
 go_enter func50,ntmps50
 go_wp2_with fail
 refine(Hd.o _).mono ?_
 rintro e w1 ⟨rfl,rfl⟩
 go_wp2_with fail
 rw[E1.o]
 refine(Hn.o _).mono ?_
 rintro e w2 ⟨m,hm,rfl,hdm,hb2⟩
 have Hb2:=Aa (((As w.heap.size w).alloc (Ap _) (.cells #[xv] 35)).trans (hb2.mono (by simp)))
 have Hdm:=Aa hdm
 have hz2:=Hb2.o.size
 have Hok:=Aa (show Dj tw 999999=(Cf tw).isSome by unfold Dj;cases h:Cf tw with|none=>rfl|some m=>simp[(Bx.1 h).1])
 generalize Dj tw 999999=ok at *
 clear hb2 hdm
 go_wp2_with fail
 refine P3 [26,27,28,29,30,31,32,33,34,35,6,7,8]
  (fun ix v W=>match ix with|0=>v=.string ⟨#[110]⟩|1=>v=.string ⟨(s:List UInt8).toArray⟩|2=>v=.int .i64 (n:Int)|3=>v=.string ⟨(tw:List UInt8).toArray⟩|4=>v=.agg #[.string ⟨#[110]⟩,.string ⟨(tw:List UInt8).toArray⟩,.slice none 0 0,.slice none 0 0]|5=>∃c,v=.pointer (some ⟨c,0,none⟩)|6=>v=.string ⟨(s:List UInt8).toArray⟩|7=>v=.int .i64 (n:Int)|8=>v=.string ⟨(dw:List UInt8).toArray⟩|9=>v=.bool ok|10=>∃c,v=.pointer (some ⟨c,0,none⟩)|11=>v=.string ⟨(dw:List UInt8).toArray⟩|12=>v=.bool ok|_=>True)
  (fun L U W=>(L 5=false->Below w2.heap.size w2 W)/\(L 5=true->∃W7,W=W7.alloc (.cells #[.string ⟨#[110]⟩,.string ⟨(tw:List UInt8).toArray⟩,.slice none 0 0,.slice none 0 0] 68)/\Below w2.heap.size w2 W7/\U 5=.pointer (some ⟨W7.heap.size,0,none⟩))/\(L 10=true->U 10=U 5)) (⟨fun _=>(As _ _).drew,fun h=>Bool.noConfusion h,fun h=>Bool.noConfusion h⟩) ?_ ?_
 ·repeat (first|exact Aq.nil|(refine Aq.cons ?_ ?_;rotate_left))
  all_goals
   rintro L U W hL hpre HR Hdep K hK
   first|(simp[Region.binds]at hpre;done)|simp[Region.binds]at hpre|clear hpre
  iterate 3
   ·go_simp
    first|exact hK _ _ _ rfl Ab HR.o rfl|exact kE hK HR.o|exact hK undef _ _ Ab Ab HR.o (by simp[Act.put,hpre])|exact hK _ _ _ Ab Ab HR.o rfl|exact kE hK HR.o
  ·go_simp
   rw[E1.o]
   first|exact hK _ _ _ rfl Ab HR.o rfl|exact kE hK HR.o
  ·go_simp
   first|exact hK _ _ _ rfl Ab HR.o rfl|exact kE hK HR.o|exact hK undef _ _ Ab Ab HR.o (by simp[Act.put,hpre])|exact hK _ _ _ Ab Ab HR.o rfl|exact kE hK HR.o
  ·obtain⟨R1,R2,R3⟩:=HR.o
   have hB:=R1 hL
   have h10:L 10=false:=Bz Hdep.o 10 5 rfl hL
   go_simp
   exact hK (.pointer (some ⟨W.heap.size,0,none⟩)) _ _ ⟨_,rfl⟩ Ab ⟨fun h=>by simp at h,fun _=>⟨W,rfl,hB,rfl⟩,fun h=>absurd (h10.symm.trans (by simpa using h)) (by decide)⟩ (by simp[Act.put,hpre])
  iterate 2
   ·go_simp
    first|exact hK _ _ _ rfl Ab HR.o rfl|exact kE hK HR.o|exact hK undef _ _ Ab Ab HR.o (by simp[Act.put,hpre])|exact hK _ _ _ Ab Ab HR.o rfl|exact kE hK HR.o
  ·go_simp
   rw[E2.o]
   first|exact hK _ _ _ rfl Ab HR.o rfl|exact kE hK HR.o
  ·go_simp
   first|exact hK _ _ _ rfl Ab HR.o rfl|exact kE hK HR.o|exact hK undef _ _ Ab Ab HR.o (by simp[Act.put,hpre])|exact hK _ _ _ Ab Ab HR.o rfl|exact kE hK HR.o
  ·obtain⟨R1,R2,R3⟩:=HR.o
   obtain⟨c,u5⟩:=hpre.1.2
   clear R1 R2 R3
   go_simp
   obtain⟨R1,R2,R3⟩:=HR.o
   exact hK (.pointer (some ⟨c,0,none⟩)) _ _ ⟨c,rfl⟩ Ab ⟨R1,R2,fun _=>u5.symm⟩ (by simp[Act.put,hpre,u5])
  iterate 2
   ·go_simp
    first|exact hK _ _ _ rfl Ab HR.o rfl|exact kE hK HR.o|exact hK undef _ _ Ab Ab HR.o (by simp[Act.put,hpre])|exact hK _ _ _ Ab Ab HR.o rfl|exact kE hK HR.o
 rintro L U W hL hφ hR
 have hφ10:U 10=U 5:=hR.2.2 (hL 10 (by decide))
 have e11:U 11=.string ⟨(dw:List UInt8).toArray⟩:=hφ 11 (by decide)
 have e12:U 12=.bool ok:=hφ 12 (by decide)
 clear hφ
 obtain⟨_,h2,h3⟩:=hR
 obtain⟨W7,rfl,hb7,u5⟩:=h2 (hL 5 (by decide))
 rw[u5]at hφ10
 clear hL h2
 simp only[hφ10,e11,e12]
 clear hφ10
 go_wp2_with fail
 refine bodyPost_ret (v:=.tuple #[.pointer (some ⟨W7.heap.size,0,none⟩),.string ⟨dw.toArray⟩,.bool ok]) (by simp[results,results50,go_sem]) rfl ?_
 have hz7:=hb7.size
 have Hb7:=((Hb2.o.trans (hb7.mono hz2)).alloc (Nat.le_trans hz2 hz7) (.cells #[.string ⟨#[110]⟩,.string ⟨tw.toArray⟩,.slice none 0 0,.slice none 0 0] 68))
 have HQ:=HQ.o
 cases ok with
 |false=>exact Bj.no HQ rfl Hb7
 |true=>
  cases hd:Cf tw with
  |none=>rw[hd]at HQ;have:=Hok.o;rw[hd]at this;cases this
  |some m'=>
   rw[hd]at HQ
   simp only[if_true,Option.map_some]at HQ
   rw[HQ]
   refine⟨⟨W7.heap.size,rfl,?_⟩,Hb7⟩
   rw[Qbb,hkd,<-HD.o m' hd]
   exact Ga.leaf (P:=fun c=>w.heap.size<=c) (by omega)
def M4(c:UInt8):Bool:=c != 39
def Mi(s:List UInt8):Nat:=min (((s.drop 1).takeWhile M4).length+2) s.length
theorem Qg7(r:List UInt8):(r.takeWhile M4=r/\∀x∈r,x≠39)\/∃q,r=r.takeWhile M4++39::q:=by
 induction r with
 |nil=>exact .inl ⟨rfl,by simp⟩
 |cons x r ih=>
  by_cases hx:M4 x=true
  ·rw[List.takeWhile_cons_of_pos hx]
   rcases ih with⟨h1,h2⟩|⟨q,h⟩
   ·refine .inl ⟨by rw[h1],fun y hy=>?_⟩
    rcases List.mem_cons.1 hy with rfl|hy
    ·simpa [M4]using hx
    exact h2 y hy
   exact .inr ⟨q,by rw[List.cons_append,<-h]⟩
  rw[List.takeWhile_cons_of_neg hx]
  have:x=39:=by simpa [M4]using hx
  subst this
  exact .inr ⟨r,rfl⟩
theorem Qid(c:UInt8)(r:List UInt8):(E4 ((c::r).take (Mi (c::r)))=false/\Mn (c::r)=none) \/
  ∃x q,Mn (c::r)=some (x,q)/\E4 ((c::r).take (Mi (c::r)))=true/\(c::r).take (Mi (c::r))=39::(x++[39])/\(c::r).drop (Mi (c::r))=q:=by
 rcases Qg7 r with⟨h1,h2⟩|⟨q,h⟩
 ·left
  have e:Mi (c::r)=(c::r).length:=by unfold Mi;rw[show (c::r).drop 1=r from rfl,h1];simp
  rw[e,List.take_length]
  have hd:Am 39 (r.dropWhile B0)=none:=by
   cases hc:r.dropWhile B0 with
   |nil=>rfl
   |cons x z=>
    have hx:x∈r:=(List.dropWhile_sublist _).subset (by rw[hc];simp)
    simp[Am,h2 x hx]
  constructor
  ·unfold E4
   by_cases h0:r=[]
   ·subst h0;simp
   have hl:(c::r).getLast?=some (r.getLast h0):=by rw[List.getLast?_cons,List.getLast?_eq_some_getLast h0];rfl
   have:=h2 _ (List.getLast_mem h0)
   rw[hl];simp[this]
  unfold Mn
  by_cases hc:c=39
  ·subst hc;rw[show Am 39 (39::r)=some r by simp[Am]];simp only;rw[hd]
  simp[Am,hc]
 generalize htw:r.takeWhile M4=tw at *
 have hno:∀x∈tw,M4 x=true:=fun x hx=>by rw[<-htw]at hx;exact(List.all_eq_true.1 (List.all_takeWhile)) x hx
 have e:Mi (c::r)=tw.length+2:=by
  unfold Mi;rw[show (c::r).drop 1=r from rfl,htw]
  have:(c::r).length=tw.length+1+q.length+1:=by rw[h];simp;omega
  omega
 have et:(c::r).take (tw.length+2)=c::(tw++[39]):=by
  rw[List.take_succ_cons,h,List.take_append,List.take_of_length_le (by omega)]
  simp
 have ed:(c::r).drop (tw.length+2)=q:=by
  rw[List.drop_succ_cons,h,List.drop_append,List.drop_of_length_le (by omega)]
  simp
 have eq:E4 (c::(tw++[39]))=(decide (c=39) && Dh tw):=by
  unfold E4
  have hl:(c::(tw++[39])).getLast?=some 39:=by rw[<-List.cons_append,List.getLast?_append];rfl
  rw[hl];simp
 rw[e,et,ed,eq]
 by_cases hc:c=39
 ·subst hc
  by_cases hall:tw.all B0=true
  ·have ha:=List.all_eq_true.1 hall
   have t1:r.takeWhile B0=tw:=by rw[h,List.takeWhile_append_of_pos ha];simp[B0,G7,Ba]
   have t2:r.dropWhile B0=39::q:=by rw[h,List.dropWhile_append_of_pos ha];simp[B0,G7,Ba]
   by_cases h12:tw.length<=12
   ·right
    exact⟨tw,q,by simp[Mn,Am,t1,t2,h12],by simp[Dh,h12,hall],rfl,rfl⟩
   left
   exact⟨by simp[Dh,h12],by simp[Mn,Am,t1,t2,h12]⟩
  left
  refine⟨by simp[Dh,hall],?_⟩
  have:Am 39 (r.dropWhile B0)=none:=by
   rw[h]
   clear htw h e et ed eq
   induction tw with
   |nil=>simp at hall
   |cons x tw ih=>
    by_cases hx:B0 x=true
    ·rw[List.cons_append,List.dropWhile_cons_of_pos hx]
     exact ih (fun y hy=>hno y (by simp[hy])) (by simpa [hx]using hall)
    rw[List.cons_append,List.dropWhile_cons_of_neg hx]
    have:=hno x (by simp)
    simp[M4]at this
    simp[Am,this]
  unfold Mn;rw[show Am 39 (39::r)=some r by simp[Am]];simp only;rw[this]
 left
 exact⟨by simp[hc],by simp[Mn,Am,hc]⟩
theorem Qf4(S:List Ty)(xv:Value)(hxv:xv.oneCell'=true)(s:List UInt8)(k:Kd)(hs0:k.signs=[])(hb:k.base=[116])(w:World)(hs:s.length<=4000000)(hne:s≠[])(q:Option (Vl × List UInt8))(hq:q=match Mn s with|some (x,r)=>some (.mk 116 x 0 [],r)|none=>none):
  Calls prog 50 #[.agg #[xv],.string ⟨s.toArray⟩,.string ⟨#[116]⟩] w (Bj S k q w):=by
 have hkd:Bq k=[116]:=by unfold Bq Ce;rw[hs0,hb];rfl
 have HQ:=Aa hq
 have Hor:=Aa (show (E4 (s.take (Mi s))=false/\Mn s=none)\/∃x q,Mn s=some (x,q)/\E4 (s.take (Mi s))=true/\s.take (Mi s)=39::(x++[39])/\s.drop (Mi s)=q by
  cases s with
  |nil=>exact absurd rfl hne
  |cons c r=>exact Qid c r)
 have hz:1<=s.length:=by cases s with|nil=>exact absurd rfl hne|cons c r=>simp
 have HT:=Aa (fun i (hi:i+1<s.length)=>(show (i<((s.drop 1).takeWhile M4).length->s[i+1]≠39)/\(i=((s.drop 1).takeWhile M4).length->s[i+1]=39)from by
  have h:=Qb4 M4 (s.drop 1) i (by simp;omega)
  simp only[List.getElem_drop,Nat.add_comm 1 i]at h
  exact⟨fun h1=>by simpa [M4]using h.1 h1,fun h1=>by simpa [M4]using h.2 h1⟩))
 have hle:((s.drop 1).takeWhile M4).length+1<=s.length:=by
  have:=(Qc M4 (s.drop 1)).2.2
  rw[List.length_drop]at this;omega
 have hqd:Mi s=min (((s.drop 1).takeWhile M4).length+2) s.length:=rfl
 have Hn:=Aa (fun W=>Sz (s.take (Mi s)) W (by simp;omega))
 generalize ((s.drop 1).takeWhile M4).length=m at *
 have k1:((Mi s:Nat):Int)<=(s.length:Int):=by omega
 have Hmin:Hid ((if ((m:Int)+1+1)<=(s.length:Int)then((m:Int)+1+1)else(s.length:Int))=((Mi s:Nat):Int)):=by
  unfold Hid;split<;>omega
 have k3:((Mi s:Nat):Int).toNat=Mi s:=by omega
 have k2:(0:Int)<=((Mi s:Nat):Int):=by omega
 generalize Mi s=n at *
 generalize hnok:E4 (s.take n)=ok at *
 have HI:∃tw dw,tw=s.take n/\dw=s.drop n:=⟨_,_,rfl,rfl⟩
 obtain⟨tw,dw,e1,e2⟩:=HI
 rw[<-e1,<-e2]at Hor
 rw[<-e1]at Hn hnok
 have E1:=Aa e1.symm
 have E2:=Aa e2.symm
 have Hok:=Aa hnok
 clear e1 e2 hs0 hb hq hqd hne hnok
 go_enter func50,ntmps50
 go_wp2_with fail
 go_loop [9] (fun i=>∃j:Nat,i=.int .i64 ((j:Int)+1)/\j<=m) (fun i=>m+1 - (intOf i).toNat)
 case atStart=>exact⟨0,rfl,Nat.zero_le _⟩
 case round=>
  obtain⟨j,rfl,hj⟩:=hrel
  by_cases hlt:j+1<s.length
  ·obtain⟨q1,q2⟩:=HT.o j hlt
   have hc:=(s[j+1]).toNat_lt
   by_cases hjm:j<m
   ·have h3:=q1 hjm
    have h4:((s[j+1]).toNat:Int)≠39:=fun h=>h3 (by apply UInt8.toNat_inj.1;simpa using(by exact_mod_cast h:(s[j+1]).toNat=39))
    clear q1 q2 h3
    go_wp2_with fail
    go_round
    case rel=>exact⟨j+1,by go_num,by omega⟩
    case measure=>simp[intOf];omega
   have hjm2:j=m:=by omega
   have h4:((s[j+1]).toNat:Int)=39:=by rw[q2 hjm2];rfl
   clear q1 q2
   subst hjm2
   clear hjm HT hj hle
   have e9:(j:Int)+1+1=(n:Int):=by rw[<-Hmin.o,if_pos (by omega)]
   go_wp2_with fail
   refine P3 [55,56,57,58,59,60,61,62,63,64,65,66,67,6,7,8]
    (fun ix v W=>match ix with|0=>v=.string ⟨#[116]⟩|1=>v=.string ⟨(s:List UInt8).toArray⟩|2=>v=.int .i64 (n:Int)|3=>v=.string ⟨(tw:List UInt8).toArray⟩|4=>v=.agg #[.string ⟨#[116]⟩,.string ⟨(tw:List UInt8).toArray⟩,.slice none 0 0,.slice none 0 0]|5=>∃c,v=.pointer (some ⟨c,0,none⟩)|6=>v=.string ⟨(s:List UInt8).toArray⟩|7=>v=.int .i64 (n:Int)|8=>v=.string ⟨(dw:List UInt8).toArray⟩|9=>v=.string ⟨(s:List UInt8).toArray⟩|10=>v=.int .i64 (n:Int)|11=>v=.string ⟨(tw:List UInt8).toArray⟩|12=>v=.bool ok|13=>∃c,v=.pointer (some ⟨c,0,none⟩)|14=>v=.string ⟨(dw:List UInt8).toArray⟩|15=>v=.bool ok|_=>True)
    (fun L U W=>(L 5=false->Below w.heap.size w W)/\(L 5=true->∃W7,W=W7.alloc (.cells #[.string ⟨#[116]⟩,.string ⟨(tw:List UInt8).toArray⟩,.slice none 0 0,.slice none 0 0] 68)/\Below w.heap.size w W7/\U 5=.pointer (some ⟨W7.heap.size,0,none⟩))/\(L 13=true->U 13=U 5)) (⟨fun _=>((As w.heap.size w).alloc (Ap _) _).drew,fun h=>Bool.noConfusion h,fun h=>Bool.noConfusion h⟩) ?_ ?_
   ·repeat (first|exact Aq.nil|(refine Aq.cons ?_ ?_;rotate_left))
    all_goals
     rintro L U W hL hpre HR Hdep K hK
     first|(simp[Region.binds]at hpre;done)|simp[Region.binds]at hpre|clear hpre
    iterate 3
     ·go_simp
      first|exact hK _ _ _ rfl Ab HR.o (by first|rfl|(simp[Act.put,hpre];done)|(simp[Act.put,hpre];omega))|exact hK undef _ _ Ab Ab HR.o (by first|(simp[Act.put,hpre];done)|(simp[Act.put,hpre];omega))|exact hK _ _ _ Ab Ab HR.o rfl|exact hK _ _ _ Ab Ab HR.o (by simp[Act.put,hpre];done)
    ·go_simp
     rw[E1.o]
     exact hK _ _ _ rfl Ab HR.o (by first|rfl|(simp[Act.put,hpre];done)|(simp[Act.put,hpre];omega))
    ·go_simp
     first|exact hK _ _ _ rfl Ab HR.o (by first|rfl|(simp[Act.put,hpre];done)|(simp[Act.put,hpre];omega))|exact hK undef _ _ Ab Ab HR.o (by first|(simp[Act.put,hpre];done)|(simp[Act.put,hpre];omega))|exact hK _ _ _ Ab Ab HR.o rfl|exact hK _ _ _ Ab Ab HR.o (by simp[Act.put,hpre];done)
    ·obtain⟨R1,R2,R3⟩:=HR.o
     have hB:=R1 hL
     have h10:L 13=false:=Bz Hdep.o 13 5 rfl hL
     go_simp
     exact hK (.pointer (some ⟨W.heap.size,0,none⟩)) _ _ ⟨_,rfl⟩ Ab ⟨fun h=>by simp at h,fun _=>⟨W,rfl,hB,rfl⟩,fun h=>absurd (h10.symm.trans (by simpa using h)) (by decide)⟩ (by simp[Act.put,hpre])
    iterate 2
     ·go_simp
      first|exact hK _ _ _ rfl Ab HR.o (by first|rfl|(simp[Act.put,hpre];done)|(simp[Act.put,hpre];omega))|exact hK undef _ _ Ab Ab HR.o (by first|(simp[Act.put,hpre];done)|(simp[Act.put,hpre];omega))|exact hK _ _ _ Ab Ab HR.o rfl|exact hK _ _ _ Ab Ab HR.o (by simp[Act.put,hpre];done)
    ·go_simp
     rw[E2.o]
     exact hK _ _ _ rfl Ab HR.o (by first|rfl|(simp[Act.put,hpre];done)|(simp[Act.put,hpre];omega))
    iterate 2
     ·go_simp
      first|exact hK _ _ _ rfl Ab HR.o (by first|rfl|(simp[Act.put,hpre];done)|(simp[Act.put,hpre];omega))|exact hK undef _ _ Ab Ab HR.o (by first|(simp[Act.put,hpre];done)|(simp[Act.put,hpre];omega))|exact hK _ _ _ Ab Ab HR.o rfl|exact hK _ _ _ Ab Ab HR.o (by simp[Act.put,hpre];done)
    ·go_simp
     rw[E1.o]
     exact hK _ _ _ rfl Ab HR.o (by first|rfl|(simp[Act.put,hpre];done)|(simp[Act.put,hpre];omega))
    ·go_simp
     refine(Hn.o _).mono ?_
     rintro e wz ⟨rfl,rfl⟩
     go_simp
     exact hK _ _ _ rfl Ab HR.o (by first|rfl|(simp[Act.put,hpre];done)|(simp[Act.put,hpre];omega))
    ·obtain⟨R1,R2,R3⟩:=HR.o
     obtain⟨c,u5⟩:=hpre.1.2
     clear R1 R2 R3
     go_simp
     obtain⟨R1,R2,R3⟩:=HR.o
     exact hK (.pointer (some ⟨c,0,none⟩)) _ _ ⟨c,rfl⟩ Ab ⟨R1,R2,fun _=>u5.symm⟩ (by simp[Act.put,hpre,u5])
    iterate 2
     ·go_simp
      first|exact hK _ _ _ rfl Ab HR.o (by first|rfl|(simp[Act.put,hpre];done)|(simp[Act.put,hpre];omega))|exact hK undef _ _ Ab Ab HR.o (by first|(simp[Act.put,hpre];done)|(simp[Act.put,hpre];omega))|exact hK _ _ _ Ab Ab HR.o rfl|exact hK _ _ _ Ab Ab HR.o (by simp[Act.put,hpre];done)
   rintro L U W hL hφ hR
   have hφ10:U 13=U 5:=hR.2.2 (hL 13 (by decide))
   have e11:U 14=.string ⟨(dw:List UInt8).toArray⟩:=hφ 14 (by decide)
   have e12:U 15=.bool ok:=hφ 15 (by decide)
   clear hφ
   obtain⟨_,h2,h3⟩:=hR
   obtain⟨W7,rfl,hb7,u5⟩:=h2 (hL 5 (by decide))
   rw[u5]at hφ10
   clear hL h2
   simp only[hφ10,e11,e12]
   clear hφ10
   go_wp2_with fail
   refine bodyPost_ret (v:=.tuple #[.pointer (some ⟨W7.heap.size,0,none⟩),.string ⟨dw.toArray⟩,.bool ok]) (by simp[results,results50,go_sem]) rfl ?_
   have hz7:=hb7.size
   have Hb7:=(hb7.alloc (by omega) (.cells #[.string ⟨#[116]⟩,.string ⟨tw.toArray⟩,.slice none 0 0,.slice none 0 0] 68))
   have HQ:=HQ.o
   rcases Hor.o with⟨o1,o2⟩|⟨x,q',o1,o2,o3,o4⟩
   ·rw[o2]at HQ
    subst o1
    exact Bj.no HQ rfl Hb7
   rw[o1]at HQ
   subst o2
   rw[HQ]
   subst o4
   refine⟨⟨W7.heap.size,rfl,?_⟩,Hb7⟩
   rw[Xy,hkd,<-o3]
   exact Ga.leaf (P:=fun c=>w.heap.size<=c) (by omega)
  ·have hjm2:j=m:=by omega
   subst hjm2
   have hj3:(j:Int)<=5000000:=by omega
   have hj4:(0:Int)<=(j:Int):=by omega
   have hj5:¬((j:Int)+1+1<=(s.length:Int)):=by omega
   clear HT hj
   have e9:(s.length:Int)=(n:Int):=by rw[<-Hmin.o,if_neg (by omega)]
   go_wp2_with fail
   refine P3 [55,56,57,58,59,60,61,62,63,64,65,66,67,6,7,8]
    (fun ix v W=>match ix with|0=>v=.string ⟨#[116]⟩|1=>v=.string ⟨(s:List UInt8).toArray⟩|2=>v=.int .i64 (n:Int)|3=>v=.string ⟨(tw:List UInt8).toArray⟩|4=>v=.agg #[.string ⟨#[116]⟩,.string ⟨(tw:List UInt8).toArray⟩,.slice none 0 0,.slice none 0 0]|5=>∃c,v=.pointer (some ⟨c,0,none⟩)|6=>v=.string ⟨(s:List UInt8).toArray⟩|7=>v=.int .i64 (n:Int)|8=>v=.string ⟨(dw:List UInt8).toArray⟩|9=>v=.string ⟨(s:List UInt8).toArray⟩|10=>v=.int .i64 (n:Int)|11=>v=.string ⟨(tw:List UInt8).toArray⟩|12=>v=.bool ok|13=>∃c,v=.pointer (some ⟨c,0,none⟩)|14=>v=.string ⟨(dw:List UInt8).toArray⟩|15=>v=.bool ok|_=>True)
    (fun L U W=>(L 5=false->Below w.heap.size w W)/\(L 5=true->∃W7,W=W7.alloc (.cells #[.string ⟨#[116]⟩,.string ⟨(tw:List UInt8).toArray⟩,.slice none 0 0,.slice none 0 0] 68)/\Below w.heap.size w W7/\U 5=.pointer (some ⟨W7.heap.size,0,none⟩))/\(L 13=true->U 13=U 5)) (⟨fun _=>((As w.heap.size w).alloc (Ap _) _).drew,fun h=>Bool.noConfusion h,fun h=>Bool.noConfusion h⟩) ?_ ?_
   ·repeat (first|exact Aq.nil|(refine Aq.cons ?_ ?_;rotate_left))
    all_goals
     rintro L U W hL hpre HR Hdep K hK
     first|(simp[Region.binds]at hpre;done)|simp[Region.binds]at hpre|clear hpre
    iterate 3
     ·go_simp
      first|exact hK _ _ _ rfl Ab HR.o (by first|rfl|(simp[Act.put,hpre];done)|(simp[Act.put,hpre];omega))|exact hK undef _ _ Ab Ab HR.o (by first|(simp[Act.put,hpre];done)|(simp[Act.put,hpre];omega))|exact hK _ _ _ Ab Ab HR.o rfl|exact hK _ _ _ Ab Ab HR.o (by simp[Act.put,hpre];done)
    ·go_simp
     rw[E1.o]
     exact hK _ _ _ rfl Ab HR.o (by first|rfl|(simp[Act.put,hpre];done)|(simp[Act.put,hpre];omega))
    ·go_simp
     first|exact hK _ _ _ rfl Ab HR.o (by first|rfl|(simp[Act.put,hpre];done)|(simp[Act.put,hpre];omega))|exact hK undef _ _ Ab Ab HR.o (by first|(simp[Act.put,hpre];done)|(simp[Act.put,hpre];omega))|exact hK _ _ _ Ab Ab HR.o rfl|exact hK _ _ _ Ab Ab HR.o (by simp[Act.put,hpre];done)
    ·obtain⟨R1,R2,R3⟩:=HR.o
     have hB:=R1 hL
     have h10:L 13=false:=Bz Hdep.o 13 5 rfl hL
     go_simp
     exact hK (.pointer (some ⟨W.heap.size,0,none⟩)) _ _ ⟨_,rfl⟩ Ab ⟨fun h=>by simp at h,fun _=>⟨W,rfl,hB,rfl⟩,fun h=>absurd (h10.symm.trans (by simpa using h)) (by decide)⟩ (by simp[Act.put,hpre])
    iterate 2
     ·go_simp
      first|exact hK _ _ _ rfl Ab HR.o (by first|rfl|(simp[Act.put,hpre];done)|(simp[Act.put,hpre];omega))|exact hK undef _ _ Ab Ab HR.o (by first|(simp[Act.put,hpre];done)|(simp[Act.put,hpre];omega))|exact hK _ _ _ Ab Ab HR.o rfl|exact hK _ _ _ Ab Ab HR.o (by simp[Act.put,hpre];done)
    ·go_simp
     rw[E2.o]
     exact hK _ _ _ rfl Ab HR.o (by first|rfl|(simp[Act.put,hpre];done)|(simp[Act.put,hpre];omega))
    iterate 2
     ·go_simp
      first|exact hK _ _ _ rfl Ab HR.o (by first|rfl|(simp[Act.put,hpre];done)|(simp[Act.put,hpre];omega))|exact hK undef _ _ Ab Ab HR.o (by first|(simp[Act.put,hpre];done)|(simp[Act.put,hpre];omega))|exact hK _ _ _ Ab Ab HR.o rfl|exact hK _ _ _ Ab Ab HR.o (by simp[Act.put,hpre];done)
    ·go_simp
     rw[E1.o]
     exact hK _ _ _ rfl Ab HR.o (by first|rfl|(simp[Act.put,hpre];done)|(simp[Act.put,hpre];omega))
    ·go_simp
     refine(Hn.o _).mono ?_
     rintro e wz ⟨rfl,rfl⟩
     go_simp
     exact hK _ _ _ rfl Ab HR.o (by first|rfl|(simp[Act.put,hpre];done)|(simp[Act.put,hpre];omega))
    ·obtain⟨R1,R2,R3⟩:=HR.o
     obtain⟨c,u5⟩:=hpre.1.2
     clear R1 R2 R3
     go_simp
     obtain⟨R1,R2,R3⟩:=HR.o
     exact hK (.pointer (some ⟨c,0,none⟩)) _ _ ⟨c,rfl⟩ Ab ⟨R1,R2,fun _=>u5.symm⟩ (by simp[Act.put,hpre,u5])
    iterate 2
     ·go_simp
      first|exact hK _ _ _ rfl Ab HR.o (by first|rfl|(simp[Act.put,hpre];done)|(simp[Act.put,hpre];omega))|exact hK undef _ _ Ab Ab HR.o (by first|(simp[Act.put,hpre];done)|(simp[Act.put,hpre];omega))|exact hK _ _ _ Ab Ab HR.o rfl|exact hK _ _ _ Ab Ab HR.o (by simp[Act.put,hpre];done)
   rintro L U W hL hφ hR
   have hφ10:U 13=U 5:=hR.2.2 (hL 13 (by decide))
   have e11:U 14=.string ⟨(dw:List UInt8).toArray⟩:=hφ 14 (by decide)
   have e12:U 15=.bool ok:=hφ 15 (by decide)
   clear hφ
   obtain⟨_,h2,h3⟩:=hR
   obtain⟨W7,rfl,hb7,u5⟩:=h2 (hL 5 (by decide))
   rw[u5]at hφ10
   clear hL h2
   simp only[hφ10,e11,e12]
   clear hφ10
   go_wp2_with fail
   refine bodyPost_ret (v:=.tuple #[.pointer (some ⟨W7.heap.size,0,none⟩),.string ⟨dw.toArray⟩,.bool ok]) (by simp[results,results50,go_sem]) rfl ?_
   have hz7:=hb7.size
   have Hb7:=(hb7.alloc (by omega) (.cells #[.string ⟨#[116]⟩,.string ⟨tw.toArray⟩,.slice none 0 0,.slice none 0 0] 68))
   have HQ:=HQ.o
   rcases Hor.o with⟨o1,o2⟩|⟨x,q',o1,o2,o3,o4⟩
   ·rw[o2]at HQ
    subst o1
    exact Bj.no HQ rfl Hb7
   rw[o1]at HQ
   subst o2
   rw[HQ]
   subst o4
   refine⟨⟨W7.heap.size,rfl,?_⟩,Hb7⟩
   rw[Xy,hkd,<-o3]
   exact Ga.leaf (P:=fun c=>w.heap.size<=c) (by omega)
theorem Pw:∀(p s:List UInt8),E5 p s=if s.take p.length=p then some (s.drop p.length)else none
 |[],s=>by simp[E5]
 |c::p,[]=>by simp[E5,Am]
 |c::p,x::s=>by
  have ih:=Pw p s
  unfold E5
  by_cases h:x=c
  ·subst h
   simp only[Am,if_true,List.length_cons,List.take_succ_cons,List.drop_succ_cons,List.cons.injEq,true_and]
   exact ih
  simp[Am,h]
theorem Qff(S:List Ty)(xv:Value)(hxv:xv.oneCell'=true)(s:List UInt8)(k:Kd)(hs0:k.signs=[])(hb:k.base=[102])(w:World)(hs:s.length<=4000000)(q:Option (Vl × List UInt8))(hq:q=match M6 s with|some (b,r)=>some (.mk 102 (if b then Eb else K0) 0 [],r)|none=>none):
  Calls prog 50 #[.agg #[xv],.string ⟨s.toArray⟩,.string ⟨#[102]⟩] w (Bj S k q w):=by
 have hkd:Bq k=[102]:=by unfold Bq Ce;rw[hs0,hb];rfl
 have Hq:=Aa hq
 have Hy:=Aa (Pw Eb s)
 have Hn:=Aa (Pw K0 s)
 clear hq hs0 hb
 go_enter func50,ntmps50
 go_wp2_with fail
 go_loop [70] (fun i=>(i=.int .i64 0)\/(i=.int .i64 1/\¬s.take 3=Eb)\/(i=.int .i64 2/\¬s.take 3=Eb/\¬s.take 2=K0)) (fun i=>3 - (intOf i).toNat)
 case atStart=>exact .inl rfl
 case round=>
  obtain rfl|⟨rfl,hny⟩|⟨rfl,hny,hnn⟩:=hrel
  ·by_cases hl:3<=s.length
   ·have hl2:(3:Int)<=(s.length:Int):=by omega
    by_cases ht:s.take 3=Eb
    ·have HQ:=Aa (show q=some (.mk 102 Eb 0 [],s.drop 3)from by rw[Hq.o];unfold M6;rw[Hy.o,if_pos (show s.take Eb.length=Eb from ht)];rfl)
     generalize hdw:s.drop 3=dw at *
     have E2:=Aa hdw
     have tb:(s.take 3 == [121,101,115])=true:=by rw[ht];rfl
     clear Hq hdw ht
     go_wp2_with fail
     have HbW:=Aa (((As w.heap.size w).alloc (Ap _) (.cells #[xv] 35)).alloc (by simp) (.cells #[.string ⟨#[121,101,115]⟩,.string ⟨#[110,111]⟩] 9))
     refine P3 [87,88,89,90,91,92,93,94,6,7,8]
      (fun ix v W=>match ix with|0=>v=.string ⟨#[102]⟩|1=>v=.string ⟨#[121,101,115]⟩|2=>v=.agg #[.string ⟨#[102]⟩,.string ⟨#[121,101,115]⟩,.slice none 0 0,.slice none 0 0]|3=>∃c,v=.pointer (some ⟨c,0,none⟩)|4=>v=.string ⟨(s:List UInt8).toArray⟩|5=>v=.string ⟨#[121,101,115]⟩|6=>v=.int .i64 3|7=>v=.string ⟨(dw:List UInt8).toArray⟩|8=>∃c,v=.pointer (some ⟨c,0,none⟩)|9=>v=.string ⟨(dw:List UInt8).toArray⟩|10=>v=.bool true|_=>True)
      (fun L U W=>(L 3=false->Below w.heap.size w W)/\(L 3=true->∃W7,W=W7.alloc (.cells #[.string ⟨#[102]⟩,.string ⟨#[121,101,115]⟩,.slice none 0 0,.slice none 0 0] 68)/\Below w.heap.size w W7/\U 3=.pointer (some ⟨W7.heap.size,0,none⟩))/\(L 8=true->U 8=U 3)) (⟨fun _=>HbW.o.drew,fun h=>Bool.noConfusion h,fun h=>Bool.noConfusion h⟩) ?_ ?_
     ·repeat (first|exact Aq.nil|(refine Aq.cons ?_ ?_;rotate_left))
      all_goals
       rintro L U W hL hpre HR Hdep K hK
       first|(simp[Region.binds]at hpre;done)|simp[Region.binds]at hpre|clear hpre
      iterate 3
       ·go_simp
        first|exact hK _ _ _ rfl Ab HR.o rfl|exact kE hK HR.o|exact hK undef _ _ Ab Ab HR.o (by simp[Act.put,hpre])|exact hK _ _ _ Ab Ab HR.o rfl|exact kE hK HR.o
      ·obtain⟨R1,R2,R3⟩:=HR.o
       have hB:=R1 hL
       have h10:L 8=false:=Bz Hdep.o 8 3 rfl hL
       go_simp
       exact hK (.pointer (some ⟨W.heap.size,0,none⟩)) _ _ ⟨_,rfl⟩ Ab ⟨fun h=>by simp at h,fun _=>⟨W,rfl,hB,rfl⟩,fun h=>absurd (h10.symm.trans (by simpa using h)) (by decide)⟩ (by simp[Act.put,hpre])
      iterate 3
       ·go_simp
        first|exact hK _ _ _ rfl Ab HR.o rfl|exact kE hK HR.o|exact hK undef _ _ Ab Ab HR.o (by simp[Act.put,hpre])|exact hK _ _ _ Ab Ab HR.o rfl|exact kE hK HR.o
      ·go_simp
       rw[E2.o]
       first|exact hK _ _ _ rfl Ab HR.o rfl|exact kE hK HR.o
      ·obtain⟨R1,R2,R3⟩:=HR.o
       obtain⟨c,u5⟩:=hpre.1.2
       clear R1 R2 R3
       go_simp
       obtain⟨R1,R2,R3⟩:=HR.o
       exact hK (.pointer (some ⟨c,0,none⟩)) _ _ ⟨c,rfl⟩ Ab ⟨R1,R2,fun _=>u5.symm⟩ (by simp[Act.put,hpre,u5])
      iterate 2
       ·go_simp
        first|exact hK _ _ _ rfl Ab HR.o rfl|exact kE hK HR.o|exact hK undef _ _ Ab Ab HR.o (by simp[Act.put,hpre])|exact hK _ _ _ Ab Ab HR.o rfl|exact kE hK HR.o
     rintro L U W hL hφ hR
     have hφ10:U 8=U 3:=hR.2.2 (hL 8 (by decide))
     have e11:U 9=.string ⟨(dw:List UInt8).toArray⟩:=hφ 9 (by decide)
     have e12:U 10=.bool true:=hφ 10 (by decide)
     clear hφ
     obtain⟨_,h2,h3⟩:=hR
     obtain⟨W7,rfl,hb7,u5⟩:=h2 (hL 3 (by decide))
     rw[u5]at hφ10
     clear hL h2
     simp only[hφ10,e11,e12]
     clear hφ10
     go_wp2_with fail
     refine bodyPost_ret (v:=.tuple #[.pointer (some ⟨W7.heap.size,0,none⟩),.string ⟨dw.toArray⟩,.bool true]) (by simp[results,results50,go_sem]) rfl ?_
     have hz7:=hb7.size
     have Hb7:=(hb7.alloc (by omega) (.cells #[.string ⟨#[102]⟩,.string ⟨#[121,101,115]⟩,.slice none 0 0,.slice none 0 0] 68))
     rw[HQ.o]
     refine⟨⟨W7.heap.size,rfl,?_⟩,Hb7⟩
     rw[Xx,hkd]
     exact Ga.leaf (P:=fun c=>w.heap.size<=c) (by omega)
    have tb:(s.take 3 == [121,101,115])=false:=by simpa [Eb,K0]using ht
    go_wp2_with fail
    go_round
    case rel=>exact .inr (.inl ⟨rfl,ht⟩)
    case measure=>simp[intOf]
   have hl2:¬((3:Int)<=(s.length:Int)):=by omega
   have ht:¬s.take 3=Eb:=fun h=>hl (by have:=congrArg List.length h;simp[Eb,K0]at this;omega)
   go_wp2_with fail
   go_round
   case rel=>exact .inr (.inl ⟨rfl,ht⟩)
   case measure=>simp[intOf]
  ·by_cases hl:2<=s.length
   ·have hl2:(2:Int)<=(s.length:Int):=by omega
    by_cases ht:s.take 2=K0
    ·have HQ:=Aa (show q=some (.mk 102 K0 0 [],s.drop 2)from by rw[Hq.o];unfold M6;rw[Hy.o,if_neg (show ¬s.take Eb.length=Eb from hny),Hn.o,if_pos (show s.take K0.length=K0 from ht)];rfl)
     generalize hdw:s.drop 2=dw at *
     have E2:=Aa hdw
     have tb:(s.take 2 == [110,111])=true:=by rw[ht];rfl
     clear Hq hdw ht
     go_wp2_with fail
     have HbW:=Aa (((As w.heap.size w).alloc (Ap _) (.cells #[xv] 35)).alloc (by simp) (.cells #[.string ⟨#[121,101,115]⟩,.string ⟨#[110,111]⟩] 9))
     refine P3 [87,88,89,90,91,92,93,94,6,7,8]
      (fun ix v W=>match ix with|0=>v=.string ⟨#[102]⟩|1=>v=.string ⟨#[110,111]⟩|2=>v=.agg #[.string ⟨#[102]⟩,.string ⟨#[110,111]⟩,.slice none 0 0,.slice none 0 0]|3=>∃c,v=.pointer (some ⟨c,0,none⟩)|4=>v=.string ⟨(s:List UInt8).toArray⟩|5=>v=.string ⟨#[110,111]⟩|6=>v=.int .i64 2|7=>v=.string ⟨(dw:List UInt8).toArray⟩|8=>∃c,v=.pointer (some ⟨c,0,none⟩)|9=>v=.string ⟨(dw:List UInt8).toArray⟩|10=>v=.bool true|_=>True)
      (fun L U W=>(L 3=false->Below w.heap.size w W)/\(L 3=true->∃W7,W=W7.alloc (.cells #[.string ⟨#[102]⟩,.string ⟨#[110,111]⟩,.slice none 0 0,.slice none 0 0] 68)/\Below w.heap.size w W7/\U 3=.pointer (some ⟨W7.heap.size,0,none⟩))/\(L 8=true->U 8=U 3)) (⟨fun _=>HbW.o.drew,fun h=>Bool.noConfusion h,fun h=>Bool.noConfusion h⟩) ?_ ?_
     ·repeat (first|exact Aq.nil|(refine Aq.cons ?_ ?_;rotate_left))
      all_goals
       rintro L U W hL hpre HR Hdep K hK
       first|(simp[Region.binds]at hpre;done)|simp[Region.binds]at hpre|clear hpre
      iterate 3
       ·go_simp
        first|exact hK _ _ _ rfl Ab HR.o rfl|exact kE hK HR.o|exact hK undef _ _ Ab Ab HR.o (by simp[Act.put,hpre])|exact hK _ _ _ Ab Ab HR.o rfl|exact kE hK HR.o
      ·obtain⟨R1,R2,R3⟩:=HR.o
       have hB:=R1 hL
       have h10:L 8=false:=Bz Hdep.o 8 3 rfl hL
       go_simp
       exact hK (.pointer (some ⟨W.heap.size,0,none⟩)) _ _ ⟨_,rfl⟩ Ab ⟨fun h=>by simp at h,fun _=>⟨W,rfl,hB,rfl⟩,fun h=>absurd (h10.symm.trans (by simpa using h)) (by decide)⟩ (by simp[Act.put,hpre])
      iterate 3
       ·go_simp
        first|exact hK _ _ _ rfl Ab HR.o rfl|exact kE hK HR.o|exact hK undef _ _ Ab Ab HR.o (by simp[Act.put,hpre])|exact hK _ _ _ Ab Ab HR.o rfl|exact kE hK HR.o
      ·go_simp
       rw[E2.o]
       first|exact hK _ _ _ rfl Ab HR.o rfl|exact kE hK HR.o
      ·obtain⟨R1,R2,R3⟩:=HR.o
       obtain⟨c,u5⟩:=hpre.1.2
       clear R1 R2 R3
       go_simp
       obtain⟨R1,R2,R3⟩:=HR.o
       exact hK (.pointer (some ⟨c,0,none⟩)) _ _ ⟨c,rfl⟩ Ab ⟨R1,R2,fun _=>u5.symm⟩ (by simp[Act.put,hpre,u5])
      iterate 2
       ·go_simp
        first|exact hK _ _ _ rfl Ab HR.o rfl|exact kE hK HR.o|exact hK undef _ _ Ab Ab HR.o (by simp[Act.put,hpre])|exact hK _ _ _ Ab Ab HR.o rfl|exact kE hK HR.o
     rintro L U W hL hφ hR
     have hφ10:U 8=U 3:=hR.2.2 (hL 8 (by decide))
     have e11:U 9=.string ⟨(dw:List UInt8).toArray⟩:=hφ 9 (by decide)
     have e12:U 10=.bool true:=hφ 10 (by decide)
     clear hφ
     obtain⟨_,h2,h3⟩:=hR
     obtain⟨W7,rfl,hb7,u5⟩:=h2 (hL 3 (by decide))
     rw[u5]at hφ10
     clear hL h2
     simp only[hφ10,e11,e12]
     clear hφ10
     go_wp2_with fail
     refine bodyPost_ret (v:=.tuple #[.pointer (some ⟨W7.heap.size,0,none⟩),.string ⟨dw.toArray⟩,.bool true]) (by simp[results,results50,go_sem]) rfl ?_
     have hz7:=hb7.size
     have Hb7:=(hb7.alloc (by omega) (.cells #[.string ⟨#[102]⟩,.string ⟨#[110,111]⟩,.slice none 0 0,.slice none 0 0] 68))
     rw[HQ.o]
     refine⟨⟨W7.heap.size,rfl,?_⟩,Hb7⟩
     rw[Xx,hkd]
     exact Ga.leaf (P:=fun c=>w.heap.size<=c) (by omega)
    have tb:(s.take 2 == [110,111])=false:=by simpa [Eb,K0]using ht
    go_wp2_with fail
    go_round
    case rel=>exact .inr (.inr ⟨rfl,hny,ht⟩)
    case measure=>simp[intOf]
   have hl2:¬((2:Int)<=(s.length:Int)):=by omega
   have ht:¬s.take 2=K0:=fun h=>hl (by have:=congrArg List.length h;simp[Eb,K0]at this;omega)
   go_wp2_with fail
   go_round
   case rel=>exact .inr (.inr ⟨rfl,hny,ht⟩)
   case measure=>simp[intOf]
  ·have HQ:=Aa (show q=none from by rw[Hq.o];simp only[M6,Hy.o,Hn.o,if_neg (show ¬s.take Eb.length=Eb from hny),if_neg (show ¬s.take K0.length=K0 from hnn)])
   clear Hq
   go_wp2_with fail
   refine bodyPost_ret (v:=.tuple #[.pointer none,.string ⟨s.toArray⟩,.bool false]) (by simp[results,results50,go_sem]) rfl ?_
   exact Bj.no HQ.o rfl (((As w.heap.size w).alloc (Ap _) _).alloc (by simp) _)
end
theorem Qbz:(prog.info? 31).map (fun i=>(i.zero,i.size,i.bytes))=some (some (.pointer none),1,8):=by kernel_rfl
theorem Qig:(prog.info? 3).map (fun i=>(i.zero,i.size,i.bytes))=some (some (.int .i64 0),1,8):=by kernel_rfl
theorem Tj{W:World}{base s1 s2 n1 n2:Nat}{e1 e2:TypeId}{v1 v2:Value}{xs ys:List Value}(h:W.ownsRow base e1 s1 v1 n1 xs)(k:W.ownsRow base e2 s2 v2 n2 ys)(hne:e1≠e2):v1.ownBlock=none\/v1.ownBlock≠v2.ownBlock:=by
 obtain⟨_,⟨rfl,_⟩|⟨g,cap,cur,rfl,_,h3,_⟩⟩:=h
 ·exact .inl rfl
 obtain⟨_,⟨rfl,_⟩|⟨g',cap',cur',rfl,_,k3,_⟩⟩:=k
 ·exact .inr (by simp[Value.ownBlock])
 refine .inr fun e=>?_
 injection e with e
 simp only at e
 subst e
 rw[h3]at k3
 injection k3 with k3
 injection k3 with _ k3
 exact hne k3
theorem Sj{base b:Nat}{v:Value}(h:∀k,v.ownBlock=some k->base<=k)(hb:b<base):v.ownBlock=none\/v.ownBlock≠some b:=by
 by_cases hr:v.ownBlock=none
 ·exact .inl hr
 exact .inr fun e=>by have:=h b e;omega
structure M5(base B:Nat)(W:World)(h0 h1 tu tv ku kv:Value)(gs:List Nat)(xs:List (Nat × SV)):Prop where
 lt:B<W.heap.size
 bs:base<=W.heap.size
 hB:B<base
 bk:Py W B
 c0:W.cell? ⟨B,0,none⟩=some h0
 c1:W.cell? ⟨B,1,none⟩=some h1
 c2:W.cell? ⟨B,2,none⟩=some tu
 c3:W.cell? ⟨B,3,none⟩=some ku
 tags:W.ownsRow base 3 1 tv gs.length (En gs)
 row:W.ownsRow base 31 1 kv xs.length (Ep (xs.map (·.1)))
 kids:∀x∈xs,Ga (fun c=>base<=c/\kv.ownBlock≠some c/\tv.ownBlock≠some c) W x.1 x.2
theorem M5.after{base B:Nat}{W W':World}{h0 h1 tu tv ku kv:Value}{gs:List Nat}{xs:List (Nat × SV)}(h:M5 base B W h0 h1 tu tv ku kv gs xs)(hb:Below W.heap.size W W'):M5 base B W' h0 h1 tu tv ku kv gs xs:=by
 obtain⟨hc,_,hz⟩:=Bw hb
 exact⟨hz _ h.lt,Nat.le_trans h.bs hb.size,h.hB,h.bk.belowAt h.lt hb,(hc _ _ h.lt).trans h.c0,(hc _ _ h.lt).trans h.c1,(hc _ _ h.lt).trans h.c2,(hc _ _ h.lt).trans h.c3,Bf h.tags hb,Bf h.row hb,fun x hx=>(h.kids x hx).after hb⟩
theorem M5.set2{base B:Nat}{W:World}{h0 h1 tu tv ku kv:Value}{gs:List Nat}{xs:List (Nat × SV)}(h:M5 base B W h0 h1 tu tv ku kv gs xs):M5 base B (W.setCell ⟨B,2,none⟩ tv) h0 h1 tv tv ku kv gs xs:=by
 have hg:=Bc W B 2 tv
 have hB:=h.hB
 exact⟨by simpa using h.lt,by simpa using h.bs,h.hB,h.bk.set _,by simp[go_sem,h.c0],by simp[go_sem,h.c1],by simp[go_sem,h.c2],by simp[go_sem,h.c3],h.tags.kept hg (Sj (fun k hk=>(h.tags.lt k hk).1) h.hB),h.row.kept hg (Sj (fun k hk=>(h.row.lt k hk).1) h.hB),fun x hx=>(h.kids x hx).grown hg fun c hc e=>by injection e with e;omega⟩
theorem M5.set3{base B:Nat}{W:World}{h0 h1 tu tv ku kv:Value}{gs:List Nat}{xs:List (Nat × SV)}(h:M5 base B W h0 h1 tu tv ku kv gs xs):M5 base B (W.setCell ⟨B,3,none⟩ kv) h0 h1 tu tv kv kv gs xs:=by
 have hg:=Bc W B 3 kv
 have hB:=h.hB
 exact⟨by simpa using h.lt,by simpa using h.bs,h.hB,h.bk.set _,by simp[go_sem,h.c0],by simp[go_sem,h.c1],by simp[go_sem,h.c2],by simp[go_sem,h.c3],h.tags.kept hg (Sj (fun k hk=>(h.tags.lt k hk).1) h.hB),h.row.kept hg (Sj (fun k hk=>(h.row.lt k hk).1) h.hB),fun x hx=>(h.kids x hx).grown hg fun c hc e=>by injection e with e;omega⟩
theorem M5.appK{base B:Nat}{W W':World}{h0 h1 tu tv ku kv kv':Value}{gs:List Nat}{xs:List (Nat × SV)}{x:Nat × SV}(h:M5 base B W h0 h1 tu tv ku kv gs xs)(hx:Ga (fun c=>base<=c/\kv.ownBlock≠some c/\tv.ownBlock≠some c) W x.1 x.2)
  (hown:W'.ownsRow base 31 1 kv' (xs.length+1) (Ep (xs.map (·.1))++[.pointer (some ⟨x.1,0,none⟩)])) (hg:W.grownBy W' kv.ownBlock) (hwh:kv'.ownBlock=kv.ownBlock\/∃k,kv'.ownBlock=some k/\W.heap.size<=k):M5 base B W' h0 h1 tu tv ku kv' gs (xs++[x]):=by
 have hn:some B≠kv.ownBlock:=fun e=>by have:=(h.row.lt B e.symm).1;have:=h.hB;omega
 refine⟨Nat.lt_of_lt_of_le h.lt hg.size,Nat.le_trans h.bs hg.size,h.hB,h.bk.grown h.lt hg hn,hg.cell h.c0 hn,hg.cell h.c1 hn,hg.cell h.c2 hn,hg.cell h.c3 hn,h.tags.kept hg (Tj h.tags h.row (by decide)),by simpa [Ep]using hown,fun y hy=>?_⟩
 have hy':Ga (fun c=>base<=c/\kv.ownBlock≠some c/\tv.ownBlock≠some c) W y.1 y.2:=by
  rcases List.mem_append.1 hy with hy|hy
  ·exact h.kids y hy
  rw[List.mem_singleton]at hy;subst hy;exact hx
 refine hy'.kept (fun b o v hb _ hv=>hg.cell hv fun e=>hb.2.1 e.symm) hg.size fun c hc hl=>⟨hc.1,?_,hc.2.2⟩
 rcases hwh with e|⟨k,e,hk⟩
 ·rw[e];exact hc.2.1
 rw[e];intro e;injection e with e;omega
theorem M5.appT{base B:Nat}{W W':World}{h0 h1 tu tv tv' ku kv:Value}{gs:List Nat}{xs:List (Nat × SV)}{g:Nat}(h:M5 base B W h0 h1 tu tv ku kv gs xs)
  (hown:W'.ownsRow base 3 1 tv' (gs.length+1) (En gs++[.int .i64 (g:Int)])) (hg:W.grownBy W' tv.ownBlock) (hwh:tv'.ownBlock=tv.ownBlock\/∃k,tv'.ownBlock=some k/\W.heap.size<=k):M5 base B W' h0 h1 tu tv' ku kv (gs++[g]) xs:=by
 have hn:some B≠tv.ownBlock:=fun e=>by have:=(h.tags.lt B e.symm).1;have:=h.hB;omega
 refine⟨Nat.lt_of_lt_of_le h.lt hg.size,Nat.le_trans h.bs hg.size,h.hB,h.bk.grown h.lt hg hn,hg.cell h.c0 hn,hg.cell h.c1 hn,hg.cell h.c2 hn,hg.cell h.c3 hn,by simpa [En]using hown,h.row.kept hg (Tj h.row h.tags (by decide)),fun y hy=>?_⟩
 refine(h.kids y hy).kept (fun b o v hb _ hv=>hg.cell hv fun e=>hb.2.2 e.symm) hg.size fun c hc hl=>⟨hc.1,hc.2.1,?_⟩
 rcases hwh with e|⟨k,e,hk⟩
 ·rw[e];exact hc.2.2
 rw[e];intro e;injection e with e;omega
theorem Qgg{w:World}{base k n m c:Nat}{e:TypeId}{A:Option Addr}{xs:List Value}(h:w.ownsRow base e k (.slice A m c) n xs):m=n:=by
 rcases h.2 with⟨e,h0⟩|⟨g,cap,cur,e,_⟩
 ·injection e with _ e1 e2;omega
 injection e with _ e1 e2
theorem M5.push{base B n c:Nat}{W W':World}{A:Option Addr}{h0 h1 tu tv ku kv':Value}{gs:List Nat}{xs:List (Nat × SV)}{x:Nat × SV}(h:M5 base B W h0 h1 tu tv ku (.slice A n c) gs xs)(hx:Ga (fun c1=>base<=c1/\(Value.slice A n c).ownBlock≠some c1/\tv.ownBlock≠some c1) W x.1 x.2)
  (hown:W'.ownsRow base 31 1 kv' (xs.length+1) (Ep (xs.map (·.1))++[.pointer (some ⟨x.1,0,none⟩)])) (hg:W.grownBy W' (Value.slice A n c).ownBlock) (hwh:kv'.ownBlock=(Value.slice A n c).ownBlock\/∃k,kv'.ownBlock=some k/\W.heap.size<=k):
  ∃A6 c6,kv'=.slice A6 (xs++[x]).length c6/\M5 base B W' h0 h1 tu tv ku kv' gs (xs++[x])/\Below base W W':=by
 have hA:=h.appK hx hown hg hwh
 have e:(xs++[x]).length=xs.length+1:=by simp
 rcases hown.2 with⟨e0,h0⟩|⟨g,cap,cur,e1,_⟩
 ·omega
 exact⟨some ⟨g,0,none⟩,cap,by rw[e,e1],hA,(As _ _).grown hg h.bs (fun k hk=>(h.row.lt k hk).1)⟩
theorem M5.pushT{base B n c g:Nat}{W W':World}{A:Option Addr}{h0 h1 tu tv' ku kv:Value}{gs:List Nat}{xs:List (Nat × SV)}(h:M5 base B W h0 h1 tu (.slice A n c) ku kv gs xs)
  (hown:W'.ownsRow base 3 1 tv' (gs.length+1) (En gs++[.int .i64 (g:Int)])) (hg:W.grownBy W' (Value.slice A n c).ownBlock) (hwh:tv'.ownBlock=(Value.slice A n c).ownBlock\/∃k,tv'.ownBlock=some k/\W.heap.size<=k):
  ∃A6 c6,tv'=.slice A6 (gs++[g]).length c6/\M5 base B W' h0 h1 tu tv' ku kv (gs++[g]) xs/\Below base W W':=by
 have hA:=h.appT hown hg hwh
 have e:(gs++[g]).length=gs.length+1:=by simp
 rcases hown.2 with⟨e0,h0⟩|⟨g9,cap,cur,e1,_⟩
 ·omega
 exact⟨some ⟨g9,0,none⟩,cap,by rw[e,e1],hA,(As _ _).grown hg h.bs (fun k hk=>(h.tags.lt k hk).1)⟩
theorem Zj{w:World}{base n:Nat}{e:TypeId}{v:Value}{xs:List Value}(h:w.ownsRow base e 1 v n xs)(hx:xs.length=n)(hl:n<=1000):∃A c,v=.slice A n c/\Bh w A n xs/\∀g o,0<n->A=some ⟨g,o,none⟩->base<=g:=by
 have h':=h
 rcases h.2 with⟨rfl,h0⟩|⟨g,cap,cur,rfl,hbg,hh,hnc,hcm,hcs,htk⟩
 ·subst h0
  exact⟨none,0,rfl,⟨hx,Nat.zero_le _,fun hn=>absurd hn (by decide)⟩,fun g o hn _=>absurd hn (by decide)⟩
 refine⟨some ⟨g,0,none⟩,cap,rfl,⟨hx,by unfold maxLen;omega,fun hn=>⟨g,0,rfl,(h'.lt g rfl).2,fun j u hu=>?_⟩⟩,fun g' o _ e=>by injection e with e;injection e with e;subst e;exact hbg⟩
 have:=h'.cells (g:=g) rfl j u hu
 have e1:(⟨g,0,none⟩:Addr).add j=⟨g,0+j,none⟩:=by unfold Addr.add;split<;>simp_all
 rwa [e1]at this
theorem M5.done{base B:Nat}{W:World}{kind text:List UInt8}{tv kv:Value}{gs:List Nat}{xs:List (Nat × SV)}(h:M5 base B W (.string ⟨kind.toArray⟩) (.string ⟨text.toArray⟩) tv tv kv kv gs xs)(hg:gs.length<=1000)(hx:xs.length<=1000):Ga (fun c=>B<=c) W B (.mk kind text gs (xs.map (·.2))):=by
 obtain⟨A1,c1,rfl,r1,p1⟩:=Zj h.tags (by simp[En]) hg
 obtain⟨A2,c2,rfl,r2,p2⟩:=Zj h.row (by simp[Ep]) hx
 have hB:=h.hB
 exact .mk kind text gs A1 A2 c1 c2 xs rfl h.lt (Ap _) h.c0 h.c1 h.c2 h.c3 r1 r2 hg hx (fun g o hn e=>by have:=p1 g o hn e;omega) (fun g o hn e=>by have:=p2 g o hn e;omega) fun x hx=>(h.kids x hx).mono fun c hc _=>by have:=hc.1;omega
theorem M5.new{W:World}{T:TypeId}(h0 h1:Value):M5 (W.heap.size+1) W.heap.size (W.alloc (.cells #[h0,h1,.slice none 0 0,.slice none 0 0] T)) h0 h1 (.slice none 0 0) (.slice none 0 0) (.slice none 0 0) (.slice none 0 0) [] []:=
 ⟨by simp,by simp,by omega,Py.new _ _ _,by simp[go_sem],by simp[go_sem],by simp[go_sem],by simp[go_sem],World.ownsRow_nil _ _ _ _,World.ownsRow_nil _ _ _ _,by simp⟩
end Go.Proofs.YtkigmebejmmikaaGreatDoor
