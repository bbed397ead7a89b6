/- Texts joined. Conditions: as each theorem names them. -/
import Derived.Test.YtkgkoicedddkmaaGreatDoorC02
import Derived.Test.YtkgkoicedddkmaaGreatDoorC03
import Derived.Test.YtkgkoicedddkmaaGreatDoorC05
import Derived.Test.YtkgkoicedddkmaaGreatDoorC07
import Derived.Test.YtkgkoicedddkmaaGreatDoorC18
import Derived.Test.YtkgkoicedddkmaaGreatDoorC29
set_option maxRecDepth 100000
set_option maxHeartbeats 32000000
set_option linter.unusedVariables false
set_option linter.unusedSimpArgs false
namespace Go.Proofs.YtkgkoicedddkmaaGreatDoor
open Go.RowKit Go.Proofs.Tryz
section
attribute [local go_sem] Qiz Qii Qib Qgw ByteArray.mk_append_mk
theorem Sd(s d:List UInt8)(w:World)(hs:s.length<=4000000)(hd:d.length<=4000000):
  Calls prog 41 #[.string ⟨s.toArray⟩,.string ⟨d.toArray⟩] w (Gy (Bn s d) w):=by
 cases h:Cl s with
 |none=>exact Vo s d w hs h
 |some S=>cases hk:Co d with
  |none=>exact Yn s d w hs hd S h hk
  |some k=>exact Qdm s d w hs S h k hk
theorem Qb5{s d:List UInt8}{S:List Ty}{k:Kd}(h:Bn s d=some (S,k)):Cl s=some S/\Co d=some k/\Bx S k:=by
 unfold Bn at h
 cases h1:Cl s with
 |none=>rw[h1]at h;cases h
 |some T=>cases h2:Co d with
  |none=>rw[h1,h2]at h;cases h
  |some q=>
   rw[h1,h2]at h
   simp only at h
   split at h
   ·rename_i hr
    simp only[Option.some.injEq,Prod.mk.injEq]at h
    obtain⟨rfl,rfl⟩:=h
    exact⟨rfl,rfl,hr⟩
   cases h
theorem Du{s d:List UInt8}{S:List Ty}{k:Kd}(h:Bn s d=some (S,k)):Jc S/\s.length<=400/\scB S=s/\Cw k/\Bj k=d/\Bx S k:=by
 obtain⟨h1,h2,h3⟩:=Qb5 h
 obtain⟨a1,a2,a3⟩:=Rb.1 h1
 obtain⟨b1,b2⟩:=Em.1 h2
 exact⟨a1,a2,a3,b1,b2,h3⟩
theorem Qf7(w0:World)(v1 v2:Value)(xs ys:List (Ty × Value))(hx:Jq w0 v1 xs)(hy:Jq w0 v2 ys)(hS:Jc (Af xs))(hT:Jc (Af ys)):∀(n:Nat) (a b:Kd) (m:List Cv) (w:World) (mv:Value),
  Cw a->Cw b->Bx (Af xs) a->Bx (Af ys) b->Jt (Af xs) (Af ys) m->64<n+m.length->Fi w0 v1 v2 w m mv ->
   Calls prog 42 #[.pointer (some ⟨w0.heap.size,0,none⟩),.string ⟨(Bj a).toArray⟩,.string ⟨(Bj b).toArray⟩] w (Vj w0 v1 v2 (evK (Af xs) (Af ys) n a b m) w mv):=by
 have h8:(Af xs).length*(Af ys).length<=64:=by
  have h1:=hS.1.2.1
  have h2:=hT.1.2.1
  exact Nat.le_trans (Nat.mul_le_mul h1 h2) (by decide)
 intro n
 induction n with
 |zero=>
  intro a b m w mv _ _ _ _ hm hn _
  have:=hm.len
  omega
 |succ n ih=>
  intro a b m w mv ha hb hra hrb hm hn hst
  have hml:m.length<=64:=Nat.le_trans hm.len h8
  refine Qco w0 v1 v2 xs ys hx hy n a b m w mv ha hb hra hrb hml hst (fun t fv u gv W mv' htm hum hW h1 h2 hnin=>?_)
  have hm2:Jt (Af xs) (Af ys) (m++[(a.name,b.name)]):=hm.snoc (Fa.1 (by rw[h1];rfl)) (Fa.1 (by rw[h2];rfl)) hnin
  exact Qbz w0 v1 v2 xs ys hx hy hS hT n t u fv gv htm hum (fun a' b' m' W' mv'' h1 h2 h3 h4 h5 h6 h7=>ih a' b' m' W' mv'' h1 h2 h3 h4 h5 h6 h7) _ hm2 (by simp;omega) W mv' hW
def Qh5(o1 o2:Option (List Ty × Kd))(w:World)(e:Ending)(w':World):Prop:=
 ∃v1 v2,e=.returned (.tuple #[v1,v2,.bool (Eu o1 o2)])/\Below w.heap.size w w'/\(∃A n c,v1=.slice A n c)/\(∃A n c,v2=.slice A n c) /\
  (match o1,o2 with
  |some x,some y=>∃xs ys,Af xs=x.1/\Af ys=y.1/\Jq w' v1 xs/\Jq w' v2 ys
  |_,_=>True)
theorem Qcx(s1 d1 s2 d2:List UInt8)(w:World)(h1:s1.length<=4000000)(h2:d1.length<=4000000)(h3:s2.length<=4000000)(h4:d2.length<=4000000):
  Calls prog 25 #[.string ⟨s1.toArray⟩,.string ⟨d1.toArray⟩,.string ⟨s2.toArray⟩,.string ⟨d2.toArray⟩] w (Qh5 (Bn s1 d1) (Bn s2 d2) w):=by
 have Hk1:=Aa (fun W=>Sd s1 d1 W h1 h2)
 have Hk2:=Aa (fun W=>Sd s2 d2 W h3 h4)
 have Hg1:=Aa (fun S k (h:Bn s1 d1=some (S,k))=>Du h)
 have Hg2:=Aa (fun S k (h:Bn s2 d2=some (S,k))=>Du h)
 generalize Bn s1 d1=o1 at *
 generalize Bn s2 d2=o2 at *
 go_enter func25,ntmps25
 go_wp2_with fail
 refine(Hk1.o _).mono ?_
 rintro e w1 ⟨hc1,hb1⟩
 have Hb1:=Aa hb1
 clear hb1
 cases o1 with
 |none=>
  obtain⟨A,n,c,rfl⟩:=hc1
  go_wp2_with fail
  refine(Hk2.o _).mono ?_
  rintro e w2 ⟨hc2,hb2⟩
  have Hb2:=Aa (Hb1.o.trans (hb2.mono Hb1.o.size))
  clear hb2
  cases o2 with
  |none=>
   obtain⟨A2,n2,c2,rfl⟩:=hc2
   go_wp2_with fail
   refine bodyPost_ret (v:=.tuple #[.slice none 0 0,.slice none 0 0,.bool false]) (by simp[results,results25,go_sem]) rfl ?_
   exact⟨_,_,rfl,Hb2.o,⟨_,_,_,rfl⟩,⟨_,_,_,rfl⟩,Ac⟩
  |some y=>
   obtain⟨v,ys,rfl,hys,hsc⟩:=hc2
   clear hsc
   go_wp2_with fail
   refine bodyPost_ret (v:=.tuple #[.slice none 0 0,.slice none 0 0,.bool false]) (by simp[results,results25,go_sem]) rfl ?_
   exact⟨_,_,rfl,Hb2.o,⟨_,_,_,rfl⟩,⟨_,_,_,rfl⟩,Ac⟩
 |some x=>
  obtain⟨S,k⟩:=x
  obtain⟨v,xs,rfl,hxs,hsc⟩:=hc1
  simp only at hxs
  have Hxs:=Aa hxs
  have Hsc:=Aa hsc
  clear hsc hxs
  go_wp2_with fail
  refine(Hk2.o _).mono ?_
  rintro e w2 ⟨hc2,hb2⟩
  have Hsc2:=Aa (Hsc.o.below hb2)
  have Hb2:=Aa (Hb1.o.trans (hb2.mono Hb1.o.size))
  clear hb2
  cases o2 with
  |none=>
   obtain⟨A2,n2,c2,rfl⟩:=hc2
   go_wp2_with fail
   refine bodyPost_ret (v:=.tuple #[.slice none 0 0,.slice none 0 0,.bool false]) (by simp[results,results25,go_sem]) rfl ?_
   exact⟨_,_,rfl,Hb2.o,⟨_,_,_,rfl⟩,⟨_,_,_,rfl⟩,Ac⟩
  |some y=>
   obtain⟨T,k2⟩:=y
   obtain⟨v2,ys,rfl,hys,hsc2⟩:=hc2
   simp only at hys
   have Hys:=Aa hys
   have Hscy:=Aa hsc2
   clear hsc2 hys
   obtain⟨A1,c1,rfl,_⟩:=Hsc2.o
   obtain⟨A2,c2,rfl,_⟩:=Hscy.o
   obtain⟨hS,_,_,hk1,hd1,hr1⟩:=Hg1.o _ _ rfl
   obtain⟨hT,_,_,hk2,hd2,hr2⟩:=Hg2.o _ _ rfl
   have hfs:=Hxs.o
   have hft:=Hys.o
   subst hfs hft hd1 hd2
   have Hask:=Aa (fun W (h:Fi w2 (.slice A1 xs.length c1) (.slice A2 ys.length c2) W [] (.slice none 0 0))=>Qf7 w2 _ _ xs ys Hsc2.o Hscy.o hS hT 65 k k2 [] W _ hk1 hk2 hr1 hr2 (Jt.nil _ _) (by simp) h)
   have Hev:Hid (Eu (some (Af xs,k)) (some (Af ys,k2))=(evK (Af xs) (Af ys) 65 k k2 []).1):=rfl
   generalize evK (Af xs) (Af ys) 65 k k2 []=r at *
   clear hS hT hk1 hk2 hr1 hr2
   go_wp2_with fail
   refine(Hask.o _ ?_).mono ?_
   ·refine⟨(Aq _ _).alloc (Ap _) _,by simp,by simp,by simp,by simp,?_,World.ownsRow_nil _ _ _ _⟩
    exact Cc w2 [.slice A1 xs.length c1,.slice A2 ys.length c2,.slice none 0 0] _
   rintro e w3 ⟨rfl,mv,hst,_⟩
   have Hb3:=Aa hst.1
   clear hst
   go_wp2_with fail
   refine bodyPost_ret (v:=.tuple #[.slice A1 xs.length c1,.slice A2 ys.length c2,.bool r.1]) (by simp[results,results25,go_sem]) rfl ?_
   exact⟨_,_,by rw[Hev.o],Hb2.o.trans (Hb3.o.mono Hb2.o.size),⟨_,_,_,rfl⟩,⟨_,_,_,rfl⟩,⟨xs,ys,rfl,rfl,Hsc2.o.below Hb3.o,Hscy.o.below Hb3.o⟩⟩
theorem Qjn(s1 d1 s2 d2:List UInt8)(w:World)(h1:s1.length<=4000000)(h2:d1.length<=4000000)(h3:s2.length<=4000000)(h4:d2.length<=4000000):
  Calls prog 86 #[.string ⟨s1.toArray⟩,.string ⟨d1.toArray⟩,.string ⟨s2.toArray⟩,.string ⟨d2.toArray⟩] w fun e w'=>e=.returned (.bool (Eu (Bn s1 d1) (Bn s2 d2)))/\Below w.heap.size w w':=by
 have Hr:=Aa (fun W=>Qcx s1 d1 s2 d2 W h1 h2 h3 h4)
 generalize Bn s1 d1=o1 at *
 generalize Bn s2 d2=o2 at *
 go_enter func86,ntmps86
 go_wp2_with fail
 refine(Hr.o _).mono ?_
 rintro e w1 ⟨v1,v2,rfl,hb1,_,_,_⟩
 have Hb1:=Aa hb1
 clear hb1
 go_wp2_with fail
 go_ret
 exact⟨rfl,Hb1.o⟩
inductive SV where
 |mk (kind text:List UInt8) (tags:List Nat) (kids:List SV)
def Qa(S:List Ty)(k:Kd)(g:Nat):Kd:=match Bp S k.name with
 |some t=>(match Au t.fields g with|some f=>f.kind|none=>Kd.nil)
 |none=>Kd.nil
mutual
def Cq(S:List Ty):Kd->Vl->SV
 |k,.mk w tx tg ks=>
  if w=91\/w=63 then .mk (Bj k) [] [] (Ss S k.part ks)
  else if w=69 then .mk (Bj k) [69] [tg] []
  else if w=85 then .mk (Bj k) [85] [tg] (Ss S (Qa S k tg) ks)
  else if w=82 then .mk (Bj k) [82] (ks.map Vl.tag) (Qc3 S k ks)
  else .mk (Bj k) (if w=116 then 39::(tx++[39])else tx) [] []
def Ss(S:List Ty):Kd->List Vl->List SV
 |_,[]=>[]
 |k,x::xs=>Cq S k x::Ss S k xs
def Qc3(S:List Ty):Kd->List Vl->List SV
 |_,[]=>[]
 |k,.mk _ _ tg ks::xs=>Ss S (Qa S k tg) ks++Qc3 S k xs
end
theorem Pk(S:List Ty)(k:Kd):∀ks:List Vl,Ss S k ks=ks.map (Cq S k)
 |[]=>rfl
 |x::xs=>by rw[Ss,Pk S k xs];rfl
theorem Xp(S:List Ty)(k:Kd):∀ps:List (Fd × Vl),Qc3 S k (ps.map De)=ps.map fun p=>Cq S (Qa S k p.1.tag) p.2
 |[]=>rfl
 |p::ps=>by rw[List.map_cons,De,Qc3,Xp S k ps,Ss,Ss];rfl
theorem Y8(S:List Ty)(k:Kd)(m:Nat):Cq S k (.mk 110 (Bb m) 0 [])=.mk (Bj k) (Bb m) [] []:=by simp[Cq]
theorem Vf(S:List Ty)(k:Kd)(s:List UInt8):Cq S k (.mk 116 s 0 [])=.mk (Bj k) (39::(s++[39])) [] []:=by simp[Cq]
theorem Vm(S:List Ty)(k:Kd)(s:List UInt8):Cq S k (.mk 102 s 0 [])=.mk (Bj k) s [] []:=by simp[Cq]
theorem Q5(S:List Ty)(k:Kd)(ks:List Vl):Cq S k (.mk 91 [] 0 ks)=.mk (Bj k) [] [] (ks.map (Cq S k.part)):=by simp[Cq,Pk]
theorem Kr(S:List Ty)(k:Kd)(ks:List Vl):Cq S k (.mk 63 [] 0 ks)=.mk (Bj k) [] [] (ks.map (Cq S k.part)):=by simp[Cq,Pk]
theorem Rh(S:List Ty)(k:Kd)(g:Nat):Cq S k (.mk 69 [] g [])=.mk (Bj k) [69] [g] []:=by simp[Cq]
theorem Qw(S:List Ty)(k:Kd)(g:Nat)(x:Vl):Cq S k (.mk 85 [] g [x])=.mk (Bj k) [85] [g] [Cq S (Qa S k g) x]:=by simp[Cq,Pk]
theorem Q4(S:List Ty)(k:Kd)(ps:List (Fd × Vl)):Cq S k (.mk 82 [] 0 (ps.map De))=.mk (Bj k) [82] (ps.map fun p=>p.1.tag) (ps.map fun p=>Cq S (Qa S k p.1.tag) p.2):=by
 simp[Cq,Xp];exact fun _ _ _=>rfl
theorem Fs{S:List Ty}{k:Kd}{t:Ty}{f:Fd}(ht:Bp S k.name=some t)(hf:Au t.fields f.tag=some f):Qa S k f.tag=f.kind:=by unfold Qa;rw[ht];simp only;rw[hf]
def Ec(l:List Nat):List Value:=l.map fun(n:Nat)=>.int .i64 (n:Int)
def Do(l:List Nat):List Value:=l.map fun b=>.pointer (some ⟨b,0,none⟩)
inductive Fl(P:Nat->Prop)(w:World):Nat->SV->Prop
 |mk {b:Nat} {v:SV} (kind text:List UInt8) (tags:List Nat) (A1 A2:Option Addr) (c1 c2:Nat) (xs:List (Nat × SV)) (hv:v=.mk kind text tags (xs.map (·.2))) (hb:b<w.heap.size) (hP:P b)
   (h0:w.cell? ⟨b,0,none⟩=some (.string ⟨kind.toArray⟩)) (h1:w.cell? ⟨b,1,none⟩=some (.string ⟨text.toArray⟩)) (h2:w.cell? ⟨b,2,none⟩=some (.slice A1 tags.length c1)) (h3:w.cell? ⟨b,3,none⟩=some (.slice A2 xs.length c2))
   (hr1:B9 w A1 tags.length (Ec tags)) (hr2:B9 w A2 xs.length (Do (xs.map (·.1)))) (hl1:tags.length<=1000) (hl2:xs.length<=1000) (hp1:∀g o,0<tags.length->A1=some ⟨g,o,none⟩->P g) (hp2:∀g o,0<xs.length->A2=some ⟨g,o,none⟩->P g)
   (h:∀x∈xs,Fl P w x.1 x.2):Fl P w b v
theorem B9.keptP{P:Nat->Prop}{w w':World}{A:Option Addr}{n:Nat}{xs:List Value}(h:B9 w A n xs)(hP:∀g o,0<n->A=some ⟨g,o,none⟩->P g)(hc:∀b o u,P b->b<w.heap.size->w.cell? ⟨b,o,none⟩=some u->w'.cell? ⟨b,o,none⟩=some u)(hz:w.heap.size<=w'.heap.size):B9 w' A n xs:=by
 refine⟨h.1,h.2.1,fun hn=>?_⟩
 obtain⟨b,off,e,hlt,hcs⟩:=h.2.2 hn
 exact⟨b,off,e,Nat.lt_of_lt_of_le hlt hz,fun j u hu=>hc b _ u (hP b off hn e) hlt (hcs j u hu)⟩
theorem Fl.kept{P Q:Nat->Prop}{w w':World}{b:Nat}{v:SV}(h:Fl P w b v)(hc:∀b o u,P b->b<w.heap.size->w.cell? ⟨b,o,none⟩=some u->w'.cell? ⟨b,o,none⟩=some u)
  (hz:w.heap.size<=w'.heap.size) (hQ:∀b,P b->b<w.heap.size->Q b):Fl Q w' b v:=by
 induction h with
 |mk kind text tags A1 A2 c1 c2 xs hv hb hP h0 h1 h2 h3 hr1 hr2 hl1 hl2 hp1 hp2 h ih=>
  refine .mk kind text tags A1 A2 c1 c2 xs hv (Nat.lt_of_lt_of_le hb hz) (hQ _ hP hb) (hc _ _ _ hP hb h0) (hc _ _ _ hP hb h1) (hc _ _ _ hP hb h2) (hc _ _ _ hP hb h3) (hr1.keptP hp1 hc hz) (hr2.keptP hp2 hc hz) hl1 hl2 (fun g o hn e=>?_) (fun g o hn e=>?_) ih
  ·obtain⟨b',off,e2,hlt,_⟩:=hr1.2.2 hn
   rw[e]at e2;injection e2 with e2;injection e2 with e2 _ _;subst e2
   exact hQ g (hp1 g o hn e) hlt
  obtain⟨b',off,e2,hlt,_⟩:=hr2.2.2 hn
  rw[e]at e2;injection e2 with e2;injection e2 with e2 _ _;subst e2
  exact hQ g (hp2 g o hn e) hlt
theorem Fl.after{P:Nat->Prop}{w w':World}{b:Nat}{v:SV}(h:Fl P w b v)(hb:Below w.heap.size w w'):Fl P w' b v:=
 h.kept (fun b o u _ hl hu=>(hb.cell (p:=⟨b,o,none⟩) hl).trans hu) hb.size fun _ h _=>h
theorem Fl.mono{P Q:Nat->Prop}{w:World}{b:Nat}{v:SV}(h:Fl P w b v)(hQ:∀b,P b->b<w.heap.size->Q b):Fl Q w b v:=h.kept (fun _ _ _ _ _ hu=>hu) (Ap _) hQ
theorem Fl.grown{P:Nat->Prop}{w w':World}{b:Nat}{v:SV}{row:Option Nat}(h:Fl P w b v)(hg:w.grownBy w' row)(hne:∀b,P b->some b≠row):Fl P w' b v:=
 h.kept (fun b o u hp _ hu=>hg.cell hu (hne b hp)) hg.size fun _ h _=>h
theorem Qb4(p:UInt8->Bool):∀(s:List UInt8) (i:Nat) (hi:i<s.length),(i<(s.takeWhile p).length->p s[i]=true)/\(i=(s.takeWhile p).length->p s[i]=false)
 |[],i,hi=>by simp at hi
 |x::s,0,hi=>by
  by_cases h:p x=true
  ·simp[h]
  simp[h]
 |x::s,i+1,hi=>by
  have ih:=Qb4 p s i (by simpa using hi)
  by_cases h:p x=true
  ·rw[List.takeWhile_cons_of_pos h];simpa using ih
  rw[List.takeWhile_cons_of_neg h];simp
theorem Qx(p:UInt8->Bool)(s:List UInt8):s.take (s.takeWhile p).length=s.takeWhile p/\s.drop (s.takeWhile p).length=s.dropWhile p/\(s.takeWhile p).length<=s.length:=by
 have e:s.takeWhile p++s.dropWhile p=s:=List.takeWhile_append_dropWhile
 have h1:(s.takeWhile p++s.dropWhile p).take (s.takeWhile p).length=s.takeWhile p:=List.take_left
 have h2:(s.takeWhile p++s.dropWhile p).drop (s.takeWhile p).length=s.dropWhile p:=List.drop_left
 rw[e]at h1 h2
 have h3:=congrArg List.length e
 rw[List.length_append]at h3
 exact⟨h1,h2,by omega⟩
theorem Sj(s:List UInt8)(w:World)(hs:s.length<=4000000):
  Calls prog 93 #[.string ⟨s.toArray⟩] w fun e w'=>e=.returned (.int .i64 ((s.takeWhile Bh).length:Int))/\w=w':=by
 have HT:=Aa (Qb4 Bh s)
 have hle:=(Qx Bh s).2.2
 generalize hn:(s.takeWhile Bh).length=n at *
 clear hn
 go_enter func93,ntmps93
 go_wp2_with fail
 go_loop [3] (fun i=>∃k:Nat,i=.int .i64 k/\k<=n) (fun i=>n - (intOf i).toNat)
 case atStart=>exact⟨0,rfl,Nat.zero_le _⟩
 case round=>
  obtain⟨k,rfl,hk⟩:=hrel
  by_cases hlt:k<s.length
  ·obtain⟨q1,q2⟩:=HT.o k hlt
   have hc:=(s[k]).toNat_lt
   by_cases hkn:k<n
   ·obtain⟨h3,h4⟩:=Dh.1 (q1 hkn)
    clear q1 q2
    go_wp2_with fail
    go_round
    case rel=>exact⟨k+1,by go_num,by omega⟩
    case measure=>simp[intOf];omega
   have hd:=q2 (by omega)
   have hkn2:k=n:=by omega
   have h2:(s[k]).toNat<48\/(48<=(s[k]).toNat/\57<(s[k]).toNat):=by
    by_cases h3:48<=(s[k]).toNat
    ·refine .inr ⟨h3,?_⟩
     by_cases h4:57<(s[k]).toNat
     ·exact h4
     have:=Dh.2 ⟨h3,by omega⟩;rw[hd]at this;cases this
    exact .inl (by omega)
   clear q1 q2 hd
   subst hkn2
   rcases h2 with h2|⟨h2,h3⟩
   ·go_wp2_with fail
    go_ret
    exact⟨rfl,rfl⟩
   go_wp2_with fail
   go_ret
   exact⟨rfl,rfl⟩
  ·have hkn2:k=n:=by omega
   subst hkn2
   go_wp2_with fail
   go_ret
   exact⟨rfl,rfl⟩
def Bl(S:List Ty)(k:Kd)(o:Option (Vl × List UInt8))(w:World)(e:Ending)(w':World):Prop:=
 (match o with
  |some x=>∃b,e=.returned (.tuple #[.pointer (some ⟨b,0,none⟩),.string ⟨x.2.toArray⟩,.bool true])/\Fl (fun c=>w.heap.size<=c) w' b (Cq S k x.1)
  |none=>∃(q:Option Addr) (r:ByteArray),e=.returned (.tuple #[.pointer q,.string r,.bool false]))/\Below w.heap.size w w'
theorem Bl.no{S:List Ty}{k:Kd}{o:Option (Vl × List UInt8)}{w w':World}{e:Ending}(ho:o=none){q:Option Addr}{r:ByteArray}(he:e=.returned (.tuple #[.pointer q,.string r,.bool false]))(hb:Below w.heap.size w w'):Bl S k o w e w':=by
 rw[ho];exact⟨⟨q,r,he⟩,hb⟩
theorem Fl.leaf{P:Nat->Prop}{w:World}{kind text:List UInt8}{T:TypeId}(hP:P w.heap.size):Fl P (w.alloc (.cells #[.string ⟨kind.toArray⟩,.string ⟨text.toArray⟩,.slice none 0 0,.slice none 0 0] T)) w.heap.size (.mk kind text [] []):=
 .mk kind text [] none none 0 0 [] rfl (by simp) hP (by simp) (by simp) (by simp) (by simp) ⟨rfl,Nat.zero_le _,fun h=>absurd h (by simp)⟩ ⟨rfl,Nat.zero_le _,fun h=>absurd h (by simp)⟩ (by simp) (by simp) (fun _ _ h=>absurd h (by simp)) (fun _ _ h=>absurd h (by simp)) (by simp)
theorem Qg8(s:List UInt8):Qg s=if Dp (s.takeWhile Bh) 999999 then(Cn (s.takeWhile Bh)).map (fun n=>(n,s.dropWhile Bh))else none:=by
 unfold Qg Dp
 cases h:Cn (s.takeWhile Bh)with
 |none=>rfl
 |some n=>simp[(Ca.1 h).1]
theorem Qgq(S:List Ty)(xv:Value)(hxv:xv.oneCell'=true)(s:List UInt8)(k:Kd)(hs0:k.signs=[])(hb:k.base=[110])(w:World)(hs:s.length<=4000000)(q:Option (Vl × List UInt8))(hq:q=match Qg s with|some (n,r)=>some (.mk 110 (Bb n) 0 [],r)|none=>none):
  Calls prog 69 #[.agg #[xv],.string ⟨s.toArray⟩,.string ⟨#[110]⟩] w (Bl S k q w):=by
 have hkd:Bj k=[110]:=by unfold Bj Bs;rw[hs0,hb];rfl
 have HQ:=Aa (hq.trans (by rw[Qg8]))
 obtain⟨e1,e2,hle⟩:=Qx Bh s
 have Hd:=Aa (fun W=>Sj s W hs)
 have Hn:=Aa (fun W=>Dg (s.takeWhile Bh) 999999 W (by omega) (by decide))
 have HD:=Aa (fun m (h:Cn (s.takeWhile Bh)=some m)=>(Ca.1 h).2)
 have E1:=Aa e1
 have E2:=Aa e2
 have k1:((s.takeWhile Bh).length:Int)<=(s.length:Int):=by omega
 generalize (s.takeWhile Bh).length=n at *
 generalize s.takeWhile Bh=tw at *
 generalize s.dropWhile Bh=dw at *
 have k2:(0:Int)<=(n:Int):=by omega
 have k3:((n:Int)).toNat=n:=by omega
 have hn8:n<=4000000:=by omega
 clear e1 e2 hs0 hb hq
 go_enter func69,ntmps69
 go_wp2_with fail
 refine(Hd.o _).mono ?_
 rintro e w1 ⟨rfl,rfl⟩
 go_wp2_with fail
 rw[E1.o]
 refine(Hn.o _).mono ?_
 rintro e w2 ⟨m,hm,rfl,hdm,hb2⟩
 have Hb2:=Aa (((Aq w.heap.size w).alloc (Ap _) (.cells #[xv] 92)).trans (hb2.mono (by simp)))
 have Hdm:=Aa hdm
 have hz2:=Hb2.o.size
 have Hok:=Aa (show Dp tw 999999=(Cn tw).isSome by unfold Dp;cases h:Cn tw with|none=>rfl|some m=>simp[(Ca.1 h).1])
 generalize Dp tw 999999=ok at *
 clear hb2 hdm
 go_wp2_with fail
 refine Ge [26,27,28,29,30,31,32,33,34,35,6,7,8]
  (fun ix v W=>match ix with|0=>v=.string ⟨#[110]⟩|1=>v=.string ⟨(s:List UInt8).toArray⟩|2=>v=.int .i64 (n:Int)|3=>v=.string ⟨(tw:List UInt8).toArray⟩|4=>v=.agg #[.string ⟨#[110]⟩,.string ⟨(tw:List UInt8).toArray⟩,.slice none 0 0,.slice none 0 0]|5=>∃c,v=.pointer (some ⟨c,0,none⟩)|6=>v=.string ⟨(s:List UInt8).toArray⟩|7=>v=.int .i64 (n:Int)|8=>v=.string ⟨(dw:List UInt8).toArray⟩|9=>v=.bool ok|10=>∃c,v=.pointer (some ⟨c,0,none⟩)|11=>v=.string ⟨(dw:List UInt8).toArray⟩|12=>v=.bool ok|_=>True)
  (fun L U W=>(L 5=false->Below w2.heap.size w2 W)/\(L 5=true->∃W7,W=W7.alloc (.cells #[.string ⟨#[110]⟩,.string ⟨(tw:List UInt8).toArray⟩,.slice none 0 0,.slice none 0 0] 97)/\Below w2.heap.size w2 W7/\U 5=.pointer (some ⟨W7.heap.size,0,none⟩))/\(L 10=true->U 10=U 5)) (⟨fun _=>(Aq _ _).drew,fun h=>Bool.noConfusion h,fun h=>Bool.noConfusion h⟩) ?_ ?_
 ·repeat (first|exact Ah.nil|(refine Ah.cons ?_ ?_;rotate_left))
  all_goals
   rintro L U W hL hpre HR Hdep K hK
   first|(simp[Region.binds]at hpre;done)|simp[Region.binds]at hpre|clear hpre
  iterate 3
   ·go_simp
    exact kE hK HR.o
  ·go_simp
   rw[E1.o]
   exact kE hK HR.o
  ·go_simp
   exact kE hK HR.o
  ·obtain⟨R1,R2,R3⟩:=HR.o
   have hB:=R1 hL
   have h10:L 10=false:=Ax Hdep.o 10 5 rfl hL
   go_simp
   exact hK (.pointer (some ⟨W.heap.size,0,none⟩)) _ _ ⟨_,rfl⟩ Ac ⟨fun h=>by simp at h,fun _=>⟨W,rfl,hB,rfl⟩,fun h=>absurd (h10.symm.trans (by simpa using h)) (by decide)⟩ (by simp[Act.put,hpre])
  iterate 2
   ·go_simp
    exact kE hK HR.o
  ·go_simp
   rw[E2.o]
   exact kE hK HR.o
  ·go_simp
   exact kE hK HR.o
  ·obtain⟨R1,R2,R3⟩:=HR.o
   obtain⟨c,u5⟩:=hpre.1.2
   clear R1 R2 R3
   go_simp
   obtain⟨R1,R2,R3⟩:=HR.o
   exact hK (.pointer (some ⟨c,0,none⟩)) _ _ ⟨c,rfl⟩ Ac ⟨R1,R2,fun _=>u5.symm⟩ (by simp[Act.put,hpre,u5])
  iterate 2
   ·go_simp
    exact kE hK HR.o
 rintro L U W hL hφ hR
 have hφ10:U 10=U 5:=hR.2.2 (hL 10 (by decide))
 have e11:U 11=.string ⟨(dw:List UInt8).toArray⟩:=hφ 11 (by decide)
 have e12:U 12=.bool ok:=hφ 12 (by decide)
 clear hφ
 obtain⟨_,h2,h3⟩:=hR
 obtain⟨W7,rfl,hb7,u5⟩:=h2 (hL 5 (by decide))
 rw[u5]at hφ10
 clear hL h2
 simp only[hφ10,e11,e12]
 clear hφ10
 go_wp2_with fail
 refine bodyPost_ret (v:=.tuple #[.pointer (some ⟨W7.heap.size,0,none⟩),.string ⟨dw.toArray⟩,.bool ok]) (by simp[results,results69,go_sem]) rfl ?_
 have hz7:=hb7.size
 have Hb7:=((Hb2.o.trans (hb7.mono hz2)).alloc (Nat.le_trans hz2 hz7) (.cells #[.string ⟨#[110]⟩,.string ⟨tw.toArray⟩,.slice none 0 0,.slice none 0 0] 97))
 have HQ:=HQ.o
 cases ok with
 |false=>exact Bl.no HQ rfl Hb7
 |true=>
  cases hd:Cn tw with
  |none=>rw[hd]at HQ;have:=Hok.o;rw[hd]at this;cases this
  |some m'=>
   rw[hd]at HQ
   simp only[if_true,Option.map_some]at HQ
   rw[HQ]
   refine⟨⟨W7.heap.size,rfl,?_⟩,Hb7⟩
   rw[Y8,hkd,<-HD.o m' hd]
   exact Fl.leaf (P:=fun c=>w.heap.size<=c) (by omega)
def Np(c:UInt8):Bool:=c != 39
def Mq(s:List UInt8):Nat:=min (((s.drop 1).takeWhile Np).length+2) s.length
theorem Qg3(r:List UInt8):(r.takeWhile Np=r/\∀x∈r,x≠39)\/∃q,r=r.takeWhile Np++39::q:=by
 induction r with
 |nil=>exact .inl ⟨rfl,by simp⟩
 |cons x r ih=>
  by_cases hx:Np x=true
  ·rw[List.takeWhile_cons_of_pos hx]
   rcases ih with⟨h1,h2⟩|⟨q,h⟩
   ·refine .inl ⟨by rw[h1],fun y hy=>?_⟩
    rcases List.mem_cons.1 hy with rfl|hy
    ·simpa [Np]using hx
    exact h2 y hy
   exact .inr ⟨q,by rw[List.cons_append,<-h]⟩
  rw[List.takeWhile_cons_of_neg hx]
  have:x=39:=by simpa [Np]using hx
  subst this
  exact .inr ⟨r,rfl⟩
theorem Qia(c:UInt8)(r:List UInt8):(Fk ((c::r).take (Mq (c::r)))=false/\Mo (c::r)=none) \/
  ∃x q,Mo (c::r)=some (x,q)/\Fk ((c::r).take (Mq (c::r)))=true/\(c::r).take (Mq (c::r))=39::(x++[39])/\(c::r).drop (Mq (c::r))=q:=by
 rcases Qg3 r with⟨h1,h2⟩|⟨q,h⟩
 ·left
  have e:Mq (c::r)=(c::r).length:=by unfold Mq;rw[show (c::r).drop 1=r from rfl,h1];simp
  rw[e,List.take_length]
  have hd:Ar 39 (r.dropWhile Ce)=none:=by
   cases hc:r.dropWhile Ce with
   |nil=>rfl
   |cons x z=>
    have hx:x∈r:=(List.dropWhile_sublist _).subset (by rw[hc];simp)
    simp[Ar,h2 x hx]
  constructor
  ·unfold Fk
   by_cases h0:r=[]
   ·subst h0;simp
   have hl:(c::r).getLast?=some (r.getLast h0):=by rw[List.getLast?_cons,List.getLast?_eq_some_getLast h0];rfl
   have:=h2 _ (List.getLast_mem h0)
   rw[hl];simp[this]
  unfold Mo
  by_cases hc:c=39
  ·subst hc;rw[show Ar 39 (39::r)=some r by simp[Ar]];simp only;rw[hd]
  simp[Ar,hc]
 generalize htw:r.takeWhile Np=tw at *
 have hno:∀x∈tw,Np x=true:=fun x hx=>by rw[<-htw]at hx;exact(List.all_eq_true.1 (List.all_takeWhile)) x hx
 have e:Mq (c::r)=tw.length+2:=by
  unfold Mq;rw[show (c::r).drop 1=r from rfl,htw]
  have:(c::r).length=tw.length+1+q.length+1:=by rw[h];simp;omega
  omega
 have et:(c::r).take (tw.length+2)=c::(tw++[39]):=by
  rw[List.take_succ_cons,h,List.take_append,List.take_of_length_le (by omega)]
  simp
 have ed:(c::r).drop (tw.length+2)=q:=by
  rw[List.drop_succ_cons,h,List.drop_append,List.drop_of_length_le (by omega)]
  simp
 have eq:Fk (c::(tw++[39]))=(decide (c=39) && Dl tw):=by
  unfold Fk
  have hl:(c::(tw++[39])).getLast?=some 39:=by rw[<-List.cons_append,List.getLast?_append];rfl
  rw[hl];simp
 rw[e,et,ed,eq]
 by_cases hc:c=39
 ·subst hc
  by_cases hall:tw.all Ce=true
  ·have ha:=List.all_eq_true.1 hall
   have t1:r.takeWhile Ce=tw:=by rw[h,List.takeWhile_append_of_pos ha];simp[Ce,H3,Bh]
   have t2:r.dropWhile Ce=39::q:=by rw[h,List.dropWhile_append_of_pos ha];simp[Ce,H3,Bh]
   by_cases h12:tw.length<=12
   ·right
    exact⟨tw,q,by simp[Mo,Ar,t1,t2,h12],by simp[Dl,h12,hall],rfl,rfl⟩
   left
   exact⟨by simp[Dl,h12],by simp[Mo,Ar,t1,t2,h12]⟩
  left
  refine⟨by simp[Dl,hall],?_⟩
  have:Ar 39 (r.dropWhile Ce)=none:=by
   rw[h]
   clear htw h e et ed eq
   induction tw with
   |nil=>simp at hall
   |cons x tw ih=>
    by_cases hx:Ce x=true
    ·rw[List.cons_append,List.dropWhile_cons_of_pos hx]
     exact ih (fun y hy=>hno y (by simp[hy])) (by simpa [hx]using hall)
    rw[List.cons_append,List.dropWhile_cons_of_neg hx]
    have:=hno x (by simp)
    simp[Np]at this
    simp[Ar,this]
  unfold Mo;rw[show Ar 39 (39::r)=some r by simp[Ar]];simp only;rw[this]
 left
 exact⟨by simp[hc],by simp[Mo,Ar,hc]⟩
theorem Qfe(S:List Ty)(xv:Value)(hxv:xv.oneCell'=true)(s:List UInt8)(k:Kd)(hs0:k.signs=[])(hb:k.base=[116])(w:World)(hs:s.length<=4000000)(hne:s≠[])(q:Option (Vl × List UInt8))(hq:q=match Mo s with|some (x,r)=>some (.mk 116 x 0 [],r)|none=>none):
  Calls prog 69 #[.agg #[xv],.string ⟨s.toArray⟩,.string ⟨#[116]⟩] w (Bl S k q w):=by
 have hkd:Bj k=[116]:=by unfold Bj Bs;rw[hs0,hb];rfl
 have HQ:=Aa hq
 have Hor:=Aa (show (Fk (s.take (Mq s))=false/\Mo s=none)\/∃x q,Mo s=some (x,q)/\Fk (s.take (Mq s))=true/\s.take (Mq s)=39::(x++[39])/\s.drop (Mq s)=q by
  cases s with
  |nil=>exact absurd rfl hne
  |cons c r=>exact Qia c r)
 have hz:1<=s.length:=by cases s with|nil=>exact absurd rfl hne|cons c r=>simp
 have HT:=Aa (fun i (hi:i+1<s.length)=>(show (i<((s.drop 1).takeWhile Np).length->s[i+1]≠39)/\(i=((s.drop 1).takeWhile Np).length->s[i+1]=39)from by
  have h:=Qb4 Np (s.drop 1) i (by simp;omega)
  simp only[List.getElem_drop,Nat.add_comm 1 i]at h
  exact⟨fun h1=>by simpa [Np]using h.1 h1,fun h1=>by simpa [Np]using h.2 h1⟩))
 have hle:((s.drop 1).takeWhile Np).length+1<=s.length:=by
  have:=(Qx Np (s.drop 1)).2.2
  rw[List.length_drop]at this;omega
 have hqd:Mq s=min (((s.drop 1).takeWhile Np).length+2) s.length:=rfl
 have Hn:=Aa (fun W=>Vg (s.take (Mq s)) W (by simp;omega))
 generalize ((s.drop 1).takeWhile Np).length=m at *
 have k1:((Mq s:Nat):Int)<=(s.length:Int):=by omega
 have Hmin:Hid ((if ((m:Int)+1+1)<=(s.length:Int)then((m:Int)+1+1)else(s.length:Int))=((Mq s:Nat):Int)):=by
  unfold Hid;split<;>omega
 have k3:((Mq s:Nat):Int).toNat=Mq s:=by omega
 have k2:(0:Int)<=((Mq s:Nat):Int):=by omega
 generalize Mq s=n at *
 generalize hnok:Fk (s.take n)=ok at *
 have HI:∃tw dw,tw=s.take n/\dw=s.drop n:=⟨_,_,rfl,rfl⟩
 obtain⟨tw,dw,e1,e2⟩:=HI
 rw[<-e1,<-e2]at Hor
 rw[<-e1]at Hn hnok
 have E1:=Aa e1.symm
 have E2:=Aa e2.symm
 have Hok:=Aa hnok
 clear e1 e2 hs0 hb hq hqd hne hnok
 go_enter func69,ntmps69
 go_wp2_with fail
 go_loop [9] (fun i=>∃j:Nat,i=.int .i64 ((j:Int)+1)/\j<=m) (fun i=>m+1 - (intOf i).toNat)
 case atStart=>exact⟨0,rfl,Nat.zero_le _⟩
 case round=>
  obtain⟨j,rfl,hj⟩:=hrel
  by_cases hlt:j+1<s.length
  ·obtain⟨q1,q2⟩:=HT.o j hlt
   have hc:=(s[j+1]).toNat_lt
   by_cases hjm:j<m
   ·have h3:=q1 hjm
    have h4:((s[j+1]).toNat:Int)≠39:=fun h=>h3 (by apply UInt8.toNat_inj.1;simpa using(by exact_mod_cast h:(s[j+1]).toNat=39))
    clear q1 q2 h3
    go_wp2_with fail
    go_round
    case rel=>exact⟨j+1,by go_num,by omega⟩
    case measure=>simp[intOf];omega
   have hjm2:j=m:=by omega
   have h4:((s[j+1]).toNat:Int)=39:=by rw[q2 hjm2];rfl
   clear q1 q2
   subst hjm2
   clear hjm HT hj hle
   have e9:(j:Int)+1+1=(n:Int):=by rw[<-Hmin.o,if_pos (by omega)]
   go_wp2_with fail
   refine Ge [55,56,57,58,59,60,61,62,63,64,65,66,67,6,7,8]
    (fun ix v W=>match ix with|0=>v=.string ⟨#[116]⟩|1=>v=.string ⟨(s:List UInt8).toArray⟩|2=>v=.int .i64 (n:Int)|3=>v=.string ⟨(tw:List UInt8).toArray⟩|4=>v=.agg #[.string ⟨#[116]⟩,.string ⟨(tw:List UInt8).toArray⟩,.slice none 0 0,.slice none 0 0]|5=>∃c,v=.pointer (some ⟨c,0,none⟩)|6=>v=.string ⟨(s:List UInt8).toArray⟩|7=>v=.int .i64 (n:Int)|8=>v=.string ⟨(dw:List UInt8).toArray⟩|9=>v=.string ⟨(s:List UInt8).toArray⟩|10=>v=.int .i64 (n:Int)|11=>v=.string ⟨(tw:List UInt8).toArray⟩|12=>v=.bool ok|13=>∃c,v=.pointer (some ⟨c,0,none⟩)|14=>v=.string ⟨(dw:List UInt8).toArray⟩|15=>v=.bool ok|_=>True)
    (fun L U W=>(L 5=false->Below w.heap.size w W)/\(L 5=true->∃W7,W=W7.alloc (.cells #[.string ⟨#[116]⟩,.string ⟨(tw:List UInt8).toArray⟩,.slice none 0 0,.slice none 0 0] 97)/\Below w.heap.size w W7/\U 5=.pointer (some ⟨W7.heap.size,0,none⟩))/\(L 13=true->U 13=U 5)) (⟨fun _=>((Aq w.heap.size w).alloc (Ap _) _).drew,fun h=>Bool.noConfusion h,fun h=>Bool.noConfusion h⟩) ?_ ?_
   ·repeat (first|exact Ah.nil|(refine Ah.cons ?_ ?_;rotate_left))
    all_goals
     rintro L U W hL hpre HR Hdep K hK
     first|(simp[Region.binds]at hpre;done)|simp[Region.binds]at hpre|clear hpre
    iterate 3
     ·go_simp
      first|exact hK _ _ _ rfl Ac HR.o (by first|rfl|(simp[Act.put,hpre];done)|(simp[Act.put,hpre];omega))|exact hK undef _ _ Ac Ac HR.o (by first|(simp[Act.put,hpre];done)|(simp[Act.put,hpre];omega))|exact hK _ _ _ Ac Ac HR.o rfl|exact hK _ _ _ Ac Ac HR.o (by simp[Act.put,hpre];done)
    ·go_simp
     rw[E1.o]
     exact hK _ _ _ rfl Ac HR.o (by first|rfl|(simp[Act.put,hpre];done)|(simp[Act.put,hpre];omega))
    ·go_simp
     first|exact hK _ _ _ rfl Ac HR.o (by first|rfl|(simp[Act.put,hpre];done)|(simp[Act.put,hpre];omega))|exact hK undef _ _ Ac Ac HR.o (by first|(simp[Act.put,hpre];done)|(simp[Act.put,hpre];omega))|exact hK _ _ _ Ac Ac HR.o rfl|exact hK _ _ _ Ac Ac HR.o (by simp[Act.put,hpre];done)
    ·obtain⟨R1,R2,R3⟩:=HR.o
     have hB:=R1 hL
     have h10:L 13=false:=Ax Hdep.o 13 5 rfl hL
     go_simp
     exact hK (.pointer (some ⟨W.heap.size,0,none⟩)) _ _ ⟨_,rfl⟩ Ac ⟨fun h=>by simp at h,fun _=>⟨W,rfl,hB,rfl⟩,fun h=>absurd (h10.symm.trans (by simpa using h)) (by decide)⟩ (by simp[Act.put,hpre])
    iterate 2
     ·go_simp
      first|exact hK _ _ _ rfl Ac HR.o (by first|rfl|(simp[Act.put,hpre];done)|(simp[Act.put,hpre];omega))|exact hK undef _ _ Ac Ac HR.o (by first|(simp[Act.put,hpre];done)|(simp[Act.put,hpre];omega))|exact hK _ _ _ Ac Ac HR.o rfl|exact hK _ _ _ Ac Ac HR.o (by simp[Act.put,hpre];done)
    ·go_simp
     rw[E2.o]
     exact hK _ _ _ rfl Ac HR.o (by first|rfl|(simp[Act.put,hpre];done)|(simp[Act.put,hpre];omega))
    iterate 2
     ·go_simp
      first|exact hK _ _ _ rfl Ac HR.o (by first|rfl|(simp[Act.put,hpre];done)|(simp[Act.put,hpre];omega))|exact hK undef _ _ Ac Ac HR.o (by first|(simp[Act.put,hpre];done)|(simp[Act.put,hpre];omega))|exact hK _ _ _ Ac Ac HR.o rfl|exact hK _ _ _ Ac Ac HR.o (by simp[Act.put,hpre];done)
    ·go_simp
     rw[E1.o]
     exact hK _ _ _ rfl Ac HR.o (by first|rfl|(simp[Act.put,hpre];done)|(simp[Act.put,hpre];omega))
    ·go_simp
     refine(Hn.o _).mono ?_
     rintro e wz ⟨rfl,rfl⟩
     go_simp
     exact hK _ _ _ rfl Ac HR.o (by first|rfl|(simp[Act.put,hpre];done)|(simp[Act.put,hpre];omega))
    ·obtain⟨R1,R2,R3⟩:=HR.o
     obtain⟨c,u5⟩:=hpre.1.2
     clear R1 R2 R3
     go_simp
     obtain⟨R1,R2,R3⟩:=HR.o
     exact hK (.pointer (some ⟨c,0,none⟩)) _ _ ⟨c,rfl⟩ Ac ⟨R1,R2,fun _=>u5.symm⟩ (by simp[Act.put,hpre,u5])
    iterate 2
     ·go_simp
      first|exact hK _ _ _ rfl Ac HR.o (by first|rfl|(simp[Act.put,hpre];done)|(simp[Act.put,hpre];omega))|exact hK undef _ _ Ac Ac HR.o (by first|(simp[Act.put,hpre];done)|(simp[Act.put,hpre];omega))|exact hK _ _ _ Ac Ac HR.o rfl|exact hK _ _ _ Ac Ac HR.o (by simp[Act.put,hpre];done)
   rintro L U W hL hφ hR
   have hφ10:U 13=U 5:=hR.2.2 (hL 13 (by decide))
   have e11:U 14=.string ⟨(dw:List UInt8).toArray⟩:=hφ 14 (by decide)
   have e12:U 15=.bool ok:=hφ 15 (by decide)
   clear hφ
   obtain⟨_,h2,h3⟩:=hR
   obtain⟨W7,rfl,hb7,u5⟩:=h2 (hL 5 (by decide))
   rw[u5]at hφ10
   clear hL h2
   simp only[hφ10,e11,e12]
   clear hφ10
   go_wp2_with fail
   refine bodyPost_ret (v:=.tuple #[.pointer (some ⟨W7.heap.size,0,none⟩),.string ⟨dw.toArray⟩,.bool ok]) (by simp[results,results69,go_sem]) rfl ?_
   have hz7:=hb7.size
   have Hb7:=(hb7.alloc (by omega) (.cells #[.string ⟨#[116]⟩,.string ⟨tw.toArray⟩,.slice none 0 0,.slice none 0 0] 97))
   have HQ:=HQ.o
   rcases Hor.o with⟨o1,o2⟩|⟨x,q',o1,o2,o3,o4⟩
   ·rw[o2]at HQ
    subst o1
    exact Bl.no HQ rfl Hb7
   rw[o1]at HQ
   subst o2
   rw[HQ]
   subst o4
   refine⟨⟨W7.heap.size,rfl,?_⟩,Hb7⟩
   rw[Vf,hkd,<-o3]
   exact Fl.leaf (P:=fun c=>w.heap.size<=c) (by omega)
  ·have hjm2:j=m:=by omega
   subst hjm2
   have hj3:(j:Int)<=5000000:=by omega
   have hj4:(0:Int)<=(j:Int):=by omega
   have hj5:¬((j:Int)+1+1<=(s.length:Int)):=by omega
   clear HT hj
   have e9:(s.length:Int)=(n:Int):=by rw[<-Hmin.o,if_neg (by omega)]
   go_wp2_with fail
   refine Ge [55,56,57,58,59,60,61,62,63,64,65,66,67,6,7,8]
    (fun ix v W=>match ix with|0=>v=.string ⟨#[116]⟩|1=>v=.string ⟨(s:List UInt8).toArray⟩|2=>v=.int .i64 (n:Int)|3=>v=.string ⟨(tw:List UInt8).toArray⟩|4=>v=.agg #[.string ⟨#[116]⟩,.string ⟨(tw:List UInt8).toArray⟩,.slice none 0 0,.slice none 0 0]|5=>∃c,v=.pointer (some ⟨c,0,none⟩)|6=>v=.string ⟨(s:List UInt8).toArray⟩|7=>v=.int .i64 (n:Int)|8=>v=.string ⟨(dw:List UInt8).toArray⟩|9=>v=.string ⟨(s:List UInt8).toArray⟩|10=>v=.int .i64 (n:Int)|11=>v=.string ⟨(tw:List UInt8).toArray⟩|12=>v=.bool ok|13=>∃c,v=.pointer (some ⟨c,0,none⟩)|14=>v=.string ⟨(dw:List UInt8).toArray⟩|15=>v=.bool ok|_=>True)
    (fun L U W=>(L 5=false->Below w.heap.size w W)/\(L 5=true->∃W7,W=W7.alloc (.cells #[.string ⟨#[116]⟩,.string ⟨(tw:List UInt8).toArray⟩,.slice none 0 0,.slice none 0 0] 97)/\Below w.heap.size w W7/\U 5=.pointer (some ⟨W7.heap.size,0,none⟩))/\(L 13=true->U 13=U 5)) (⟨fun _=>((Aq w.heap.size w).alloc (Ap _) _).drew,fun h=>Bool.noConfusion h,fun h=>Bool.noConfusion h⟩) ?_ ?_
   ·repeat (first|exact Ah.nil|(refine Ah.cons ?_ ?_;rotate_left))
    all_goals
     rintro L U W hL hpre HR Hdep K hK
     first|(simp[Region.binds]at hpre;done)|simp[Region.binds]at hpre|clear hpre
    iterate 3
     ·go_simp
      first|exact hK _ _ _ rfl Ac HR.o (by first|rfl|(simp[Act.put,hpre];done)|(simp[Act.put,hpre];omega))|exact hK undef _ _ Ac Ac HR.o (by first|(simp[Act.put,hpre];done)|(simp[Act.put,hpre];omega))|exact hK _ _ _ Ac Ac HR.o rfl|exact hK _ _ _ Ac Ac HR.o (by simp[Act.put,hpre];done)
    ·go_simp
     rw[E1.o]
     exact hK _ _ _ rfl Ac HR.o (by first|rfl|(simp[Act.put,hpre];done)|(simp[Act.put,hpre];omega))
    ·go_simp
     first|exact hK _ _ _ rfl Ac HR.o (by first|rfl|(simp[Act.put,hpre];done)|(simp[Act.put,hpre];omega))|exact hK undef _ _ Ac Ac HR.o (by first|(simp[Act.put,hpre];done)|(simp[Act.put,hpre];omega))|exact hK _ _ _ Ac Ac HR.o rfl|exact hK _ _ _ Ac Ac HR.o (by simp[Act.put,hpre];done)
    ·obtain⟨R1,R2,R3⟩:=HR.o
     have hB:=R1 hL
     have h10:L 13=false:=Ax Hdep.o 13 5 rfl hL
     go_simp
     exact hK (.pointer (some ⟨W.heap.size,0,none⟩)) _ _ ⟨_,rfl⟩ Ac ⟨fun h=>by simp at h,fun _=>⟨W,rfl,hB,rfl⟩,fun h=>absurd (h10.symm.trans (by simpa using h)) (by decide)⟩ (by simp[Act.put,hpre])
    iterate 2
     ·go_simp
      first|exact hK _ _ _ rfl Ac HR.o (by first|rfl|(simp[Act.put,hpre];done)|(simp[Act.put,hpre];omega))|exact hK undef _ _ Ac Ac HR.o (by first|(simp[Act.put,hpre];done)|(simp[Act.put,hpre];omega))|exact hK _ _ _ Ac Ac HR.o rfl|exact hK _ _ _ Ac Ac HR.o (by simp[Act.put,hpre];done)
    ·go_simp
     rw[E2.o]
     exact hK _ _ _ rfl Ac HR.o (by first|rfl|(simp[Act.put,hpre];done)|(simp[Act.put,hpre];omega))
    iterate 2
     ·go_simp
      first|exact hK _ _ _ rfl Ac HR.o (by first|rfl|(simp[Act.put,hpre];done)|(simp[Act.put,hpre];omega))|exact hK undef _ _ Ac Ac HR.o (by first|(simp[Act.put,hpre];done)|(simp[Act.put,hpre];omega))|exact hK _ _ _ Ac Ac HR.o rfl|exact hK _ _ _ Ac Ac HR.o (by simp[Act.put,hpre];done)
    ·go_simp
     rw[E1.o]
     exact hK _ _ _ rfl Ac HR.o (by first|rfl|(simp[Act.put,hpre];done)|(simp[Act.put,hpre];omega))
    ·go_simp
     refine(Hn.o _).mono ?_
     rintro e wz ⟨rfl,rfl⟩
     go_simp
     exact hK _ _ _ rfl Ac HR.o (by first|rfl|(simp[Act.put,hpre];done)|(simp[Act.put,hpre];omega))
    ·obtain⟨R1,R2,R3⟩:=HR.o
     obtain⟨c,u5⟩:=hpre.1.2
     clear R1 R2 R3
     go_simp
     obtain⟨R1,R2,R3⟩:=HR.o
     exact hK (.pointer (some ⟨c,0,none⟩)) _ _ ⟨c,rfl⟩ Ac ⟨R1,R2,fun _=>u5.symm⟩ (by simp[Act.put,hpre,u5])
    iterate 2
     ·go_simp
      first|exact hK _ _ _ rfl Ac HR.o (by first|rfl|(simp[Act.put,hpre];done)|(simp[Act.put,hpre];omega))|exact hK undef _ _ Ac Ac HR.o (by first|(simp[Act.put,hpre];done)|(simp[Act.put,hpre];omega))|exact hK _ _ _ Ac Ac HR.o rfl|exact hK _ _ _ Ac Ac HR.o (by simp[Act.put,hpre];done)
   rintro L U W hL hφ hR
   have hφ10:U 13=U 5:=hR.2.2 (hL 13 (by decide))
   have e11:U 14=.string ⟨(dw:List UInt8).toArray⟩:=hφ 14 (by decide)
   have e12:U 15=.bool ok:=hφ 15 (by decide)
   clear hφ
   obtain⟨_,h2,h3⟩:=hR
   obtain⟨W7,rfl,hb7,u5⟩:=h2 (hL 5 (by decide))
   rw[u5]at hφ10
   clear hL h2
   simp only[hφ10,e11,e12]
   clear hφ10
   go_wp2_with fail
   refine bodyPost_ret (v:=.tuple #[.pointer (some ⟨W7.heap.size,0,none⟩),.string ⟨dw.toArray⟩,.bool ok]) (by simp[results,results69,go_sem]) rfl ?_
   have hz7:=hb7.size
   have Hb7:=(hb7.alloc (by omega) (.cells #[.string ⟨#[116]⟩,.string ⟨tw.toArray⟩,.slice none 0 0,.slice none 0 0] 97))
   have HQ:=HQ.o
   rcases Hor.o with⟨o1,o2⟩|⟨x,q',o1,o2,o3,o4⟩
   ·rw[o2]at HQ
    subst o1
    exact Bl.no HQ rfl Hb7
   rw[o1]at HQ
   subst o2
   rw[HQ]
   subst o4
   refine⟨⟨W7.heap.size,rfl,?_⟩,Hb7⟩
   rw[Vf,hkd,<-o3]
   exact Fl.leaf (P:=fun c=>w.heap.size<=c) (by omega)
theorem Qc:∀(p s:List UInt8),Fg p s=if s.take p.length=p then some (s.drop p.length)else none
 |[],s=>by simp[Fg]
 |c::p,[]=>by simp[Fg,Ar]
 |c::p,x::s=>by
  have ih:=Qc p s
  unfold Fg
  by_cases h:x=c
  ·subst h
   simp only[Ar,if_true,List.length_cons,List.take_succ_cons,List.drop_succ_cons,List.cons.injEq,true_and]
   exact ih
  simp[Ar,h]
theorem Qgc(S:List Ty)(xv:Value)(hxv:xv.oneCell'=true)(s:List UInt8)(k:Kd)(hs0:k.signs=[])(hb:k.base=[102])(w:World)(hs:s.length<=4000000)(q:Option (Vl × List UInt8))(hq:q=match Nz s with|some (b,r)=>some (.mk 102 (if b then Ei else My) 0 [],r)|none=>none):
  Calls prog 69 #[.agg #[xv],.string ⟨s.toArray⟩,.string ⟨#[102]⟩] w (Bl S k q w):=by
 have hkd:Bj k=[102]:=by unfold Bj Bs;rw[hs0,hb];rfl
 have Hq:=Aa hq
 have Hy:=Aa (Qc Ei s)
 have Hn:=Aa (Qc My s)
 clear hq hs0 hb
 go_enter func69,ntmps69
 go_wp2_with fail
 go_loop [70] (fun i=>(i=.int .i64 0)\/(i=.int .i64 1/\¬s.take 3=Ei)\/(i=.int .i64 2/\¬s.take 3=Ei/\¬s.take 2=My)) (fun i=>3 - (intOf i).toNat)
 case atStart=>exact .inl rfl
 case round=>
  obtain rfl|⟨rfl,hny⟩|⟨rfl,hny,hnn⟩:=hrel
  ·by_cases hl:3<=s.length
   ·have hl2:(3:Int)<=(s.length:Int):=by omega
    by_cases ht:s.take 3=Ei
    ·have HQ:=Aa (show q=some (.mk 102 Ei 0 [],s.drop 3)from by rw[Hq.o];unfold Nz;rw[Hy.o,if_pos (show s.take Ei.length=Ei from ht)];rfl)
     generalize hdw:s.drop 3=dw at *
     have E2:=Aa hdw
     have tb:(s.take 3 == [121,101,115])=true:=by rw[ht];rfl
     clear Hq hdw ht
     go_wp2_with fail
     have HbW:=Aa (((Aq w.heap.size w).alloc (Ap _) (.cells #[xv] 92)).alloc (by simp) (.cells #[.string ⟨#[121,101,115]⟩,.string ⟨#[110,111]⟩] 9))
     refine Ge [87,88,89,90,91,92,93,94,6,7,8]
      (fun ix v W=>match ix with|0=>v=.string ⟨#[102]⟩|1=>v=.string ⟨#[121,101,115]⟩|2=>v=.agg #[.string ⟨#[102]⟩,.string ⟨#[121,101,115]⟩,.slice none 0 0,.slice none 0 0]|3=>∃c,v=.pointer (some ⟨c,0,none⟩)|4=>v=.string ⟨(s:List UInt8).toArray⟩|5=>v=.string ⟨#[121,101,115]⟩|6=>v=.int .i64 3|7=>v=.string ⟨(dw:List UInt8).toArray⟩|8=>∃c,v=.pointer (some ⟨c,0,none⟩)|9=>v=.string ⟨(dw:List UInt8).toArray⟩|10=>v=.bool true|_=>True)
      (fun L U W=>(L 3=false->Below w.heap.size w W)/\(L 3=true->∃W7,W=W7.alloc (.cells #[.string ⟨#[102]⟩,.string ⟨#[121,101,115]⟩,.slice none 0 0,.slice none 0 0] 97)/\Below w.heap.size w W7/\U 3=.pointer (some ⟨W7.heap.size,0,none⟩))/\(L 8=true->U 8=U 3)) (⟨fun _=>HbW.o.drew,fun h=>Bool.noConfusion h,fun h=>Bool.noConfusion h⟩) ?_ ?_
     ·repeat (first|exact Ah.nil|(refine Ah.cons ?_ ?_;rotate_left))
      all_goals
       rintro L U W hL hpre HR Hdep K hK
       first|(simp[Region.binds]at hpre;done)|simp[Region.binds]at hpre|clear hpre
      iterate 3
       ·go_simp
        exact kE hK HR.o
      ·obtain⟨R1,R2,R3⟩:=HR.o
       have hB:=R1 hL
       have h10:L 8=false:=Ax Hdep.o 8 3 rfl hL
       go_simp
       exact hK (.pointer (some ⟨W.heap.size,0,none⟩)) _ _ ⟨_,rfl⟩ Ac ⟨fun h=>by simp at h,fun _=>⟨W,rfl,hB,rfl⟩,fun h=>absurd (h10.symm.trans (by simpa using h)) (by decide)⟩ (by simp[Act.put,hpre])
      iterate 3
       ·go_simp
        exact kE hK HR.o
      ·go_simp
       rw[E2.o]
       exact kE hK HR.o
      ·obtain⟨R1,R2,R3⟩:=HR.o
       obtain⟨c,u5⟩:=hpre.1.2
       clear R1 R2 R3
       go_simp
       obtain⟨R1,R2,R3⟩:=HR.o
       exact hK (.pointer (some ⟨c,0,none⟩)) _ _ ⟨c,rfl⟩ Ac ⟨R1,R2,fun _=>u5.symm⟩ (by simp[Act.put,hpre,u5])
      iterate 2
       ·go_simp
        exact kE hK HR.o
     rintro L U W hL hφ hR
     have hφ10:U 8=U 3:=hR.2.2 (hL 8 (by decide))
     have e11:U 9=.string ⟨(dw:List UInt8).toArray⟩:=hφ 9 (by decide)
     have e12:U 10=.bool true:=hφ 10 (by decide)
     clear hφ
     obtain⟨_,h2,h3⟩:=hR
     obtain⟨W7,rfl,hb7,u5⟩:=h2 (hL 3 (by decide))
     rw[u5]at hφ10
     clear hL h2
     simp only[hφ10,e11,e12]
     clear hφ10
     go_wp2_with fail
     refine bodyPost_ret (v:=.tuple #[.pointer (some ⟨W7.heap.size,0,none⟩),.string ⟨dw.toArray⟩,.bool true]) (by simp[results,results69,go_sem]) rfl ?_
     have hz7:=hb7.size
     have Hb7:=(hb7.alloc (by omega) (.cells #[.string ⟨#[102]⟩,.string ⟨#[121,101,115]⟩,.slice none 0 0,.slice none 0 0] 97))
     rw[HQ.o]
     refine⟨⟨W7.heap.size,rfl,?_⟩,Hb7⟩
     rw[Vm,hkd]
     exact Fl.leaf (P:=fun c=>w.heap.size<=c) (by omega)
    have tb:(s.take 3 == [121,101,115])=false:=by simpa [Ei,My]using ht
    go_wp2_with fail
    go_round
    case rel=>exact .inr (.inl ⟨rfl,ht⟩)
    case measure=>simp[intOf]
   have hl2:¬((3:Int)<=(s.length:Int)):=by omega
   have ht:¬s.take 3=Ei:=fun h=>hl (by have:=congrArg List.length h;simp[Ei,My]at this;omega)
   go_wp2_with fail
   go_round
   case rel=>exact .inr (.inl ⟨rfl,ht⟩)
   case measure=>simp[intOf]
  ·by_cases hl:2<=s.length
   ·have hl2:(2:Int)<=(s.length:Int):=by omega
    by_cases ht:s.take 2=My
    ·have HQ:=Aa (show q=some (.mk 102 My 0 [],s.drop 2)from by rw[Hq.o];unfold Nz;rw[Hy.o,if_neg (show ¬s.take Ei.length=Ei from hny),Hn.o,if_pos (show s.take My.length=My from ht)];rfl)
     generalize hdw:s.drop 2=dw at *
     have E2:=Aa hdw
     have tb:(s.take 2 == [110,111])=true:=by rw[ht];rfl
     clear Hq hdw ht
     go_wp2_with fail
     have HbW:=Aa (((Aq w.heap.size w).alloc (Ap _) (.cells #[xv] 92)).alloc (by simp) (.cells #[.string ⟨#[121,101,115]⟩,.string ⟨#[110,111]⟩] 9))
     refine Ge [87,88,89,90,91,92,93,94,6,7,8]
      (fun ix v W=>match ix with|0=>v=.string ⟨#[102]⟩|1=>v=.string ⟨#[110,111]⟩|2=>v=.agg #[.string ⟨#[102]⟩,.string ⟨#[110,111]⟩,.slice none 0 0,.slice none 0 0]|3=>∃c,v=.pointer (some ⟨c,0,none⟩)|4=>v=.string ⟨(s:List UInt8).toArray⟩|5=>v=.string ⟨#[110,111]⟩|6=>v=.int .i64 2|7=>v=.string ⟨(dw:List UInt8).toArray⟩|8=>∃c,v=.pointer (some ⟨c,0,none⟩)|9=>v=.string ⟨(dw:List UInt8).toArray⟩|10=>v=.bool true|_=>True)
      (fun L U W=>(L 3=false->Below w.heap.size w W)/\(L 3=true->∃W7,W=W7.alloc (.cells #[.string ⟨#[102]⟩,.string ⟨#[110,111]⟩,.slice none 0 0,.slice none 0 0] 97)/\Below w.heap.size w W7/\U 3=.pointer (some ⟨W7.heap.size,0,none⟩))/\(L 8=true->U 8=U 3)) (⟨fun _=>HbW.o.drew,fun h=>Bool.noConfusion h,fun h=>Bool.noConfusion h⟩) ?_ ?_
     ·repeat (first|exact Ah.nil|(refine Ah.cons ?_ ?_;rotate_left))
      all_goals
       rintro L U W hL hpre HR Hdep K hK
       first|(simp[Region.binds]at hpre;done)|simp[Region.binds]at hpre|clear hpre
      iterate 3
       ·go_simp
        exact kE hK HR.o
      ·obtain⟨R1,R2,R3⟩:=HR.o
       have hB:=R1 hL
       have h10:L 8=false:=Ax Hdep.o 8 3 rfl hL
       go_simp
       exact hK (.pointer (some ⟨W.heap.size,0,none⟩)) _ _ ⟨_,rfl⟩ Ac ⟨fun h=>by simp at h,fun _=>⟨W,rfl,hB,rfl⟩,fun h=>absurd (h10.symm.trans (by simpa using h)) (by decide)⟩ (by simp[Act.put,hpre])
      iterate 3
       ·go_simp
        exact kE hK HR.o
      ·go_simp
       rw[E2.o]
       exact kE hK HR.o
      ·obtain⟨R1,R2,R3⟩:=HR.o
       obtain⟨c,u5⟩:=hpre.1.2
       clear R1 R2 R3
       go_simp
       obtain⟨R1,R2,R3⟩:=HR.o
       exact hK (.pointer (some ⟨c,0,none⟩)) _ _ ⟨c,rfl⟩ Ac ⟨R1,R2,fun _=>u5.symm⟩ (by simp[Act.put,hpre,u5])
      iterate 2
       ·go_simp
        exact kE hK HR.o
     rintro L U W hL hφ hR
     have hφ10:U 8=U 3:=hR.2.2 (hL 8 (by decide))
     have e11:U 9=.string ⟨(dw:List UInt8).toArray⟩:=hφ 9 (by decide)
     have e12:U 10=.bool true:=hφ 10 (by decide)
     clear hφ
     obtain⟨_,h2,h3⟩:=hR
     obtain⟨W7,rfl,hb7,u5⟩:=h2 (hL 3 (by decide))
     rw[u5]at hφ10
     clear hL h2
     simp only[hφ10,e11,e12]
     clear hφ10
     go_wp2_with fail
     refine bodyPost_ret (v:=.tuple #[.pointer (some ⟨W7.heap.size,0,none⟩),.string ⟨dw.toArray⟩,.bool true]) (by simp[results,results69,go_sem]) rfl ?_
     have hz7:=hb7.size
     have Hb7:=(hb7.alloc (by omega) (.cells #[.string ⟨#[102]⟩,.string ⟨#[110,111]⟩,.slice none 0 0,.slice none 0 0] 97))
     rw[HQ.o]
     refine⟨⟨W7.heap.size,rfl,?_⟩,Hb7⟩
     rw[Vm,hkd]
     exact Fl.leaf (P:=fun c=>w.heap.size<=c) (by omega)
    have tb:(s.take 2 == [110,111])=false:=by simpa [Ei,My]using ht
    go_wp2_with fail
    go_round
    case rel=>exact .inr (.inr ⟨rfl,hny,ht⟩)
    case measure=>simp[intOf]
   have hl2:¬((2:Int)<=(s.length:Int)):=by omega
   have ht:¬s.take 2=My:=fun h=>hl (by have:=congrArg List.length h;simp[Ei,My]at this;omega)
   go_wp2_with fail
   go_round
   case rel=>exact .inr (.inr ⟨rfl,hny,ht⟩)
   case measure=>simp[intOf]
  ·have HQ:=Aa (show q=none from by rw[Hq.o];simp only[Nz,Hy.o,Hn.o,if_neg (show ¬s.take Ei.length=Ei from hny),if_neg (show ¬s.take My.length=My from hnn)])
   clear Hq
   go_wp2_with fail
   refine bodyPost_ret (v:=.tuple #[.pointer none,.string ⟨s.toArray⟩,.bool false]) (by simp[results,results69,go_sem]) rfl ?_
   exact Bl.no HQ.o rfl (((Aq w.heap.size w).alloc (Ap _) _).alloc (by simp) _)
end
theorem Vs:(prog.info? 56).map (fun i=>(i.zero,i.size,i.bytes))=some (some (.pointer none),1,8):=by kernel_rfl
theorem Qb1:(prog.info? 3).map (fun i=>(i.zero,i.size,i.bytes))=some (some (.int .i64 0),1,8):=by kernel_rfl
theorem Vc{W:World}{base s1 s2 n1 n2:Nat}{e1 e2:TypeId}{v1 v2:Value}{xs ys:List Value}(h:W.ownsRow base e1 s1 v1 n1 xs)(k:W.ownsRow base e2 s2 v2 n2 ys)(hne:e1≠e2):v1.ownBlock=none\/v1.ownBlock≠v2.ownBlock:=by
 obtain⟨_,⟨rfl,_⟩|⟨g,cap,cur,rfl,_,h3,_⟩⟩:=h
 ·exact .inl rfl
 obtain⟨_,⟨rfl,_⟩|⟨g',cap',cur',rfl,_,k3,_⟩⟩:=k
 ·exact .inr (by simp[Value.ownBlock])
 refine .inr fun e=>?_
 injection e with e
 simp only at e
 subst e
 rw[h3]at k3
 injection k3 with k3
 injection k3 with _ k3
 exact hne k3
theorem Tb{base b:Nat}{v:Value}(h:∀k,v.ownBlock=some k->base<=k)(hb:b<base):v.ownBlock=none\/v.ownBlock≠some b:=by
 by_cases hr:v.ownBlock=none
 ·exact .inl hr
 exact .inr fun e=>by have:=h b e;omega
structure Jr(base B:Nat)(W:World)(h0 h1 tu tv ku kv:Value)(gs:List Nat)(xs:List (Nat × SV)):Prop where
 lt:B<W.heap.size
 bs:base<=W.heap.size
 hB:B<base
 bk:Pf W B
 c0:W.cell? ⟨B,0,none⟩=some h0
 c1:W.cell? ⟨B,1,none⟩=some h1
 c2:W.cell? ⟨B,2,none⟩=some tu
 c3:W.cell? ⟨B,3,none⟩=some ku
 tags:W.ownsRow base 3 1 tv gs.length (Ec gs)
 row:W.ownsRow base 56 1 kv xs.length (Do (xs.map (·.1)))
 kids:∀x∈xs,Fl (fun c=>base<=c/\kv.ownBlock≠some c/\tv.ownBlock≠some c) W x.1 x.2
theorem Jr.after{base B:Nat}{W W':World}{h0 h1 tu tv ku kv:Value}{gs:List Nat}{xs:List (Nat × SV)}(h:Jr base B W h0 h1 tu tv ku kv gs xs)(hb:Below W.heap.size W W'):Jr base B W' h0 h1 tu tv ku kv gs xs:=by
 obtain⟨hc,_,hz⟩:=By hb
 exact⟨hz _ h.lt,Nat.le_trans h.bs hb.size,h.hB,h.bk.belowAt h.lt hb,(hc _ _ h.lt).trans h.c0,(hc _ _ h.lt).trans h.c1,(hc _ _ h.lt).trans h.c2,(hc _ _ h.lt).trans h.c3,Cm h.tags hb,Cm h.row hb,fun x hx=>(h.kids x hx).after hb⟩
theorem Jr.set2{base B:Nat}{W:World}{h0 h1 tu tv ku kv:Value}{gs:List Nat}{xs:List (Nat × SV)}(h:Jr base B W h0 h1 tu tv ku kv gs xs):Jr base B (W.setCell ⟨B,2,none⟩ tv) h0 h1 tv tv ku kv gs xs:=by
 have hg:=At W B 2 tv
 have hB:=h.hB
 exact⟨by simpa using h.lt,by simpa using h.bs,h.hB,h.bk.set _,by simp[go_sem,h.c0],by simp[go_sem,h.c1],by simp[go_sem,h.c2],by simp[go_sem,h.c3],h.tags.kept hg (Tb (fun k hk=>(h.tags.lt k hk).1) h.hB),h.row.kept hg (Tb (fun k hk=>(h.row.lt k hk).1) h.hB),fun x hx=>(h.kids x hx).grown hg fun c hc e=>by injection e with e;omega⟩
theorem Jr.set3{base B:Nat}{W:World}{h0 h1 tu tv ku kv:Value}{gs:List Nat}{xs:List (Nat × SV)}(h:Jr base B W h0 h1 tu tv ku kv gs xs):Jr base B (W.setCell ⟨B,3,none⟩ kv) h0 h1 tu tv kv kv gs xs:=by
 have hg:=At W B 3 kv
 have hB:=h.hB
 exact⟨by simpa using h.lt,by simpa using h.bs,h.hB,h.bk.set _,by simp[go_sem,h.c0],by simp[go_sem,h.c1],by simp[go_sem,h.c2],by simp[go_sem,h.c3],h.tags.kept hg (Tb (fun k hk=>(h.tags.lt k hk).1) h.hB),h.row.kept hg (Tb (fun k hk=>(h.row.lt k hk).1) h.hB),fun x hx=>(h.kids x hx).grown hg fun c hc e=>by injection e with e;omega⟩
theorem Jr.appK{base B:Nat}{W W':World}{h0 h1 tu tv ku kv kv':Value}{gs:List Nat}{xs:List (Nat × SV)}{x:Nat × SV}(h:Jr base B W h0 h1 tu tv ku kv gs xs)(hx:Fl (fun c=>base<=c/\kv.ownBlock≠some c/\tv.ownBlock≠some c) W x.1 x.2)
  (hown:W'.ownsRow base 56 1 kv' (xs.length+1) (Do (xs.map (·.1))++[.pointer (some ⟨x.1,0,none⟩)])) (hg:W.grownBy W' kv.ownBlock) (hwh:kv'.ownBlock=kv.ownBlock\/∃k,kv'.ownBlock=some k/\W.heap.size<=k):Jr base B W' h0 h1 tu tv ku kv' gs (xs++[x]):=by
 have hn:some B≠kv.ownBlock:=fun e=>by have:=(h.row.lt B e.symm).1;have:=h.hB;omega
 refine⟨Nat.lt_of_lt_of_le h.lt hg.size,Nat.le_trans h.bs hg.size,h.hB,h.bk.grown h.lt hg hn,hg.cell h.c0 hn,hg.cell h.c1 hn,hg.cell h.c2 hn,hg.cell h.c3 hn,h.tags.kept hg (Vc h.tags h.row (by decide)),by simpa [Do]using hown,fun y hy=>?_⟩
 have hy':Fl (fun c=>base<=c/\kv.ownBlock≠some c/\tv.ownBlock≠some c) W y.1 y.2:=by
  rcases List.mem_append.1 hy with hy|hy
  ·exact h.kids y hy
  rw[List.mem_singleton]at hy;subst hy;exact hx
 refine hy'.kept (fun b o v hb _ hv=>hg.cell hv fun e=>hb.2.1 e.symm) hg.size fun c hc hl=>⟨hc.1,?_,hc.2.2⟩
 rcases hwh with e|⟨k,e,hk⟩
 ·rw[e];exact hc.2.1
 rw[e];intro e;injection e with e;omega
theorem Jr.appT{base B:Nat}{W W':World}{h0 h1 tu tv tv' ku kv:Value}{gs:List Nat}{xs:List (Nat × SV)}{g:Nat}(h:Jr base B W h0 h1 tu tv ku kv gs xs)
  (hown:W'.ownsRow base 3 1 tv' (gs.length+1) (Ec gs++[.int .i64 (g:Int)])) (hg:W.grownBy W' tv.ownBlock) (hwh:tv'.ownBlock=tv.ownBlock\/∃k,tv'.ownBlock=some k/\W.heap.size<=k):Jr base B W' h0 h1 tu tv' ku kv (gs++[g]) xs:=by
 have hn:some B≠tv.ownBlock:=fun e=>by have:=(h.tags.lt B e.symm).1;have:=h.hB;omega
 refine⟨Nat.lt_of_lt_of_le h.lt hg.size,Nat.le_trans h.bs hg.size,h.hB,h.bk.grown h.lt hg hn,hg.cell h.c0 hn,hg.cell h.c1 hn,hg.cell h.c2 hn,hg.cell h.c3 hn,by simpa [Ec]using hown,h.row.kept hg (Vc h.row h.tags (by decide)),fun y hy=>?_⟩
 refine(h.kids y hy).kept (fun b o v hb _ hv=>hg.cell hv fun e=>hb.2.2 e.symm) hg.size fun c hc hl=>⟨hc.1,hc.2.1,?_⟩
 rcases hwh with e|⟨k,e,hk⟩
 ·rw[e];exact hc.2.2
 rw[e];intro e;injection e with e;omega
theorem Zy{w:World}{base k n m c:Nat}{e:TypeId}{A:Option Addr}{xs:List Value}(h:w.ownsRow base e k (.slice A m c) n xs):m=n:=by
 rcases h.2 with⟨e,h0⟩|⟨g,cap,cur,e,_⟩
 ·injection e with _ e1 e2;omega
 injection e with _ e1 e2
theorem Jr.push{base B n c:Nat}{W W':World}{A:Option Addr}{h0 h1 tu tv ku kv':Value}{gs:List Nat}{xs:List (Nat × SV)}{x:Nat × SV}(h:Jr base B W h0 h1 tu tv ku (.slice A n c) gs xs)(hx:Fl (fun c1=>base<=c1/\(Value.slice A n c).ownBlock≠some c1/\tv.ownBlock≠some c1) W x.1 x.2)
  (hown:W'.ownsRow base 56 1 kv' (xs.length+1) (Do (xs.map (·.1))++[.pointer (some ⟨x.1,0,none⟩)])) (hg:W.grownBy W' (Value.slice A n c).ownBlock) (hwh:kv'.ownBlock=(Value.slice A n c).ownBlock\/∃k,kv'.ownBlock=some k/\W.heap.size<=k):
  ∃A6 c6,kv'=.slice A6 (xs++[x]).length c6/\Jr base B W' h0 h1 tu tv ku kv' gs (xs++[x])/\Below base W W':=by
 have hA:=h.appK hx hown hg hwh
 have e:(xs++[x]).length=xs.length+1:=by simp
 rcases hown.2 with⟨e0,h0⟩|⟨g,cap,cur,e1,_⟩
 ·omega
 exact⟨some ⟨g,0,none⟩,cap,by rw[e,e1],hA,(Aq _ _).grown hg h.bs (fun k hk=>(h.row.lt k hk).1)⟩
theorem Jr.pushT{base B n c g:Nat}{W W':World}{A:Option Addr}{h0 h1 tu tv' ku kv:Value}{gs:List Nat}{xs:List (Nat × SV)}(h:Jr base B W h0 h1 tu (.slice A n c) ku kv gs xs)
  (hown:W'.ownsRow base 3 1 tv' (gs.length+1) (Ec gs++[.int .i64 (g:Int)])) (hg:W.grownBy W' (Value.slice A n c).ownBlock) (hwh:tv'.ownBlock=(Value.slice A n c).ownBlock\/∃k,tv'.ownBlock=some k/\W.heap.size<=k):
  ∃A6 c6,tv'=.slice A6 (gs++[g]).length c6/\Jr base B W' h0 h1 tu tv' ku kv (gs++[g]) xs/\Below base W W':=by
 have hA:=h.appT hown hg hwh
 have e:(gs++[g]).length=gs.length+1:=by simp
 rcases hown.2 with⟨e0,h0⟩|⟨g9,cap,cur,e1,_⟩
 ·omega
 exact⟨some ⟨g9,0,none⟩,cap,by rw[e,e1],hA,(Aq _ _).grown hg h.bs (fun k hk=>(h.tags.lt k hk).1)⟩
theorem Qa2{w:World}{base n:Nat}{e:TypeId}{v:Value}{xs:List Value}(h:w.ownsRow base e 1 v n xs)(hx:xs.length=n)(hl:n<=1000):∃A c,v=.slice A n c/\B9 w A n xs/\∀g o,0<n->A=some ⟨g,o,none⟩->base<=g:=by
 have h':=h
 rcases h.2 with⟨rfl,h0⟩|⟨g,cap,cur,rfl,hbg,hh,hnc,hcm,hcs,htk⟩
 ·subst h0
  exact⟨none,0,rfl,⟨hx,Nat.zero_le _,fun hn=>absurd hn (by decide)⟩,fun g o hn _=>absurd hn (by decide)⟩
 refine⟨some ⟨g,0,none⟩,cap,rfl,⟨hx,by unfold maxLen;omega,fun hn=>⟨g,0,rfl,(h'.lt g rfl).2,fun j u hu=>?_⟩⟩,fun g' o _ e=>by injection e with e;injection e with e;subst e;exact hbg⟩
 have:=h'.cells (g:=g) rfl j u hu
 have e1:(⟨g,0,none⟩:Addr).add j=⟨g,0+j,none⟩:=by unfold Addr.add;split<;>simp_all
 rwa [e1]at this
theorem Jr.done{base B:Nat}{W:World}{kind text:List UInt8}{tv kv:Value}{gs:List Nat}{xs:List (Nat × SV)}(h:Jr base B W (.string ⟨kind.toArray⟩) (.string ⟨text.toArray⟩) tv tv kv kv gs xs)(hg:gs.length<=1000)(hx:xs.length<=1000):Fl (fun c=>B<=c) W B (.mk kind text gs (xs.map (·.2))):=by
 obtain⟨A1,c1,rfl,r1,p1⟩:=Qa2 h.tags (by simp[Ec]) hg
 obtain⟨A2,c2,rfl,r2,p2⟩:=Qa2 h.row (by simp[Do]) hx
 have hB:=h.hB
 exact .mk kind text gs A1 A2 c1 c2 xs rfl h.lt (Ap _) h.c0 h.c1 h.c2 h.c3 r1 r2 hg hx (fun g o hn e=>by have:=p1 g o hn e;omega) (fun g o hn e=>by have:=p2 g o hn e;omega) fun x hx=>(h.kids x hx).mono fun c hc _=>by have:=hc.1;omega
theorem Jr.new{W:World}{T:TypeId}(h0 h1:Value):Jr (W.heap.size+1) W.heap.size (W.alloc (.cells #[h0,h1,.slice none 0 0,.slice none 0 0] T)) h0 h1 (.slice none 0 0) (.slice none 0 0) (.slice none 0 0) (.slice none 0 0) [] []:=
 ⟨by simp,by simp,by omega,Pf.new _ _ _,by simp[go_sem],by simp[go_sem],by simp[go_sem],by simp[go_sem],World.ownsRow_nil _ _ _ _,World.ownsRow_nil _ _ _ _,by simp⟩
end Go.Proofs.YtkgkoicedddkmaaGreatDoor
