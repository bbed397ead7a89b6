/- Texts joined. Conditions: as each theorem names them. -/
import Derived.Deep.RegionWith
import Derived.OwnWalk
import Derived.Test.YtmmhmlmfhpfgbaaGreatDoorB17
set_option maxRecDepth 100000
set_option maxHeartbeats 32000000
set_option linter.unusedVariables false
set_option linter.unusedSimpArgs false
namespace Go.Proofs.YtmmhmlmfhpfgbaaGreatDoor
open Go.RowKit Go.Proofs.Tryz
section
attribute [local go_sem] Qra Qpu Qo3 Qmi ByteArray.mk_append_mk
def Qor(o:Option (List UInt8))(w:World)(e:Ending)(w':World):Prop:=e=.returned (.tuple #[.string ⟨(o.getD []).toArray⟩,.bool o.isSome])/\Below w w w'
theorem Nd.cases{s d x:List UInt8}{w w1:World}{e:Ending}(h:Nd s d x w e w1):Below w w w1/\((Tf (Bq s d) x=none/\∃(v:Value) (q:Option Addr),e=.returned (.tuple #[v,.pointer q,.bool false])) \/
  ∃S k v xv xs b,Bq s d=some (S,k)/\Tf (Bq s d) x=some v/\e=.returned (.tuple #[xv,.pointer (some ⟨b,0,none⟩),.bool true])/\Af xs=S/\Gj w1 xv xs/\En (fun c=>w.heap.size<=c) w1 b (Bt S k v)):=by
 obtain⟨hb1,hm⟩:=h;refine⟨hb1,?_⟩;cases hb:Bq s d with
 |none=>
  rw[hb]at hm;obtain⟨v,q,he⟩:=hm;exact .inl ⟨rfl,v,q,he⟩
 |some y=>
  rw[hb]at hm;simp only at hm;cases hv:Jv y.1 y.2 x with
  |none=>
   rw[hv]at hm;obtain⟨v,q,he⟩:=hm;exact .inl ⟨hv,v,q,he⟩
  |some v=>
   rw[hv]at hm;obtain⟨xv,xs,b,he,h1,h2,hat⟩:=hm;exact .inr ⟨y.1,y.2,v,xv,xs,b,rfl,hv,he,h1,h2,hat⟩
end
structure Vc(W1:World)(vk vt x3 x5:Value)(l3 l5 l6 l7 l10:Bool)(u3 u5 u6 u7 u10:Value)(W:World):Prop where
 be:Below W1.heap.size W1 W
 s3:l3=true->∃B,u3=.slice (some ⟨B,0,none⟩) 1 1/\W1.heap.size<=B/\B<W.heap.size/\W.cell? ⟨B,0,none⟩=some x3
 s5:l5=true->∃B,u5=.slice (some ⟨B,0,none⟩) 1 1/\W1.heap.size<=B/\B<W.heap.size/\W.cell? ⟨B,0,none⟩=some x5
 s6:l6=true->u6=.agg #[vk,vt,u3,u5]/\l3=true/\l5=true
 s7:l7=true->l6=true/\∃B,u7=.pointer (some ⟨B,0,none⟩)/\W1.heap.size<=B/\B<W.heap.size/\W.cell? ⟨B,0,none⟩=some vk/\W.cell? ⟨B,1,none⟩=some vt/\W.cell? ⟨B,2,none⟩=some u3/\W.cell? ⟨B,3,none⟩=some u5
 s10:l10=true->u10=u7/\l7=true
section
variable {W1 W W':World} {vk vt x3 x5 u3 u5 u6 u7 u10:Value} {l3 l5 l6 l7 l10:Bool}
theorem Vc.after(h:Vc W1 vk vt x3 x5 l3 l5 l6 l7 l10 u3 u5 u6 u7 u10 W)(hb:Below W.heap.size W W'):Vc W1 vk vt x3 x5 l3 l5 l6 l7 l10 u3 u5 u6 u7 u10 W':=by
 have hc:∀b o,b<W.heap.size->W'.cell? ⟨b,o,none⟩=W.cell? ⟨b,o,none⟩:=fun b o hb'=>hb.cell (p:=⟨b,o,none⟩) hb'
 refine⟨h.be.trans (hb.mono h.be.size),fun e=>?_,fun e=>?_,h.s6,fun e=>?_,h.s10⟩
 ·obtain⟨B,e1,e2,e3,e4⟩:=h.s3 e;exact⟨B,e1,e2,Nat.lt_of_lt_of_le e3 hb.size,(hc _ _ e3).trans e4⟩
 ·obtain⟨B,e1,e2,e3,e4⟩:=h.s5 e;exact⟨B,e1,e2,Nat.lt_of_lt_of_le e3 hb.size,(hc _ _ e3).trans e4⟩
 obtain⟨e0,B,e1,e2,e3,e4,e5,e6,e7⟩:=h.s7 e;exact⟨e0,B,e1,e2,Nat.lt_of_lt_of_le e3 hb.size,(hc _ _ e3).trans e4,(hc _ _ e3).trans e5,(hc _ _ e3).trans e6,(hc _ _ e3).trans e7⟩
theorem Vc.start:Vc W1 vk vt x3 x5 false false false false false u3 u5 u6 u7 u10 W1.drew:=
 ⟨(Aq _ _).drew,fun h=>Bool.noConfusion h,fun h=>Bool.noConfusion h,fun h=>Bool.noConfusion h,fun h=>Bool.noConfusion h,fun h=>Bool.noConfusion h⟩
theorem Vc.no3(h:Vc W1 vk vt x3 x5 l3 l5 l6 l7 l10 u3 u5 u6 u7 u10 W)(e:l3=false\/l5=false\/l6=false):l6=false/\l7=false:=by
 have h6:l6=false:=by
  cases l6 with
  |false=>rfl
  |true=>
   obtain⟨_,a,b⟩:=h.s6 rfl
   subst a b
   rcases e with e|e|e<;>cases e
 refine⟨h6,?_⟩
 cases l7 with
 |false=>rfl
 |true=>exact absurd (h6.symm.trans (h.s7 rfl).1) (by decide)
theorem Vc.put3(h:Vc W1 vk vt x3 x5 false l5 l6 l7 l10 u3 u5 u6 u7 u10 W)(T:TypeId):Vc W1 vk vt x3 x5 true l5 l6 l7 l10 (.slice (some ⟨W.heap.size,0,none⟩) 1 1) u5 u6 u7 u10 (W.alloc (.cells #[x3] T)):=by
 obtain⟨h6,h7⟩:=h.no3 (.inl rfl)
 subst h6 h7
 have ha:=h.after ((Aq _ _).alloc (Al _) (.cells #[x3] T))
 exact⟨ha.be,fun _=>⟨_,rfl,h.be.size,by simp,by simp[go_sem]⟩,ha.s5,fun h=>Bool.noConfusion h,fun h=>Bool.noConfusion h,fun e=>absurd (ha.s10 e).2 (by decide)⟩
theorem Vc.put5(h:Vc W1 vk vt x3 x5 l3 false l6 l7 l10 u3 u5 u6 u7 u10 W)(T:TypeId):Vc W1 vk vt x3 x5 l3 true l6 l7 l10 u3 (.slice (some ⟨W.heap.size,0,none⟩) 1 1) u6 u7 u10 (W.alloc (.cells #[x5] T)):=by
 obtain⟨h6,h7⟩:=h.no3 (.inr (.inl rfl))
 subst h6 h7
 have ha:=h.after ((Aq _ _).alloc (Al _) (.cells #[x5] T))
 exact⟨ha.be,ha.s3,fun _=>⟨_,rfl,h.be.size,by simp,by simp[go_sem]⟩,fun h=>Bool.noConfusion h,fun h=>Bool.noConfusion h,fun e=>absurd (ha.s10 e).2 (by decide)⟩
theorem Vc.put6(h:Vc W1 vk vt x3 x5 l3 l5 false l7 l10 u3 u5 u6 u7 u10 W)(h3:l3=true)(h5:l5=true){v:Value}(hv:Value.agg #[vk,vt,u3,u5]=v):Vc W1 vk vt x3 x5 l3 l5 true l7 l10 u3 u5 v u7 u10 W:=by
 subst hv
 obtain⟨_,h7⟩:=h.no3 (.inr (.inr rfl))
 subst h7
 exact⟨h.be,h.s3,h.s5,fun _=>⟨rfl,h3,h5⟩,fun h=>Bool.noConfusion h,h.s10⟩
theorem Vc.put7(h:Vc W1 vk vt x3 x5 l3 l5 l6 false l10 u3 u5 u6 u7 u10 W)(h6:l6=true)(T:TypeId){o:Obj}(ho:Obj.cells #[vk,vt,u3,u5] T=o):Vc W1 vk vt x3 x5 l3 l5 l6 true l10 u3 u5 u6 (.pointer (some ⟨W.heap.size,0,none⟩)) u10 (W.alloc o):=by
 subst ho
 have ha:=h.after ((Aq _ _).alloc (Al _) (.cells #[vk,vt,u3,u5] T))
 exact⟨ha.be,ha.s3,ha.s5,ha.s6,fun _=>⟨h6,_,rfl,h.be.size,by simp,by simp[go_sem],by simp[go_sem],by simp[go_sem],by simp[go_sem]⟩,fun e=>absurd (ha.s10 e).2 (by decide)⟩
theorem Vc.put10(h:Vc W1 vk vt x3 x5 l3 l5 l6 l7 l10 u3 u5 u6 u7 u10 W)(h7:l7=true):Vc W1 vk vt x3 x5 l3 l5 l6 l7 true u3 u5 u6 u7 u7 W:=⟨h.be,h.s3,h.s5,h.s6,h.s7,fun _=>⟨rfl,h7⟩⟩
theorem Vc.at_{kind text:List UInt8}{g b:Nat}{sv:SV}{P:Nat->Prop}(h:Vc W1 (.string ⟨kind.toArray⟩) (.string ⟨text.toArray⟩) (.int .i64 (g:Int)) (.pointer (some ⟨b,0,none⟩)) l3 l5 l6 l7 l10 u3 u5 u6 u7 u10 W)(h10:l10=true)(hP:∀c,W1.heap.size<=c->P c)(hs:En P W1 b sv):
  ∃B,u10=.pointer (some ⟨B,0,none⟩)/\En P W B (.mk kind text [g] [sv]):=by
 obtain⟨e10,h7⟩:=h.s10 h10
 obtain⟨h6,B,e1,e2,e3,e4,e5,e6,e7⟩:=h.s7 h7
 obtain⟨_,h3,h5⟩:=h.s6 h6
 obtain⟨B3,f1,f2,f3,f4⟩:=h.s3 h3
 obtain⟨B5,g1,g2,g3,g4⟩:=h.s5 h5
 refine⟨B,e10.trans e1,?_⟩
 rw[f1]at e6
 rw[g1]at e7
 refine .mk kind text [g] (some ⟨B3,0,none⟩) (some ⟨B5,0,none⟩) 1 1 [(b,sv)] rfl e3 (hP _ e2) e4 e5 e6 e7 ⟨by simp[Dm],by simp[maxLen],fun _=>⟨B3,0,rfl,f3,fun j u hu=>?_⟩⟩ ⟨by simp[Dr],by simp[maxLen],fun _=>⟨B5,0,rfl,g3,fun j u hu=>?_⟩⟩ (by simp) (by simp) (fun g o _ e=>?_) (fun g o _ e=>?_) (fun x hx=>?_)
 ·match j,hu with
  |0,hu=>simp[Dm]at hu;subst hu;simpa using f4
  |j+1,hu=>simp[Dm]at hu
 ·match j,hu with
  |0,hu=>simp[Dr]at hu;subst hu;simpa using g4
  |j+1,hu=>simp[Dr]at hu
 ·injection e with e;injection e with e;subst e;exact hP _ f2
 ·injection e with e;injection e with e;subst e;exact hP _ g2
 simp at hx;subst hx;exact hs.after h.be
end
def RU(w1:World)(kb:List UInt8)(g b:Nat)(l:Nat->Bool)(u:Nat->Value)(W:World):Prop:=Vc w1 (.string ⟨kb.toArray⟩) (.string ⟨#[85]⟩) (.int .i64 (g:Int)) (.pointer (some ⟨b,0,none⟩)) (l 3) (l 5) (l 6) (l 7) (l 10) (u 3) (u 5) (u 6) (u 7) (u 10) W
theorem RU.to{w1 W:World}{kb:List UInt8}{g b:Nat}{l:Nat->Bool}{u:Nat->Value}(h:RU w1 kb g b l u W):Vc w1 (.string ⟨kb.toArray⟩) (.string ⟨#[85]⟩) (.int .i64 (g:Int)) (.pointer (some ⟨b,0,none⟩)) (l 3) (l 5) (l 6) (l 7) (l 10) (u 3) (u 5) (u 6) (u 7) (u 10) W:=h
section
variable {P:Program} {ops:Array Oper} {Q:Exit->Act->World->Prop} {a:Act} {mk:(Nat->Value)->Act} {G:World->Prop} {w1:World} {kb:List UInt8} {g b:Nat}
theorem rgU{id:Nat}(kb:List UInt8)(g b:Nat){w:World}(h:Sq P ops Q a mk (RU w kb g b) (Gz w) ops.toList 0 [])
  (hc:(P.follows .mixedOrders && (List.range ops.size).all (fun i=>((ops[i]?).map fun o=>o.after.all fun e=>!Region.binds .any e || decide (e.on<i)).getD true) && Fp a.tmps.size ops.toList (C7 ops.toList))=true:=by kernel_rfl)
  (hmk:∀u,Bl a (C7 ops.toList) u=mk u:=by intro u;dsimp only[Bl,C7,Bk,List.set,Nat.zero_add,Nat.reduceAdd,List.length_cons,List.length_nil]):(Code.region id ops true).wp P Q a w:=
 rgF (RU w kb g b) (Gz w) (fun _ _ _ h=>Sa h.be) Vc.start h hc hmk
variable {o:Oper} {os:List Oper} {i:Nat} {ps:List (Value->Prop)}
theorem Qq4(k:Sq P ops Q a mk (RU w1 kb g b) G os (i+1) (ps++[fun _=>True]))(h:St P ops Q a mk (RU w1 kb g b) G i o ps (fun _=>True):=by
  intro l u W' hl hp hF hG hi K9 hK
  have h:=RU.to hF.o
  rw[hl]at h
  have hn:=Aa (fun T=>h.put3 T)
  simp[Region.binds,Co]at hp
  clear hG hi hF h
  go_simp
  exact hK _ _ _ True.intro (hn.o _) (by simp[Act.put,hp])):Sq P ops Q a mk (RU w1 kb g b) G (o::os) i ps:=⟨_,h,k⟩
theorem Qqz(k:Sq P ops Q a mk (RU w1 kb g b) G os (i+1) (ps++[fun _=>True]))(h:St P ops Q a mk (RU w1 kb g b) G i o ps (fun _=>True):=by
  intro l u W' hl hp hF hG hi K9 hK
  have h:=RU.to hF.o
  rw[hl]at h
  have hn:=Aa (fun T=>h.put5 T)
  simp[Region.binds,Co]at hp
  clear hG hi hF h
  go_simp
  exact hK _ _ _ True.intro (hn.o _) (by simp[Act.put,hp])):Sq P ops Q a mk (RU w1 kb g b) G (o::os) i ps:=⟨_,h,k⟩
theorem Qq1(k:Sq P ops Q a mk (RU w1 kb g b) G os (i+1) (ps++[fun _=>True]))(h:St P ops Q a mk (RU w1 kb g b) G i o ps (fun _=>True):=by
  intro l u W' hl hp hF hG hi K9 hK
  have h:=RU.to hF.o
  rw[hl]at h
  simp[Region.binds,Co]at hp
  obtain⟨B3,e3,_⟩:=h.s3 (by simp[hp])
  obtain⟨B5,e5,_⟩:=h.s5 (by simp[hp])
  have hn:=h.put6 (by simp[hp]) (by simp[hp]) (by rw[e3,e5])
  have hn:=Aa hn
  clear hG hi hF h
  go_simp
  exact hK _ _ _ True.intro hn.o (by simp[Act.put,hp,e3,e5])):Sq P ops Q a mk (RU w1 kb g b) G (o::os) i ps:=⟨_,h,k⟩
theorem Qrd(k:Sq P ops Q a mk (RU w1 kb g b) G os (i+1) (ps++[fun _=>True]))(h:St P ops Q a mk (RU w1 kb g b) G i o ps (fun _=>True):=by
  intro l u W' hl hp hF hG hi K9 hK
  have h:=RU.to hF.o
  rw[hl]at h
  simp[Region.binds,Co]at hp
  obtain⟨e6,h3,h5⟩:=h.s6 (by simp[hp])
  obtain⟨B3,e3,_⟩:=h.s3 h3
  obtain⟨B5,e5,_⟩:=h.s5 h5
  rw[e3,e5]at e6
  have hn:=Aa (fun T=>h.put7 (by simp[hp]) T (by rw[e3,e5]))
  clear hG hi hF h
  go_simp
  exact hK _ _ _ True.intro (hn.o _) (by simp[Act.put,hp,e6,e3,e5])):Sq P ops Q a mk (RU w1 kb g b) G (o::os) i ps:=⟨_,h,k⟩
theorem Qqm(k:Sq P ops Q a mk (RU w1 kb g b) G os (i+1) (ps++[fun _=>True]))(h:St P ops Q a mk (RU w1 kb g b) G i o ps (fun _=>True):=by
  intro l u W' hl hp hF hG hi K9 hK
  have h:=RU.to hF.o
  simp[Region.binds,Co]at hp
  have hn:=Aa (h.put10 (by simp[hp]))
  clear hG hi hF h
  go_simp
  exact hK _ _ _ True.intro hn.o (by simp[Act.put,hp])):Sq P ops Q a mk (RU w1 kb g b) G (o::os) i ps:=⟨_,h,k⟩
end
theorem Qp2(n:Nat)(h:n<256):Value.int .u8 (n:Int)=.int .u8 ((Bx n).toNat:Int):=by rw[Bo h]
theorem Qgu(n:Nat)(w:World)(hn:n<=999999):
  Calls prog 124 #[.int .i64 n] w fun e w'=>e=.returned (.tuple #[.string ⟨(D1 n).toArray⟩,.bool true])/\Below w w w':=by
 have hconv:=fun W v l (h:World.ownsRow W w 5 1 v l.length (Cf l))=>Qek (P:=prog) W 22 5 9 underlying22 underlying5 underlying9 w.heap.size v l l.length rfl h;have Hconv:=Aa hconv;clear hconv;go_enter func124,ntmps124;go_wp2
 go_loopw [0,4] (fun x v wr=>∃(m:Nat) (l:List UInt8),x=.int .i64 m/\m<=999999/\Hid (l++D1 m=D1 n)/\l.length<=2/\wr.ownsRow w 5 1 v l.length (Cf l)/\Below w w wr) (fun x _ _=>(intOf x).toNat)
 case atStart=>exact⟨n,[],rfl,hn,rfl,by simp,World.ownsRow_nil _ _ _ _,Aq _ _⟩
 case round=>
  obtain⟨m,l,rfl,hm,hl,hl2,hown,hb⟩:=hrel;have hsz:=hb.size;by_cases hlt:128<=m
  ·go_wp2_with (at_builtin;go_loud (refine Kk _ rfl _ _ 22 rfl w 5 (.int .u8 0) 1 underlying22 Tryz.infoU8 rfl wr _ rfl rfl _ _ _ rfl rfl hown bc aI hsz ?_);intro v' w' hown' hb';have Ho:=Aa hown';clear hown')
   go_roundw
   case rel=>
    have e1:((m:Int) % 128+128)=((Bx (m % 128+128)).toNat:Int):=by rw[Bo aI];omega
    refine⟨m / 128,l++[Bx (m % 128+128)],by go_num,by omega,?_,?_,?_,hb.trans hb'⟩
    ·have:=hl.o;rw[Vx hlt aI]at this;show (l++[Bx (m % 128+128)])++D1 (m / 128)=D1 n;rw[<-this];simp
    ·have h1:=hl.o;have h2:=congrArg List.length h1;rw[Vx hlt aI]at h2;have:=Cz n;have:=Yb (m / 128);simp at h2 ⊢;omega
    ·have:=Ho.o;rw[e1]at this;rw[Xd,ah];exact this
   case measure=>simp[intOf];omega
  ·have e1:Value.int .u8 (m:Int)=.int .u8 ((Bx m).toNat:Int):=Qp2 m aI;have E1:=Aa e1;clear e1;have hfin:l++[Bx m]=D1 n:=by have:=hl.o;rw[Qam aI]at this;exact this
   have Hfin:=Aa hfin;clear hfin;go_wp2_with (at_builtin;refine Kk _ rfl _ _ 22 rfl w 5 (.int .u8 0) 1 underlying22 Tryz.infoU8 rfl wr _ rfl rfl _ _ _ rfl rfl hown bc aI hsz ?_;intro v' w' hown' hb';rw[E1.o,<-Xd]at hown';have hcv:=Qek (P:=prog) w' 22 5 9 underlying22 underlying5 underlying9 w.heap.size v' (l++[Bx m]) (l.length+1) aK hown';clear hown')
   go_ret2;exact⟨by rw[Hfin.o];rfl,hb.trans hb'⟩
theorem Kn(n:Nat)(w:World)(hn:n<=999999):
  Calls prog 64 #[.int .i64 n] w fun e w'=>e=.returned (.string ⟨(D1 n).toArray⟩)/\Below w w w':=by
 go_enter func64,ntmps64;go_wp2_with (go_at_call 124;refine(Qgu n _ hn).mono ?_;rintro e w' ⟨rfl,hb⟩)
 go_ret;exact⟨rfl,hb⟩
theorem Qb3(l:List UInt8)(w:World)(hn:l.length<=999999):
  Calls prog 187 #[l] w fun e w'=>e=.returned (.string ⟨(D1 l.length++l).toArray⟩)/\Below w w w':=by
 have h3:=Cz l.length;go_enter func187,ntmps187;go_wp2_with (go_at_call 64;refine(Kn l.length _ hn).mono ?_;rintro e w' ⟨rfl,hb⟩)
 go_ret;exact⟨rfl,hb⟩
theorem Qjc(n:Nat)(w:World)(hn:n<128):
  Calls prog 67 #[.int .i64 n] w fun e w'=>e=.returned (.string ⟨(D1 n).toArray⟩)/\Below w w w':=by
 have Hfin:=Aa (Qam hn);have hcv:=fun W=>Jh W w 1 (Bx n);rw[Bo aI]at hcv;go_enter func67,ntmps67;go_wp2_with fail;exact iC
theorem Qg6(k:Nat)(hk:k<2097152)(ih:∀(n:Nat) (w:World),n<k->Calls prog 67 #[.int .i64 n] w fun e w'=>e=.returned (.string ⟨(D1 n).toArray⟩)/\Below w w w')(w:World)(hn:128<=k):
  Calls prog 67 #[.int .i64 k] w fun e w'=>e=.returned (.string ⟨(D1 k).toArray⟩)/\Below w w w':=by
 have h3:=Cz (k / 128);have ih':=Aa (ih (k / 128) · aI);have Hfin:=Aa (Vx hn hk);clear ih;have hcv:=fun W g=>Jh W g 1 (Bx (k % 128+128));have h1:IntKind.u8.wrap (IntKind.i64.wrap (128+(k:Int).tmod 128))=((Bx (k % 128+128)).toNat:Int):=by
  exact iD
 have h2:IntKind.i64.wrap ((k:Int) / 128)=((k / 128:Nat):Int):=fO;go_enter func67,ntmps67;go_wp2_with fail;go_region_with (go_at_call 67;refine(ih'.out _).mono ?_;rintro e w' ⟨rfl,hb⟩;obtain⟨hc,hf,hz⟩:=Ci hb)
 all_goals
  go_wp2
  go_ret;refine⟨by rw[Hfin.o];rfl,?_⟩;have hsz:=hb.size;repeat (first|exact Aq _ _|refine Below.drew ?_|refine Below.alloc ?_ (by simp at hsz ⊢;first|omega|done) _|refine Below.trans ?_ (hb.mono aK))
theorem Qp(n:Nat)(w:World)(hn:n<2097152):
  Calls prog 67 #[.int .i64 n] w fun e w'=>e=.returned (.string ⟨(D1 n).toArray⟩)/\Below w w w':=by
 have key:∀k,k<=2097152->∀(n:Nat) (w:World),n<k->Calls prog 67 #[.int .i64 n] w fun e w'=>e=.returned (.string ⟨(D1 n).toArray⟩)/\Below w w w':=by
  intro k;induction k with
  |zero=>intro _ n w h;omega
  |succ k ih=>
   intro hk n w h;by_cases h1:n<128
   ·exact Qjc n w h1
   by_cases h2:n<k
   ·exact ih aI n w h2
   obtain rfl:n=k:=aI;exact Qg6 n aI (ih aI) w aI
 exact key 2097152 (Al _) n w hn
section
attribute [local go_sem] Qra Qpu Qo3 Qmi ByteArray.mk_append_mk
abbrev Ver:=List UInt8 × List UInt8
def Qn4(v:Ver):List Value:=[v.1,v.2]
theorem Qac(v:Ver):(Qn4 v).length=2:=rfl
def S1(w:World)(A:Option Addr)(xs:List Value):Prop:=0<xs.length->∃b off,A=some ⟨b,off,none⟩/\b<w.heap.size/\∀j u,xs[j]?=some u->w.cell? ⟨b,off+j,none⟩=some u
theorem S1.below{w w':World}{A:Option Addr}{xs:List Value}(h:S1 w A xs)(hb:Below w w w'):S1 w' A xs:=fun hn=>by
 obtain⟨b,off,e,hlt,hc⟩:=h hn;exact il
def Qkb(w:World)(v:Value)(vs:List Ver):Prop:=∃A c,v=.slice A vs.length c/\vs.length<=c/\vs.length<=maxLen/\S1 w A (vs.flatMap Qn4)
theorem Qkb.below{w w':World}{v:Value}{vs:List Ver}(h:Qkb w v vs)(hb:Below w w w'):Qkb w' v vs:=by
 obtain⟨A,c,e,hc,hm,hr⟩:=h;exact⟨A,c,e,hc,hm,hr.below hb⟩
theorem Qkb.at_{w:World}{A:Option Addr}{vs:List Ver}(hr:S1 w A (vs.flatMap Qn4)){i:Nat}(hi:i<vs.length):
  ∃b off,A=some ⟨b,off,none⟩/\b<w.heap.size/\w.cell? ⟨b,off+i*2,none⟩=some (.string ⟨vs[i].1.toArray⟩)/\w.cell? ⟨b,off+i*2+1,none⟩=some (.string ⟨vs[i].2.toArray⟩):=by
 obtain⟨b,off,e,hlt,hc⟩:=hr (by rw[Mx Qac];omega);refine⟨b,off,e,hlt,?_,?_⟩
 ·have:=hc (i*2+0) (.string ⟨vs[i].1.toArray⟩) (by rw[M5 Qac vs i 0 hi aL];rfl);simpa using this
 have:=hc (i*2+1) (.string ⟨vs[i].2.toArray⟩) (by rw[M5 Qac vs i 1 hi aL];rfl);simpa [Nat.add_assoc]using this
def Qlz(lo:Nat)(w:World)(v:Value)(vs:List Ver):Prop:=∃g,v=.slice (some ⟨g,0,none⟩) vs.length vs.length/\lo<=g/\g<w.heap.size/\w.rangeAt g 0 (vs.flatMap Qn4)
theorem Qlz.row{lo:Nat}{w:World}{v:Value}{vs:List Ver}(h:Qlz lo w v vs)(hn:vs.length<=1048576):Qkb w v vs:=by
 obtain⟨g,e,_,hg,hr⟩:=h;exact⟨_,_,e,Al _,by unfold maxLen;omega,fun _=>⟨g,0,rfl,hg,hr⟩⟩
theorem Qlz.set{lo:Nat}{w:World}{v:Value}{vs:List Ver}(h:Qlz lo w v vs){b:Nat}(hb:b<lo)(u:Value):Qlz lo (w.setCell ⟨b,0,none⟩ u) v vs:=by
 obtain⟨g,e,h1,hg,hr⟩:=h;exact⟨g,e,h1,by simpa using hg,ak hr b 0 [u] (.inl aI)⟩
end
end Go.Proofs.YtmmhmlmfhpfgbaaGreatDoor
