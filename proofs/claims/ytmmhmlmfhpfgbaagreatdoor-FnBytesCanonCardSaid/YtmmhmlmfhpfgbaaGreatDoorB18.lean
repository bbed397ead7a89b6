/- Texts joined. Conditions: as each theorem names them. -/
import Derived.Test.YtmmhmlmfhpfgbaaGreatDoorB15
set_option maxRecDepth 100000
set_option maxHeartbeats 32000000
set_option linter.unusedVariables false
set_option linter.unusedSimpArgs false
namespace Go.Proofs.YtmmhmlmfhpfgbaaGreatDoor
open Go.RowKit Go.Proofs.Tryz
section
attribute [local go_sem] Qra Qpu Qo3 Qmi ByteArray.mk_append_mk
structure Gw(vo vo':Value)(w w':World):Prop where
 gr:w.grownBy w' vo.ownBlock
 own:vo'.ownBlock=vo.ownBlock\/∃k,vo'.ownBlock=some k/\w.heap.size<=k
theorem Gw.refl(vo:Value)(w:World):Gw vo vo w w:=⟨World.grownBy.refl _ _,.inl rfl⟩
theorem Gw.trans{v1 v2 v3:Value}{a b c:World}(h:Gw v1 v2 a b)(k:Gw v2 v3 b c):Gw v1 v3 a c:=by
 refine⟨⟨k.gr.os.trans h.gr.os,k.gr.tape.trans h.gr.tape,k.gr.output.trans h.gr.output,ad h.gr.size k.gr.size,fun x hx hne=>(k.gr.block x (ac hx h.gr.size) ?_).trans (h.gr.block x hx hne)⟩,?_⟩
 ·rcases h.own with e|⟨y,e,hy⟩
  ·rw[e];exact hne
  rw[e];intro he;injection he with he;omega
 rcases k.own with e|⟨y,e,hy⟩
 ·rw[e];exact h.own
 exact .inr ⟨y,e,ad h.gr.size hy⟩
theorem Gw.of{v:Value}{a b:World}(hb:Below a a b):Gw v v a b:=⟨⟨hb.os,hb.tape,hb.output,hb.size,fun k hk _=>hb.block k hk⟩,.inl rfl⟩
def Tf(o:Option (List Ty × Kd))(x:List UInt8):Option Vl:=match o with
 |some y=>Jv y.1 y.2 x
 |none=>none
theorem Qbp{s d x:List UInt8}{v:Vl}(h:Tf (Bq s d) x=some v):∃S k,Bq s d=some (S,k)/\Kt S/\Cw k/\Bu S k/\Be k=d/\Ge S 12 k v/\Aw v=x/\x.length<=400:=by
 cases hb:Bq s d with
 |none=>rw[hb]at h;cases h
 |some y=>
  obtain⟨S,k⟩:=y;rw[hb]at h;obtain⟨g1,_,_,g4,g5,g6⟩:=Ec hb;obtain⟨h1,h2,h3⟩:=(Jg g1.1.1 g4).1 h;exact⟨S,k,rfl,g1,g4,g6,g5,h1,h2,h3⟩
end
def Zd(w0:World)(cs:List Value)(la ls:Bool)(ua:Value)(W:World):Prop:=
 Below w0 w0 W/\(ls=true->la=true)/\(la=true->∃b,ua=.pointer (some ⟨b,0,none⟩)/\w0.heap.size<=b/\b<W.heap.size/\W.there b 0 cs.length/\(ls=true->W.rangeAt b 0 cs))
section
variable {w0 W W':World} {cs:List Value} {la ls:Bool} {ua:Value}
theorem Zd.start{us:List Value}:Zd w0 us false false ua w0.drew:=⟨(Aq _ _).drew,by simp,by simp⟩
theorem Zd.below(h:Zd w0 cs la ls ua W)(hb:Below W W W'):Zd w0 cs la ls ua W':=by
 refine⟨h.1.trans (hb.mono h.1.size),h.2.1,fun hl=>?_⟩;obtain⟨b,e,h1,h2,h3,h4⟩:=h.2.2 hl;exact⟨b,e,h1,ac h2 hb.size,An h3 h2 hb,fun hs=>Ar (h4 hs) h2 hb⟩
theorem Zd.alloc(h:Zd w0 cs false ls ua W)(zs:List Value)(hz:zs.length=cs.length)(T:TypeId):Zd w0 cs true ls W.heap.size (W.alloc (.cells zs.toArray T)):=by
 have hs:ls=false:=by cases hq:ls with|false=>rfl|true=>exact absurd (h.2.1 hq) aL
 subst hs;exact⟨h.1.alloc h.1.size _,by simp,fun _=>⟨_,rfl,h.1.size,by simp,by rw[<-hz];exact Cu W zs T,by simp⟩⟩
theorem Zd.store(h:Zd w0 cs la ls ua W){b:Nat}(hl:la=true)(e:ua=b):Zd w0 cs la true ua (W.setCells b 0 cs):=by
 obtain⟨b',e',h1,h2,h3,_⟩:=h.2.2 hl;rw[e]at e';injection e' with e';injection e' with e';injection e' with e';subst e';exact⟨Ak _ h1 _ _ _ h.1,fun _=>hl,fun _=>⟨b,e,h1,by rw[Ch];exact h2,ai h3 _ _ _,fun _=>aa _ _ _ _ h3⟩⟩
end
section
variable {P:Program} {ops:Array Oper} {Q:Exit->Act->World->Prop} {a:Act} {mk:(Nat->Value)->Act} {R:(Nat->Bool)->(Nat->Value)->World->Prop} {G:World->Prop} {o:Oper} {os:List Oper} {i:Nat} {ps:List (Value->Prop)} {v:Value}
theorem sqB{C:World->Prop}{n:Nat}{w:World}(hB:∀l u W,R l u W->Below n w W)(hst:∀l u W W',R l u W->Below W W W'->R l u W')(X:∀W,Below n w W->C W)(k:Sq P ops Q a mk R G os (i+1) (ps++[fun x=>x=v]))
  (h:(∀l u W,R l u W->Below n w W)->(∀l u W W',R l u W->Below W W W'->R l u W')->(∀W,Below n w W->C W)->St P ops Q a mk R G i o ps (fun x=>x=v):=by
  intro hB hst X l u W hl hp hF hG hi K hK;have HX:=X W (hB _ _ _ hF.o);first|unfold Gz at hG|skip
  first|(simp[Region.binds,Co]at hp;done)|simp[Region.binds,Co]at hp|clear hp
  clear hB;have Hst:=Aa hst;clear hst X;go_simp;refine HX.mono ?_;rintro e w' ⟨rfl,hb⟩;exact hK _ _ _ rfl (Hst.o _ _ _ _ hF.o hb) (by first|rfl|(simp[Act.put,hp];done)|(simp[Act.put,hp];exact rfl))):Sq P ops Q a mk R G (o::os) i ps:=⟨_,h hB hst X,k⟩
end
end Go.Proofs.YtmmhmlmfhpfgbaaGreatDoor
