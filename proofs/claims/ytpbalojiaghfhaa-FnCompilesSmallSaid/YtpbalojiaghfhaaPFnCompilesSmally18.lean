import Derived.Test.YtpbalojiaghfhaaPFnCompilesSmally0
import Derived.Test.YtpbalojiaghfhaaPFnCompilesSmally2
namespace Go.Proofs.Ytpbalojiaghfhaa.PFnCompilesSmall
open Go.RowKit Go.Proofs.YtpbalojiaghfhaaW.PrintWords Go.Proofs.YtpbalojiaghfhaaW.PrintLast Go.Proofs.YtpbalojiaghfhaaW.PrintMore Go.Proofs.YtpbalojiaghfhaaW.Z
open Kd
attribute [local go_sem] isS max2_int min2_int max_two min_two max_three min_three max_four min_four
set_option linter.unusedVariables false
set_option linter.unusedSimpArgs false
def spec_l09In.l0:Nat→List Int→Int→Int→Option (Bool)
  | 0,_,_,_=>none
  | k+1,t,A,i=>if i<(t.length:Int)then(if 0≤i then(if(rd t i)=A then(some true)else(spec_l09In.l0 k t A (wrap64 (i+1))))else(none))else(some false)
def spec_l09In.f (k:Nat) (a:List Int) (b:Int):Option (Bool):=spec_l09In.l0 k a b 0
set_option maxHeartbeats 8000000 in
set_option maxRecDepth 100000 in
theorem spec_l09In.calls {k:Nat}{bp:Option Addr}{bq:Nat}{a:List Int}{b:Int}{r:Bool}{w:World}(h:spec_l09In.f k a b=some r)(br:Kd.C (Kd.int .i64) w bp a.length a)(bs:a.length≤bq) :
 Calls Try.prog 92 #[.slice bp a.length bq,.int .i64 b] w fun e w'=>e= .returned (.bool r)∧Drawn0 w w':=by
 have HR0:=aM br;have HC0:=aM bs;clear br bs;have H:(spec_l09In.l0 k a b 0)=some r:=h;clear h;have H':=aM H;clear H;go_enter Try.func92,Try.ntmps92;go_wp2
 go_loopg [5] k (fun kq I w'=> ∃ (c:Int),I= .int .i64 c∧Aside0 (spec_l09In.l0 kq a b c=some r)∧Aside0 (kq≤k)∧Drawn0 w w')
 case atStart=>exact⟨(0),rS,H',⟨Nat.le_refl _⟩,by repeat(first|exact Drawn0.refl _|apply Drawn0.step)⟩
 case round=>
  clear H';obtain⟨c,rfl,HA,HK1,⟨m1,rfl⟩⟩:=hrel
  cases gk with
  | zero=>exact absurd HA.out (by simp[spec_l09In.l0])
  | succ k1=>
   have H:=HA.out;clear HA;simp only[spec_l09In.l0]at H;by_cases D:c<(a.length:Int)
   ·rw[if_pos D]at H;have bQ:=decide_eq_true D;clear D;replace H:=gD H;obtain⟨c6,H⟩:=H;by_cases q:(rd a c)=b
    ·rw[if_pos q]at H;obtain⟨aC,bR⟩:=eT q;clear q;obtain rfl:=Option.some.inj H;have ac:0≤(c:Int):=dA;have ad:c<(a.length:Int):=dA;obtain⟨bS,aW,bT⟩:=at_int HR0.out c ac ad;cases aW;replace ac:=eq_true ac;replace ad:=eq_true ad;go_wp2;go_ret
     exact⟨by first|rfl|(simp;done)|(simp[*];done),by repeat(first|exact Drawn0.refl _|apply Drawn0.step)⟩
    ·rw[if_neg q]at H;obtain⟨aC,bR⟩:=eF q;have H':=aM H;clear H;have ac:0≤(c:Int):=dA;have ad:c<(a.length:Int):=dA;obtain⟨bS,aW,bT⟩:=at_int HR0.out c ac ad;cases aW;replace ac:=eq_true ac;replace ad:=eq_true ad;go_wp2;go_roundg k1
     case measure=>exact oK
     case rel=>exact⟨(wrap64 (c+1)),rS,H',⟨oK⟩,by repeat(first|exact Drawn0.refl _|apply Drawn0.step)⟩
   ·rw[if_neg D]at H;have bQ:=decide_eq_false D;clear D;obtain rfl:=Option.some.inj H;go_wp2;go_ret
    exact⟨by first|rfl|(simp;done)|(simp[*];done),by repeat(first|exact Drawn0.refl _|apply Drawn0.step)⟩
mutual
def spec_l10Put.l0:Nat→List Int→Int→List Int→Int→Option (List Int)
  | 0,_,_,_,_=>none
  | k+1,t,A,i,al=>if al<(t.length:Int)then(if 0≤al then(if(rd t al)<A then(if i.length<17592186044416 then(spec_l10Put.l0 k t A (i ++ [rd t al]) (wrap64 (al+1)))else(none))else(spec_l10Put.l0 k t A i (wrap64 (al+1))))else(none))else(if i.length<17592186044416 then(spec_l10Put.l1 k t A (i ++ [A]) 0)else(none))
def spec_l10Put.l1:Nat→List Int→Int→List Int→Int→Option (List Int)
  | 0,_,_,_,_=>none
  | k+1,t,A,i,am=>if am<(t.length:Int)then(if 0≤am then(if(rd t am)>A then(if i.length<17592186044416 then(spec_l10Put.l1 k t A (i ++ [rd t am]) (wrap64 (am+1)))else(none))else(spec_l10Put.l1 k t A i (wrap64 (am+1))))else(none))else(some i)
end
def spec_l10Put.f (k:Nat) (a:List Int) (b:Int):Option (List Int):=(spec_l09In.f k a b).bind fun aX=>(if aX=true then(some a)else(spec_l10Put.l0 k a b (([] :List Int)) 0))
theorem q18x0 {P:Prop} (h:P:=by repeat(first|(with_reducible first|exact HK.out|apply Kept.alloc|apply Kept.drewN|apply Kept.drew)|exact HK.out)):P:=h
set_option maxHeartbeats 8000000 in
set_option maxRecDepth 100000 in
theorem spec_l10Put.calls (k:Nat) (P0_:Nat→Prop) (u9000_:Value) (a:List Int) (b:Int) (r:List Int) (w0 w:World) (hB:Below w0.heap.size w0 w) (aD:Kd.R (Kd.int .i64) 3 w w0.heap.size P0_ u9000_ a) (h:spec_l10Put.f k a b=some r) :
 Calls Try.prog 53 #[u9000_,.int .i64 b] w fun e w'=> ∃ v0_:Value,e= .returned (v0_)∧Kd.R (Kd.int .i64) 3 w' w0.heap.size (fun k_=>(P0_ k_∨w.heap.size≤k_)) v0_ r∧Below w0.heap.size w0 w'∧Kept w w' (fun k_=>P0_ k_):=by
 have E:=aM (show Kd.R (Kd.int .i64) 3 w w0.heap.size (fun k_=>(P0_ k_∨w.heap.size≤k_)) u9000_ a from R_mono aD (fun k_ hk=>(.inl hk)))
 have HK:=aM (Kept.refl w (fun k_=>P0_ k_))
 have HW0:=aM hB.size;have HB:=aM hB;clear hB
 unfold spec_l10Put.f at h;have H:=h
 clear h;replace H:=bE H;obtain⟨aX,J,H⟩:=H;by_cases u:aX=true
 ·subst u;replace H:=iT H;obtain rfl:=Option.some.inj H;obtain⟨c7,c9,bU⟩:=R_slice E.out;subst bU;go_enter Try.func53,Try.ntmps53
  go_wp2_with (first|((with_reducible refine gF 92 ?_);refine gX (some 10) Try.func92 (spec_l09In.calls J.out (rX E) ((rY E))) ?_;rintro w' ⟨nd,rfl⟩))
  go_ret;exact⟨_,rE,mR E,cB,q18x0⟩
 ·replace u:=Bool.eq_false_iff.mpr u;subst u;replace H:=iF H;obtain⟨bV,aY⟩ : ∃ y_:List Int,Aside0 (y_=(([] :List Int))):=⟨_,⟨rfl⟩⟩;rw[← aY.out]at H;have H':=aM H;clear H;obtain⟨au,ae,bW⟩:=R_slice E.out;subst bW;go_enter Try.func53,Try.ntmps53
  go_wp2_with (first|((with_reducible refine gF 92 ?_);refine gX (some 10) Try.func92 (spec_l09In.calls J.out (rX E) ((rY E))) ?_;rintro w' ⟨nd,rfl⟩)|((with_reducible refine gN 12 ?_);refine R_lit (Kd.int .i64) _ 3 ?hg (N:=12) ?hd (xs:=([] :List Int)) (inner:=[]) (ok:=fun _=>True) (okp:=fun _=>True) ?hr ?hp (fun _ hk=>hk) trivial (Below.refl _ _) (Nat.le_refl _) (by simp) ?_;(case hd=>rfl);(case hg=>rfl);(case hr=>exact rG);(case hp=>exact(Reps.none _ _));intro da db an hb hg_ hnew_;clear hg_ hnew_;(first|rw[← aY.out]at an|(simp only[Int.reduceToNat]at an;rw[← aY.out]at an));have bX:=aM (R_lower (R_new' (R_newM (M:=fun k_=>(P0_ k_∨w.heap.size≤k_)) an (by first|exact HK.out.1|exact(show Kept w _ (fun k_=>P0_ k_)from q18x0).1) (fun k_ h_=> .inr h_)) (R_lt (mR E))) (below_size cB));replace E:=eB E (R_base an) hb;replace HK:=aM (Kept.below (S:=(fun k_=>P0_ k_)) q18x0 hb);replace HB:=sB hb;clear hb an))
  go_loopg [5,6] k (fun kq I bY w'=> ∃ (c:List Int) (m:Int),bY= .int .i64 m∧Aside0 (spec_l10Put.l0 kq a b c m=some r)∧Aside0 (kq≤k)∧Aside0 (Kd.R (Kd.int .i64) 3 w' w0.heap.size (fun k_=>(P0_ k_∨w.heap.size≤k_)∧some k_≠(I:Value).ownBlock) (.slice au a.length ae) a)∧Aside0 (Kd.R (Kd.int .i64) 3 w' w0.heap.size (fun k_=>(P0_ k_∨w.heap.size≤k_)∧some k_≠((.slice au a.length ae):Value).ownBlock) I c)∧Aside0 (Kept w w' (fun k_=>P0_ k_))∧Aside0 (Below w0.heap.size w0 w'))
  case atStart=>exact⟨(bV),(0),rS,H',⟨Nat.le_refl _⟩,⟨mR E⟩,⟨rM bX (fun _ hk=>⟨hk.1.1,hk.2⟩)⟩,⟨q18x0⟩,⟨cB⟩⟩
  case round=>
   clear H';(try clear u);obtain⟨c,m,rfl,HA,HK1,d,z,HK,HB⟩:=hrel
   cases gk with
   | zero=>exact absurd HA.out (by simp[spec_l10Put.l0])
   | succ k1=>
    have H:=HA.out;clear HA;simp only[spec_l10Put.l0]at H;by_cases y:m<(a.length:Int)
    ·rw[if_pos y]at H;have aE:=decide_eq_true y;clear y;replace H:=gD H;obtain⟨bu,H⟩:=H;by_cases af:(rd a m)<b
     ·rw[if_pos af]at H;have bv:=decide_eq_true af;clear af;replace H:=gC H;obtain⟨aZ,H⟩:=H;have bZ:=aM aZ;clear aZ;obtain⟨b0,bw⟩ : ∃ y_:List Int,Aside0 (y_=(c ++ [rd a m])):=⟨_,⟨rfl⟩⟩;rw[← bw.out]at H;have H':=aM H;clear H;have O:0≤(m:Int):=dA;have U:m<(a.length:Int):=dA;obtain⟨a0,a1,bx⟩:=at_int (R_reads' d.out).2.2 m O U;cases a1;replace O:=eq_true O;replace U:=eq_true U;have aG:0≤(m:Int):=dA;have aH:m<(a.length:Int):=dA;obtain⟨b1,b5,b8⟩:=at_int (R_reads' d.out).2.2 m aG aH
      obtain rfl:a0=b1:=(by injection b5)
      replace aG:=eq_true aG;replace aH:=eq_true aH
      go_wp2_with (first|((with_reducible refine gA 25 30 ?_);at_builtin;refine R_append (Kd.int .i64) (w0:=w0) w0.heap.size rfl (.tmp 25) (.tmp 30) 46 3 (.int .i64 0) 8 rfl Try.underlying46 info3 rfl (by decide) (by omega) u5 c (rd a m) [.int .i64 (rd a m)] (fun k_=>(P0_ k_∨w.heap.size≤k_)∧some k_≠(.slice (some a0) a.length ae:Value).ownBlock) (fun _=>False) rfl rfl ?aP (fun _ hk=>hk.elim) ?aF ?aO ?aB ?aS ?aL ?_;(case aP=>exact rfl);(case aB=>exact cB);(case aF=>exact(fun k_ hk=>⟨(.inr (Nat.le_trans (by first|exact HK.out.1|exact(show Kept w _ (fun k_=>P0_ k_)from q18x0).1) hk)),Kd.fresh' (R_lt (mR d)) k_ hk⟩));(case aO=>exact(mR z));(case aS=>exact(below_size cB));(case aL=>have:=bZ.out;omega);intro dc b9 ho hb hg hat;rw[← bw.out]at ho;replace d:=aM (R_after (ok:=(fun k_=>(P0_ k_∨w.heap.size≤k_))) (mR d) hg hat);replace HB:=aM hb;replace HK:=aM (Kept.of_grown (S:=(fun k_=>P0_ k_)) hg q18x0 (fun k_ e_=>(z.out.1 k_ e_).1));have ca:=aM ho;clear z ho hb hg hat))
      go_roundg k1
      case measure=>exact oK
      case rel=>exact⟨(b0),(wrap64 (m+1)),rS,H',⟨oK⟩,⟨mR d⟩,⟨mR ca⟩,⟨q18x0⟩,⟨cB⟩⟩
     ·rw[if_neg af]at H;have bv:=decide_eq_false af;clear af;have H':=aM H;clear H;have O:0≤(m:Int):=dA;have U:m<(a.length:Int):=dA;obtain⟨a0,a1,bx⟩:=at_int (R_reads' d.out).2.2 m O U;cases a1;replace O:=eq_true O;replace U:=eq_true U;go_wp2;go_roundg k1
      case measure=>exact oK
      case rel=>exact⟨(c),(wrap64 (m+1)),rS,H',⟨oK⟩,⟨mR d⟩,⟨mR z⟩,⟨q18x0⟩,⟨cB⟩⟩
    ·rw[if_neg y]at H;have aE:=decide_eq_false y;clear y;replace H:=gC H;obtain⟨a2,H⟩:=H;have cb:=aM a2;clear a2;obtain⟨cc,bz⟩ : ∃ y_:List Int,Aside0 (y_=(c ++ [b])):=⟨_,⟨rfl⟩⟩;rw[← bz.out]at H;have H':=aM H;clear H
     go_wp2_with (first|((with_reducible refine gA 32 34 ?_);at_builtin;refine R_append (Kd.int .i64) (w0:=w0) w0.heap.size rfl (.tmp 32) (.tmp 34) 46 3 (.int .i64 0) 8 rfl Try.underlying46 info3 rfl (by decide) (by omega) u5 c b [.int .i64 b] (fun k_=>(P0_ k_∨w.heap.size≤k_)∧some k_≠(.slice au a.length ae:Value).ownBlock) (fun _=>False) rfl rfl ?aP (fun _ hk=>hk.elim) ?aF ?aO ?aB ?aS ?aL ?_;(case aP=>exact rfl);(case aB=>exact cB);(case aF=>exact(fun k_ hk=>⟨(.inr (Nat.le_trans (by first|exact HK.out.1|exact(show Kept w _ (fun k_=>P0_ k_)from q18x0).1) hk)),Kd.fresh' (R_lt (mR d)) k_ hk⟩));(case aO=>exact(mR z));(case aS=>exact(below_size cB));(case aL=>have:=cb.out;omega);intro dd cd ho hb hg hat;rw[← bz.out]at ho;replace d:=aM (R_after (ok:=(fun k_=>(P0_ k_∨w.heap.size≤k_))) (mR d) hg hat);replace HB:=aM hb;replace HK:=aM (Kept.of_grown (S:=(fun k_=>P0_ k_)) hg q18x0 (fun k_ e_=>(z.out.1 k_ e_).1));have ce:=aM ho;clear z ho hb hg hat))
     go_loopg [5,7] k1 (fun kq I cf w'=> ∃ (v:List Int) (g:Int),cf= .int .i64 g∧Aside0 (spec_l10Put.l1 kq a b v g=some r)∧Aside0 (kq≤k1)∧Aside0 (Kd.R (Kd.int .i64) 3 w' w0.heap.size (fun k_=>(P0_ k_∨w.heap.size≤k_)∧some k_≠(I:Value).ownBlock) (.slice au a.length ae) a)∧Aside0 (Kd.R (Kd.int .i64) 3 w' w0.heap.size (fun k_=>(P0_ k_∨w.heap.size≤k_)∧some k_≠((.slice au a.length ae):Value).ownBlock) I v)∧Aside0 (Kept w w' (fun k_=>P0_ k_))∧Aside0 (Below w0.heap.size w0 w'))
     case atStart=>exact⟨(cc),(0),rS,H',⟨Nat.le_refl _⟩,⟨mR d⟩,⟨mR ce⟩,⟨q18x0⟩,⟨cB⟩⟩
     case round=>
      clear H';(try clear u);(try clear y);(try clear aE);(try clear de);(try clear bu);(try clear af);(try clear bv);(try clear aZ);(try clear a2);(try clear bx);(try clear b8);(try clear O);(try clear aG);(try clear U);(try clear aH);obtain⟨v,g,rfl,HA,HK2,d,z,HK,HB⟩:=hrel
      cases gk with
      | zero=>exact absurd HA.out (by simp[spec_l10Put.l1])
      | succ k2=>
       have H:=HA.out;clear HA;simp only[spec_l10Put.l1]at H;by_cases ao:g<(a.length:Int)
       ·rw[if_pos ao]at H;have cg:=decide_eq_true ao;clear ao;replace H:=gD H;obtain⟨df,H⟩:=H;by_cases ap:(rd a g)>b
        ·rw[if_pos ap]at H;have ch:decide (b<(rd a g))=true:=decide_eq_true ap;clear ap;replace H:=gC H;obtain⟨bA,H⟩:=H;have ci:=aM bA;clear bA;obtain⟨cj,bB⟩ : ∃ y_:List Int,Aside0 (y_=(v ++ [rd a g])):=⟨_,⟨rfl⟩⟩;rw[← bB.out]at H;have H':=aM H;clear H;have ag:0≤(g:Int):=dA;have ah:g<(a.length:Int):=dA;obtain⟨a3,a4,ck⟩:=at_int (R_reads' d.out).2.2 g ag ah;cases a4;replace ag:=eq_true ag;replace ah:=eq_true ah;have a5:0≤(g:Int):=dA;have a6:g<(a.length:Int):=dA;obtain⟨cl,cm,dg⟩:=at_int (R_reads' d.out).2.2 g a5 a6
         obtain rfl:a3=cl:=(by injection cm)
         replace a5:=eq_true a5;replace a6:=eq_true a6
         go_wp2_with (first|((with_reducible refine gA 48 53 ?_);at_builtin;refine R_append (Kd.int .i64) (w0:=w0) w0.heap.size rfl (.tmp 48) (.tmp 53) 46 3 (.int .i64 0) 8 rfl Try.underlying46 info3 rfl (by decide) (by omega) u5 v (rd a g) [.int .i64 (rd a g)] (fun k_=>(P0_ k_∨w.heap.size≤k_)∧some k_≠(.slice (some a3) a.length ae:Value).ownBlock) (fun _=>False) rfl rfl ?aP (fun _ hk=>hk.elim) ?aF ?aO ?aB ?aS ?aL ?_;(case aP=>exact rfl);(case aB=>exact cB);(case aF=>exact(fun k_ hk=>⟨(.inr (Nat.le_trans (by first|exact HK.out.1|exact(show Kept w _ (fun k_=>P0_ k_)from q18x0).1) hk)),Kd.fresh' (R_lt (mR d)) k_ hk⟩));(case aO=>exact(mR z));(case aS=>exact(below_size cB));(case aL=>have:=ci.out;omega);intro dh cn ho hb hg hat;rw[← bB.out]at ho;replace d:=aM (R_after (ok:=(fun k_=>(P0_ k_∨w.heap.size≤k_))) (mR d) hg hat);replace HB:=aM hb;replace HK:=aM (Kept.of_grown (S:=(fun k_=>P0_ k_)) hg q18x0 (fun k_ e_=>(z.out.1 k_ e_).1));have co:=aM ho;clear z ho hb hg hat))
         go_roundg k2
         case measure=>have:=HK1.out;have:=HK2.out;omega
         case rel=>exact⟨(cj),(wrap64 (g+1)),rS,H',⟨by have:=HK1.out;have:=HK2.out;omega⟩,⟨mR d⟩,⟨mR co⟩,⟨q18x0⟩,⟨cB⟩⟩
        ·rw[if_neg ap]at H;have ch:decide (b<(rd a g))=false:=decide_eq_false ap;clear ap;have H':=aM H;clear H;have ag:0≤(g:Int):=dA;have ah:g<(a.length:Int):=dA;obtain⟨a3,a4,ck⟩:=at_int (R_reads' d.out).2.2 g ag ah;cases a4;replace ag:=eq_true ag;replace ah:=eq_true ah;go_wp2;go_roundg k2
         case measure=>have:=HK1.out;have:=HK2.out;omega
         case rel=>exact⟨(v),(wrap64 (g+1)),rS,H',⟨by have:=HK1.out;have:=HK2.out;omega⟩,⟨mR d⟩,⟨mR z⟩,⟨q18x0⟩,⟨cB⟩⟩
       ·rw[if_neg ao]at H;have cg:=decide_eq_false ao;clear ao;obtain rfl:=Option.some.inj H;go_wp2;go_ret
        exact⟨_,rE,by(with_reducible repeat(first|apply R_alloc|apply R_drewN|apply R_drew));exact R_mono z.out (fun _ hk=>hk.1),cB,q18x0⟩
mutual
def spec_NumsOf.l0:Nat→List Int→Int→Int→Int→Int→List (S81)→Option (List Int)
  | 0,_,_,_,_,_,_=>none
  | k+1,av,L,aI,aJ,aK,W=>if L<(W.length:Int)then(spec_NumsOf.l1 k av L 0 aI aJ aK W)else(some av)
def spec_NumsOf.l1:Nat→List Int→Int→Int→Int→Int→Int→List (S81)→Option (List Int)
  | 0,_,_,_,_,_,_,_=>none
  | k+1,av,L,i,aI,aJ,aK,W=>if 0≤L then(if L<(W.length:Int)then(if i<(((rd_T81 W L).f0).length:Int)then(if 0≤i then((spec_l10Put.f k av (rd ((rd_T81 W L).f0) i)).bind fun aN=>(spec_NumsOf.l1 k aN L (wrap64 (i+1)) aI aJ aK W))else(none))else(spec_NumsOf.l0 k av (wrap64 (L+1)) aI aJ aK W))else(none))else(none)
end
def spec_NumsOf.f (k:Nat) (n:Int) (o:Int) (p:Int) (j:List (S81)):Option (List Int):=spec_NumsOf.l0 k (([] :List Int)) 0 n o p j
set_option maxHeartbeats 8000000 in
set_option maxRecDepth 100000 in
theorem spec_NumsOf.calls {k:Nat}{n:Int}{o:Int}{p:Int}{aw:Option Addr}{ax:Nat}{j:List (S81)}{r:List Int}{w:World}(h:spec_NumsOf.f k n o p j=some r)(bC:Kd.C k81 w aw j.length j)(bD:j.length≤ax) :
 Calls Try.prog 19 #[.agg #[.int .i64 n,.int .i64 o,.int .i64 p,.slice aw j.length ax]] w fun e w'=> ∃ v0_:Value,e= .returned (v0_)∧Kd.R (Kd.int .i64) 3 w' w.heap.size (fun _=>True) v0_ r∧Below w.heap.size w w':=by
 have hu41:=Try.underlying41;have HR0_3:=aM bC;have HC0_3:=aM bD;clear bC bD;have HB:=rW w;have H:(spec_NumsOf.l0 k (([] :List Int)) 0 n o p j)=some r:=h;clear h;obtain⟨cp,a7⟩ : ∃ y_:List Int,Aside0 (y_=(([] :List Int))):=⟨_,⟨rfl⟩⟩;rw[← a7.out]at H;have H':=aM H;clear H;go_enter Try.func19,Try.ntmps19
 go_wp2_with (first|((with_reducible refine gN 1 ?_);refine boxZ 1 #[.int .i64 n,.int .i64 o,.int .i64 p,.slice aw j.length ax] 41 ?_;intro bF hg di hbox hb;have x:=aM hbox;have GW855:=gS hg;have GE855:=gS hg;replace HB:=sB hb;clear hb hbox hg)|((with_reducible refine gN 6 ?_);refine R_lit (Kd.int .i64) _ 3 ?hg (N:=6) ?hd (xs:=([] :List Int)) (inner:=[]) (ok:=fun _=>True) (okp:=fun _=>True) ?hr ?hp (fun _ hk=>hk) trivial (Below.refl _ _) (Nat.le_refl _) (by simp) ?_;(case hd=>rfl);(case hg=>rfl);(case hr=>exact rG);(case hp=>exact(Reps.none _ _));intro dj dk ay hb hg_ hnew_;clear hg_ hnew_;(first|rw[← a7.out]at ay|(simp only[Int.reduceToNat]at ay;rw[← a7.out]at ay));have cq:=rL ay;replace x:=kB x hb;replace HB:=sB hb;clear hb ay))
 go_loopg [3,4] k (fun kq a8 cr w'=> ∃ (aQ:List Int) (s:Int),cr= .int .i64 s∧Aside0 (spec_NumsOf.l0 kq aQ s n o p j=some r)∧Aside0 (kq≤k)∧Aside0 (Kd.R (Kd.int .i64) 3 w' w.heap.size (fun _=>True) a8 aQ)∧Aside0 (w'.heap[bF]?=some (.cells #[.int .i64 n,.int .i64 o,.int .i64 p,(.slice aw j.length ax)] 41 (0,0)))∧Aside0 (Below w.heap.size w w'))
 case atStart=>exact⟨(cp),(0),rS,H',⟨Nat.le_refl _⟩,⟨mR cq⟩,⟨mK x⟩,⟨cB⟩⟩
 case round=>
  clear H';obtain⟨aQ,s,rfl,HA,HK1,X,x,HB⟩:=hrel
  cases gk with
  | zero=>exact absurd HA.out (by simp[spec_NumsOf.l0])
  | succ k1=>
   have H:=HA.out;clear HA;simp only[spec_NumsOf.l0]at H;by_cases q:s<(j.length:Int)
   ·rw[if_pos q]at H;have aC:=decide_eq_true q;clear q;have H':=aM H;clear H;obtain⟨cs,ct,cu,cv,cw,cx,cy,cz⟩:=cz4 x;go_wp2
    go_loopg [3,5] k1 (fun kq a8 I w'=> ∃ (ai:List Int) (v:Int),I= .int .i64 v∧Aside0 (spec_NumsOf.l1 kq ai s v n o p j=some r)∧Aside0 (kq≤k1)∧Aside0 (Kd.R (Kd.int .i64) 3 w' w.heap.size (fun _=>True) a8 ai)∧Aside0 (w'.heap[bF]?=some (.cells #[.int .i64 n,.int .i64 o,.int .i64 p,(.slice aw j.length ax)] 41 (0,0)))∧Aside0 (Below w.heap.size w w'))
    case atStart=>exact⟨(aQ),(0),rS,H',⟨Nat.le_refl _⟩,⟨mR X⟩,⟨mK x⟩,⟨cB⟩⟩
    case round=>
     clear H';(try clear q);(try clear aC);(try clear cs ct cu cv);(try clear cw cx cy cz);obtain⟨ai,v,rfl,HA,HK2,X,x,HB⟩:=hrel
     cases gk with
     | zero=>exact absurd HA.out (by simp[spec_NumsOf.l1])
     | succ k2=>
      have H:=HA.out;clear HA;simp only[spec_NumsOf.l1]at H;replace H:=gD H;obtain⟨dl,H⟩:=H;replace H:=gD H;obtain⟨dm,H⟩:=H;by_cases y:v<(((rd_T81 j s).f0).length:Int)
      ·rw[if_pos y]at H;have aE:=decide_eq_true y;clear y;replace H:=gD H;obtain⟨bu,H⟩:=H;replace H:=bE H;obtain⟨aN,cA,H⟩:=H;have H':=aM H;clear H;obtain⟨cD,cE,cF,cG,cI,cJ,cL,cM⟩:=cz4 x;have aj:0≤(s:Int):=dA;have ak:s<(j.length:Int):=dA;obtain⟨bG,cN,cO,cP,cQ,a9,aq,ar,az,aA,hl859_0,hi859_0,hl859_1,hi859_1⟩:=at_T81 HR0_3.out s aj ak;cases a9;replace aq:=(bc HB aq :);replace ar:=(bc HB ar :);replace az:=(bc HB az :);replace aA:=(bc HB aA :);have HR859_0:=aM hi859_0;have HC859_0:=aM hl859_0;clear hi859_0 hl859_0;have HR859_1:=aM hi859_1;have HC859_1:=aM hl859_1;clear hi859_1 hl859_1;replace aj:=eq_true aj;replace ak:=eq_true ak;have ba:0≤(s:Int):=dA;have bb:s<(j.length:Int):=dA;obtain⟨cR,dn,dp,dq,dr,cS,bd,be,bH,bI,hl860_0,hi860_0,hl860_1,hi860_1⟩:=at_T81 HR0_3.out s ba bb
       obtain rfl:bG=cR:=(by injection cS)
       replace bd:=(bc HB bd :);replace be:=(bc HB be :);replace bH:=(bc HB bH :);replace bI:=(bc HB bI :);have HR860_0:=aM hi860_0;have HC860_0:=aM hl860_0;clear hi860_0 hl860_0;have HR860_1:=aM hi860_1;have HC860_1:=aM hl860_1;clear hi860_1 hl860_1;replace ba:=eq_true ba;replace bb:=eq_true bb;have ea_:=Option.some.inj (aq.symm.trans bd)
       injection ea_ with ea_ en_ ec_
       subst ea_;subst ec_;clear en_;have ea_:=Option.some.inj (ar.symm.trans be)
       injection ea_ with ea_ en_ ec_
       subst ea_;subst ec_;clear en_;have bf:0≤(v:Int):=dA;have bg:v<(((rd_T81 j s).f0).length:Int):=dA;obtain⟨ds,cT,bJ⟩:=at_int HR860_0.out v bf bg;cases cT;replace bJ:=(bc HB bJ :);replace bf:=eq_true bf;replace bg:=eq_true bg;obtain⟨bL,bM,cU⟩:=R_slice X.out;subst cU
       go_wp2_with (first|((with_reducible refine gF 53 ?_);refine gY (some 35) Try.func53 (spec_l10Put.calls k2 (fun k_=>some k_=(.slice bL ai.length bM:Value).ownBlock) (.slice bL ai.length bM) ai (rd ((rd_T81 j s).f0) v) aN w _ cB (R_tight rfl X.out) cA.out) ?_;rintro dt du ⟨aD,hb,hkp⟩;replace x:=aM (blk_kept (mK x) hkp (fun hs_=>(fun e_=>(R_ne X.out x.out (by decide)) e_) hs_));have cV:=aM (R_mono (ok':=fun k_=>True) aD (fun k_ hk_=>trivial));replace HB:=aM hb;clear X;(try clear hb);(try clear hkp);(try clear aD)))
       go_roundg k2
       case measure=>have:=HK1.out;have:=HK2.out;omega
       case rel=>exact⟨(aN),(wrap64 (v+1)),rS,H',⟨by have:=HK1.out;have:=HK2.out;omega⟩,⟨mR cV⟩,⟨mK x⟩,⟨cB⟩⟩
      ·rw[if_neg y]at H;have aE:=decide_eq_false y;clear y;have H':=aM H;clear H;obtain⟨dv,dw,dx,dy,dz,dC,dD,dE⟩:=cz4 x;have aj:0≤(s:Int):=dA;have ak:s<(j.length:Int):=dA;obtain⟨bG,cN,cO,cP,cQ,a9,aq,ar,az,aA,hl859_0,hi859_0,hl859_1,hi859_1⟩:=at_T81 HR0_3.out s aj ak;cases a9;replace aq:=(bc HB aq :);replace ar:=(bc HB ar :);replace az:=(bc HB az :);replace aA:=(bc HB aA :);have HR859_0:=aM hi859_0;have HC859_0:=aM hl859_0;clear hi859_0 hl859_0;have HR859_1:=aM hi859_1;have HC859_1:=aM hl859_1;clear hi859_1 hl859_1;replace aj:=eq_true aj;replace ak:=eq_true ak;go_wp2;go_roundg k2
       case measure=>have:=HK1.out;have:=HK2.out;omega
       case rel=>exact⟨(ai),(wrap64 (s+1)),rS,H',⟨by have:=HK1.out;have:=HK2.out;omega⟩,⟨mR X⟩,⟨mK x⟩,⟨cB⟩⟩
   ·rw[if_neg q]at H;have aC:=decide_eq_false q;clear q;obtain rfl:=Option.some.inj H;obtain⟨cW,cX,cY,cZ,c0,c1,c3,c4⟩:=cz4 x;go_wp2;go_ret;exact⟨_,rE,mR X,cB⟩
def spec_ResultOf.f (G:Int) (b:Int):Option (Int):=(spec_l01In.f G 0 5).bind fun bh=>(if bh=true then((spec_l01In.f b 0 65535).bind fun bi=>(if bi=true then(some (wrap64 ((wrap64 (65536*G))+b)))else(some 0)))else(some 0))
set_option maxHeartbeats 8000000 in
set_option maxRecDepth 100000 in
theorem spec_ResultOf.calls {G:Int}{b:Int}{r:Int}{w:World}(h:spec_ResultOf.f G b=some r) :
 Calls Try.prog 34 #[.int .i64 G,.int .i64 b] w fun e w'=>e= .returned (.int .i64 r)∧Drawn0 w w':=by
 unfold spec_ResultOf.f at h;have H:=h
 clear h;replace H:=bE H;obtain⟨bh,J,H⟩:=H;by_cases u:bh=true
 ·subst u;replace H:=iT H;replace H:=bE H;obtain⟨bi,aR,H⟩:=H;by_cases aT:bi=true
  ·subst aT;replace H:=iT H;obtain rfl:=Option.some.inj H;go_enter Try.func34,Try.ntmps34
   go_wp2_with (first|((with_reducible refine gF 41 ?_);refine gX (some 6) Try.func41 (spec_l01In.calls J.out) ?_;rintro w' ⟨nd,rfl⟩)|(go_at_call 41;(with_reducible refine(spec_l01In.calls aR.out).mono ?_);rintro e w' ⟨rfl,⟨nd,rfl⟩⟩))
   go_ret
   exact⟨by first|rfl|(simp;done)|(simp[*];done),by repeat(first|exact Drawn0.refl _|apply Drawn0.step)⟩
  ·replace aT:=Bool.eq_false_iff.mpr aT;subst aT;replace H:=iF H;obtain rfl:=Option.some.inj H;go_enter Try.func34,Try.ntmps34
   go_wp2_with (first|((with_reducible refine gF 41 ?_);refine gX (some 6) Try.func41 (spec_l01In.calls J.out) ?_;rintro w' ⟨nd,rfl⟩)|(go_at_call 41;(with_reducible refine(spec_l01In.calls aR.out).mono ?_);rintro e w' ⟨rfl,⟨nd,rfl⟩⟩))
   go_ret
   exact⟨by first|rfl|(simp;done)|(simp[*];done),by repeat(first|exact Drawn0.refl _|apply Drawn0.step)⟩
 ·replace u:=Bool.eq_false_iff.mpr u;subst u;replace H:=iF H;obtain rfl:=Option.some.inj H;go_enter Try.func34,Try.ntmps34
  go_wp2_with (first|((with_reducible refine gF 41 ?_);refine gX (some 6) Try.func41 (spec_l01In.calls J.out) ?_;rintro w' ⟨nd,rfl⟩))
  go_ret
  exact⟨by first|rfl|(simp;done)|(simp[*];done),by repeat(first|exact Drawn0.refl _|apply Drawn0.step)⟩
def spec_l09Act.f (G:Int) (b:Int):Option (Bool):=(spec_l01In.f G 0 5).bind fun bj=>(if bj=true then((spec_l01In.f b 0 65535).bind fun bN=>(some bN))else(some false))
set_option maxHeartbeats 8000000 in
set_option maxRecDepth 100000 in
theorem spec_l09Act.calls {G:Int}{b:Int}{r:Bool}{w:World}(h:spec_l09Act.f G b=some r) :
 Calls Try.prog 94 #[.int .i64 G,.int .i64 b] w fun e w'=>e= .returned (.bool r)∧Drawn0 w w':=by
 unfold spec_l09Act.f at h;have H:=h
 clear h;replace H:=bE H;obtain⟨bj,J,H⟩:=H;by_cases u:bj=true
 ·subst u;replace H:=iT H;replace H:=bE H;obtain⟨bN,aR,H⟩:=H;obtain rfl:=Option.some.inj H;go_enter Try.func94,Try.ntmps94
  go_wp2_with (first|((with_reducible refine gF 41 ?_);refine gX (some 6) Try.func41 (spec_l01In.calls J.out) ?_;rintro w' ⟨nd,rfl⟩)|(go_at_call 41;(with_reducible refine(spec_l01In.calls aR.out).mono ?_);rintro e w' ⟨rfl,⟨nd,rfl⟩⟩))
  go_ret
  exact⟨by first|rfl|(simp;done)|(simp[*];done),by repeat(first|exact Drawn0.refl _|apply Drawn0.step)⟩
 ·replace u:=Bool.eq_false_iff.mpr u;subst u;replace H:=iF H;obtain rfl:=Option.some.inj H;go_enter Try.func94,Try.ntmps94
  go_wp2_with (first|((with_reducible refine gF 41 ?_);refine gX (some 6) Try.func41 (spec_l01In.calls J.out) ?_;rintro w' ⟨nd,rfl⟩))
  go_ret
  exact⟨by first|rfl|(simp;done)|(simp[*];done),by repeat(first|exact Drawn0.refl _|apply Drawn0.step)⟩
def spec_CondOk.f (n:Int) (o:Int) (p:Int) (Y:Int) (aa:Int) (ab:Int):Option (Bool):=(spec_l01In.f n 0 2).bind fun bk=>(if bk=true then((spec_WideOk.f o p).bind fun bl=>(if bl=true then((spec_WideOk.f aa ab).bind fun bm=>(if bm=true then((spec_l01In.f Y 1 6).bind fun bO=>(some bO))else(some false)))else(some false)))else(some false))
set_option maxHeartbeats 8000000 in
set_option maxRecDepth 100000 in
theorem spec_CondOk.calls {n:Int}{o:Int}{p:Int}{Y:Int}{aa:Int}{ab:Int}{r:Bool}{w:World}(h:spec_CondOk.f n o p Y aa ab=some r) :
 Calls Try.prog 111 #[.agg #[.int .i64 n,.int .i64 o,.int .i64 p,.int .i64 Y,.int .i64 aa,.int .i64 ab]] w fun e w'=>e= .returned (.bool r)∧Below w.heap.size w w':=by
 have hu114:=Try.underlying114;have hu93:=Try.underlying93;have HB:=rW w
 unfold spec_CondOk.f at h;have H:=h
 clear h;replace H:=bE H;obtain⟨bk,aU,H⟩:=H;by_cases D:bk=true
 ·subst D;replace H:=iT H;replace H:=bE H;obtain⟨bl,bn,H⟩:=H;by_cases q:bl=true
  ·subst q;replace H:=iT H;replace H:=bE H;obtain⟨bm,bP,H⟩:=H;by_cases aV:bm=true
   ·subst aV;replace H:=iT H;replace H:=bE H;obtain⟨bO,c5,H⟩:=H;obtain rfl:=Option.some.inj H;go_enter Try.func111,Try.ntmps111
    go_wp2_with (first|((with_reducible refine gN 1 ?_);refine boxZ 1 #[.int .i64 n,.int .i64 o,.int .i64 p,.int .i64 Y,.int .i64 aa,.int .i64 ab] 114 ?_;intro bo hg dF hbox hb;have l:=aM hbox;have GW869:=gS hg;have GE869:=gS hg;replace HB:=sB hb;clear hb hbox hg;obtain⟨dG,dH,dI,dJ,dK,dL,dM,dN,dO,dP,dQ,dS⟩:=cz6 l)|((with_reducible refine gF 41 ?_);refine gX (some 5) Try.func41 (spec_l01In.calls aU.out) ?_;rintro w' ⟨nd,rfl⟩)|(go_at_call 79;(with_reducible refine(spec_WideOk.calls bn.out).mono ?_);rintro e dT ⟨rfl,hb⟩;replace l:=kB l hb;replace HB:=sB hb;(try clear hb);obtain⟨cD,cE,cF,cG,dU,dV,cI,cJ,cL,cM,dX,dY⟩:=cz6 l)|(go_at_call 79;(with_reducible refine(spec_WideOk.calls bP.out).mono ?_);rintro e b9 ⟨rfl,hb⟩;replace l:=kB l hb;replace HB:=sB hb;(try clear hb);obtain⟨dZ,d0,d1,d2,d3,d4,d5,d6,d7,d8,d9,ea⟩:=cz6 l)|(go_at_call 41;(with_reducible refine(spec_l01In.calls c5.out).mono ?_);rintro e w' ⟨rfl,⟨nd,rfl⟩⟩))
    go_ret;exact⟨rE,cB⟩
   ·replace aV:=Bool.eq_false_iff.mpr aV;subst aV;replace H:=iF H;obtain rfl:=Option.some.inj H;go_enter Try.func111,Try.ntmps111
    go_wp2_with (first|((with_reducible refine gN 1 ?_);refine boxZ 1 #[.int .i64 n,.int .i64 o,.int .i64 p,.int .i64 Y,.int .i64 aa,.int .i64 ab] 114 ?_;intro bo hg cd hbox hb;have l:=aM hbox;have GW869:=gS hg;have GE869:=gS hg;replace HB:=sB hb;clear hb hbox hg;obtain⟨cW,cX,cY,cZ,eb,ec,c0,c1,c3,c4,ed,ee⟩:=cz6 l)|((with_reducible refine gF 41 ?_);refine gX (some 5) Try.func41 (spec_l01In.calls aU.out) ?_;rintro w' ⟨nd,rfl⟩)|(go_at_call 79;(with_reducible refine(spec_WideOk.calls bn.out).mono ?_);rintro e ef ⟨rfl,hb⟩;replace l:=kB l hb;replace HB:=sB hb;(try clear hb);obtain⟨eg,eh,ei,ej,ek,el,em,en,eo,ep,eq,er⟩:=cz6 l)|(go_at_call 79;(with_reducible refine(spec_WideOk.calls bP.out).mono ?_);rintro e es ⟨rfl,hb⟩;replace l:=kB l hb;replace HB:=sB hb;(try clear hb)))
    go_ret;exact⟨rE,cB⟩
  ·replace q:=Bool.eq_false_iff.mpr q;subst q;replace H:=iF H;obtain rfl:=Option.some.inj H;go_enter Try.func111,Try.ntmps111
   go_wp2_with (first|((with_reducible refine gN 1 ?_);refine boxZ 1 #[.int .i64 n,.int .i64 o,.int .i64 p,.int .i64 Y,.int .i64 aa,.int .i64 ab] 114 ?_;intro bo hg cn hbox hb;have l:=aM hbox;have GW869:=gS hg;have GE869:=gS hg;replace HB:=sB hb;clear hb hbox hg;obtain⟨et,eu,ev,ew,ex,ey,ez,eA,eC,eD,eE,eG⟩:=cz6 l)|((with_reducible refine gF 41 ?_);refine gX (some 5) Try.func41 (spec_l01In.calls aU.out) ?_;rintro w' ⟨nd,rfl⟩)|(go_at_call 79;(with_reducible refine(spec_WideOk.calls bn.out).mono ?_);rintro e eH ⟨rfl,hb⟩;replace l:=kB l hb;replace HB:=sB hb;(try clear hb)))
   go_ret;exact⟨rE,cB⟩
 ·replace D:=Bool.eq_false_iff.mpr D;subst D;replace H:=iF H;obtain rfl:=Option.some.inj H;go_enter Try.func111,Try.ntmps111
  go_wp2_with (first|((with_reducible refine gN 1 ?_);refine boxZ 1 #[.int .i64 n,.int .i64 o,.int .i64 p,.int .i64 Y,.int .i64 aa,.int .i64 ab] 114 ?_;intro bo hg eI hbox hb;have l:=aM hbox;have GW869:=gS hg;have GE869:=gS hg;replace HB:=sB hb;clear hb hbox hg;obtain⟨eJ,eK,eL,eM,eN,eO,eP,eQ,eR,eS,eU,eW⟩:=cz6 l)|((with_reducible refine gF 41 ?_);refine gX (some 5) Try.func41 (spec_l01In.calls aU.out) ?_;rintro w' ⟨nd,rfl⟩))
  go_ret;exact⟨rE,cB⟩
end Go.Proofs.Ytpbalojiaghfhaa.PFnCompilesSmall
