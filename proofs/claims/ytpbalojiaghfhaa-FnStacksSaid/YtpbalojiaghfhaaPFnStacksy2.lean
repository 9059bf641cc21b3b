import Derived.Test.YtpbalojiaghfhaaPFnStacksy0
namespace Go.Proofs.Ytpbalojiaghfhaa.PFnStacks
open Go.RowKit Go.Proofs.YtpbalojiaghfhaaW.PrintWords Go.Proofs.YtpbalojiaghfhaaW.PrintLast Go.Proofs.YtpbalojiaghfhaaW.PrintMore Go.Proofs.YtpbalojiaghfhaaW.Z
open Kd
attribute [local go_sem] isS max2_int min2_int max_two min_two max_three min_three max_four min_four
set_option linter.unusedVariables false
set_option linter.unusedSimpArgs false
def laws_big.f (j:List Int):Option (Bool):=some (decide ((j.length:Int)>1048576))
set_option maxHeartbeats 8000000 in
set_option maxRecDepth 100000 in
theorem laws_big.calls {c:Option Addr}{i:Nat}{j:List Int}{r:Bool}{w:World}(h:laws_big.f j=some r)(l:Kd.C (Kd.int .u8) w c j.length j)(af:j.length≤i) :
 Calls Try.prog 6 #[.slice c j.length i] w fun e w'=>e= .returned (.bool r)∧Drawn0 w w':=by
 have HR0:=aM l;have HC0:=aM af;clear l af;have H:(some (decide ((j.length:Int)>1048576)))=some r:=h;clear h;obtain rfl:=Option.some.inj H;go_enter Try.func6,Try.ntmps6;go_wp2;go_ret
 exact⟨by first|rfl|(simp;done)|(simp[*];done),by repeat(first|exact Drawn0.refl _|apply Drawn0.step)⟩
/-- A state of type 90 at block g of W; what its slices lead to came in by b. -/
def IsS90 (b W:World) (g:Nat) (f0:List Int) (f1:Int) (f2:Int):Prop:= ∃ c i,W.heap[g]?=some (.cells #[.slice c f0.length i,.int .i64 f1,.int .i64 f2] 90 (0,0))∧b.heap.size≤g∧Kd.C (Kd.int .u8) b c f0.length f0
theorem IsS90.grown {b W:World} {g:Nat} {f0:List Int} {f1:Int} {f2:Int} {W1:World} {row:Option Nat} (h:IsS90 b W g f0 f1 f2) (hw:W.grownBy W1 row) (hne:some g≠row):IsS90 b W1 g f0 f1 f2:=by
  obtain⟨c,i,hb,hg,l⟩:=h
  exact⟨c,i,blk_grown hb hw hne,hg,l⟩
theorem IsS90.own_neN {b W:World} {g:Nat} {f0:List Int} {f1:Int} {f2:Int} {α:Type} {d:Kd α} {e:Nat} {base:Nat} {ok:Nat→Prop} {v:Value} {xs:List α} (h:IsS90 b W g f0 f1 f2) (ho:Kd.N d e W base ok v xs) (ht:e≠90):some g≠v.ownBlock:=by
  obtain⟨c,i,hb,hg,l⟩:=h
  exact N_ne ho hb ht
theorem IsS90.fresh {b W:World} {g:Nat} {f0:List Int} {f1:Int} {f2:Int} (h:IsS90 b W g f0 f1 f2): ∀ k,W.heap.size≤k→k≠g:=by
  obtain⟨c,i,hb,hg,l⟩:=h
  exact Kd.freshB hb
theorem IsS90.kept {b W:World} {g:Nat} {f0:List Int} {f1:Int} {f2:Int} {W1:World} {S:Nat→Prop} (h:IsS90 b W g f0 f1 f2) (hk:Kept W W1 S) (hne: ¬ S g):IsS90 b W1 g f0 f1 f2:=by
  obtain⟨c,i,hb,hg,l⟩:=h
  exact⟨c,i,blk_kept hb hk hne,hg,l⟩
theorem IsS90.below {b W:World} {g:Nat} {f0:List Int} {f1:Int} {f2:Int} {W1:World} (h:IsS90 b W g f0 f1 f2) (hw:Below W.heap.size W W1):IsS90 b W1 g f0 f1 f2:=h.grown (grown_of_below hw none) (by simp)
theorem IsS90.alloc {b W:World} {g:Nat} {f0:List Int} {f1:Int} {f2:Int} (h:IsS90 b W g f0 f1 f2) (o:Obj):IsS90 b (W.alloc o) g f0 f1 f2:=h.below (below_alloc (Below.refl _ _) o)
theorem IsS90.drewN {b W:World} {g:Nat} {f0:List Int} {f1:Int} {f2:Int} (h:IsS90 b W g f0 f1 f2) (m:Nat):IsS90 b (W.drewN m) g f0 f1 f2:=h
theorem IsS90.drew {b W:World} {g:Nat} {f0:List Int} {f1:Int} {f2:Int} (h:IsS90 b W g f0 f1 f2):IsS90 b W.drew g f0 f1 f2:=h
theorem IsS90.at_ {b W:World} {g:Nat} {f0:List Int} {f1:Int} {f2:Int} {w':World} {m:Nat} (hq:W.drewN m=w') (h:IsS90 b W g f0 f1 f2):IsS90 b w' g f0 f1 f2:=by subst hq;exact IsS90.drewN h m
theorem IsS90.apart {b W:World} {g:Nat} {f0:List Int} {f1:Int} {f2:Int} {α:Type} {d:Kd α} {e:Nat} {base:Nat} {ok:Nat→Prop} {v:Value} {xs:List α} (h:IsS90 b W g f0 f1 f2) (ho:d.R e W base ok v xs) (ht: ∀ q,q ∈ e :: d.E→q≠90):d.R e W base (fun k=>ok k∧k≠g) v xs:=by
  obtain⟨c,i,hb,hg,l⟩:=h
  exact R_types ho hb ht
theorem IsS90.own_ne {b W:World} {g:Nat} {f0:List Int} {f1:Int} {f2:Int} {α:Type} {d:Kd α} {e:Nat} {base:Nat} {ok:Nat→Prop} {v:Value} {xs:List α} (h:IsS90 b W g f0 f1 f2) (ho:d.R e W base ok v xs) (ht:e≠90):some g≠v.ownBlock:=by
  obtain⟨c,i,hb,hg,l⟩:=h
  exact R_ne ho hb ht
theorem IsS90.apartQ {b W:World} {g:Nat} {f0:List Int} {f1:Int} {f2:Int} {α:Type} {d:Kd α} {e:Nat} {base:Nat} {ok:Nat→Prop} {v:Value} {xs:List α} (h:IsS90 b W g f0 f1 f2) (ho:d.Q e W base ok v xs) (ht: ∀ q,q ∈ e :: d.E→q≠90):d.Q e W base (fun k=>ok k∧k≠g) v xs:=by
  obtain⟨c,i,hb,hg,l⟩:=h
  exact Q_types ho hb ht
theorem IsS90.own_neQ {b W:World} {g:Nat} {f0:List Int} {f1:Int} {f2:Int} {α:Type} {d:Kd α} {e:Nat} {base:Nat} {ok:Nat→Prop} {v:Value} {xs:List α} (h:IsS90 b W g f0 f1 f2) (ho:d.Q e W base ok v xs) (ht:e≠90):some g≠v.ownBlock:=by
  obtain⟨c,i,hb,hg,l⟩:=h
  exact Q_ne ho hb ht
theorem IsS90.apartS {b W:World} {g:Nat} {f0:List Int} {f1:Int} {f2:Int} {α:Type} {d:Kd α} {e:Nat} {base:Nat} {ok:Nat→Prop} {v:Value} {xs:List α} (h:IsS90 b W g f0 f1 f2) (ho:d.S e W base ok v xs) (ht: ∀ q,q ∈ e :: d.E→q≠90):d.S e W base (fun k=>ok k∧k≠g) v xs:=by
  obtain⟨c,i,hb,hg,l⟩:=h
  exact S_types ho hb ht
theorem IsS90.own_neS {b W:World} {g:Nat} {f0:List Int} {f1:Int} {f2:Int} {α:Type} {d:Kd α} {e:Nat} {base:Nat} {ok:Nat→Prop} {v:Value} {xs:List α} (h:IsS90 b W g f0 f1 f2) (ho:d.S e W base ok v xs) (ht:e≠90):some g≠v.ownBlock:=by
  obtain⟨c,i,hb,hg,l⟩:=h
  exact S_ne ho hb ht
theorem IsS90.lt {b W:World} {g:Nat} {f0:List Int} {f1:Int} {f2:Int} (h:IsS90 b W g f0 f1 f2):g<W.heap.size:=by
  obtain⟨c,i,hb,hg,l⟩:=h
  exact blk_lt hb
theorem IsS90.ge {b W:World} {g:Nat} {f0:List Int} {f1:Int} {f2:Int} (h:IsS90 b W g f0 f1 f2):b.heap.size≤g:=by
  obtain⟨c,i,hb,hg,l⟩:=h
  exact hg
theorem IsS90.ne_blk {b W:World} {g:Nat} {f0:List Int} {f1:Int} {f2:Int} {a:Nat} {cs:Array Value} {t:TypeId} {fr:Nat×Nat} (h:IsS90 b W g f0 f1 f2) (hb2:W.heap[a]?=some (.cells cs t fr)) (ht:t≠90):g≠a:=by
  obtain⟨c,i,hb,hg,l⟩:=h
  rintro rfl
  rw[hb]at hb2
  injection hb2 with hb2
  injection hb2 with _ ht2
  exact ht ht2.symm
theorem IsS90.far {b W:World} {g:Nat} {f0:List Int} {f1:Int} {f2:Int} {p:Addr} (h:IsS90 b W g f0 f1 f2) (hne:g≠p.block) (u:Value):IsS90 b (W.setCell p u) g f0 f1 f2:=by
  obtain⟨c,i,hb,hg,l⟩:=h
  exact⟨c,i,blk_far hb hne u,hg,l⟩
theorem cellS90_0 {W:World} {g:Nat} {c:Option Addr} {i:Nat} {f0:List Int} {f1:Int} {f2:Int} (h:W.heap[g]?=some (.cells #[.slice c f0.length i,.int .i64 f1,.int .i64 f2] 90 (0,0))):W.cell? ⟨g,0,none⟩=some (.slice c f0.length i):=(blk_cell h 0).trans rfl
theorem cellS90_1 {W:World} {g:Nat} {c:Option Addr} {i:Nat} {f0:List Int} {f1:Int} {f2:Int} (h:W.heap[g]?=some (.cells #[.slice c f0.length i,.int .i64 f1,.int .i64 f2] 90 (0,0))):W.cell? ⟨g,1,none⟩=some (.int .i64 f1):=(blk_cell h 1).trans rfl
theorem IsS90.set_1 {b W:World} {g:Nat} {f0:List Int} {f1:Int} {f2:Int} (h:IsS90 b W g f0 f1 f2) (x:Int):IsS90 b (W.setCell ⟨g,1,none⟩ (.int .i64 x)) g f0 x f2:=by
  obtain⟨c,i,hb,hg,l⟩:=h
  exact⟨c,i,by simpa using blk_set hb 1 (.int .i64 x),hg,l⟩
theorem cellS90_2 {W:World} {g:Nat} {c:Option Addr} {i:Nat} {f0:List Int} {f1:Int} {f2:Int} (h:W.heap[g]?=some (.cells #[.slice c f0.length i,.int .i64 f1,.int .i64 f2] 90 (0,0))):W.cell? ⟨g,2,none⟩=some (.int .i64 f2):=(blk_cell h 2).trans rfl
theorem IsS90.set_2 {b W:World} {g:Nat} {f0:List Int} {f1:Int} {f2:Int} (h:IsS90 b W g f0 f1 f2) (x:Int):IsS90 b (W.setCell ⟨g,2,none⟩ (.int .i64 x)) g f0 f1 x:=by
  obtain⟨c,i,hb,hg,l⟩:=h
  exact⟨c,i,by simpa using blk_set hb 2 (.int .i64 x),hg,l⟩
theorem IsS90.new (b W:World) (c:Option Addr) (i:Nat) (f0:List Int) (f1:Int) (f2:Int) (hB:Below b.heap.size b W) (l:Kd.C (Kd.int .u8) b c f0.length f0):IsS90 b (W.alloc (.cells #[.slice c f0.length i,.int .i64 f1,.int .i64 f2] 90)) W.heap.size f0 f1 f2:=⟨c,i,by simpa using heap_alloc_new W _,hB.size,l⟩
def spec_l01New.l0:Nat→List Int→Int→Int→Option (List Int×Int×Int)
  | 0,_,_,_=>none
  | k+1,aB,a8,ag=>if ag<(aB.length:Int)then(if ag<4000 then(if 0≤ag then(spec_l01New.l0 k aB (Go.bits .and .i64 (wrap64 ((wrap64 ((wrap64 (a8*131))+(wrap64 (rd aB ag))))+7)) 1073741823) (wrap64 (ag+1)))else(none))else(some (aB,0,a8)))else(some (aB,0,a8))
def spec_l01New.f (k:Nat) (j:List Int):Option (List Int×Int×Int):=spec_l01New.l0 k j (wrap64 (78801+(j.length:Int))) 0
theorem q2x0 {P:Prop} (h:P:=by repeat(first|(with_reducible first|exact HBW.out|apply below_alloc|apply pw_below_drewN|apply below_drew1)|exact HBW.out)):P:=h
theorem q2x1 {P:Prop} (h:P:=by repeat(first|(with_reducible first|exact HBW.out|apply below_alloc|apply pw_below_drewN|apply below_drew1|refine below_set ?_ (Aside0.out (by assumption)))|exact HBW.out)):P:=h
set_option maxHeartbeats 8000000 in
set_option maxRecDepth 100000 in
theorem spec_l01New.calls (k:Nat) (c:Option Addr) (i:Nat) (j:List Int) (r1:List Int) (r2:Int) (r3:Int) (b w:World) (hB:Below b.heap.size b w) (l:Kd.C (Kd.int .u8) b c j.length j) (af:j.length≤i) (h:spec_l01New.f k j=some (r1,r2,r3)) :
 Calls Try.prog 36 #[.slice c j.length i] w fun e w'=> ∃ g_:Nat,e= .returned (.pointer (some ⟨g_,0,none⟩))∧IsS90 b w' g_ r1 r2 r3∧Below b.heap.size b w'∧Below w.heap.size w w':=by
 have hu90:=Try.underlying90;have HR0:=aM l;have HC0:=aM af;clear l af;have HBW:=rW w;have HW0:=aM hB.size;have HB:=aM hB;clear hB;have H:(spec_l01New.l0 k j (wrap64 (78801+(j.length:Int))) 0)=some (r1,r2,r3):=h;clear h;have H':=aM H;clear H;go_enter Try.func36,Try.ntmps36;go_wp2
 go_loopg [3,4] k (fun kq cI a9 w'=> ∃ (ah:Int) (I:Int),cI= .int .i64 ah∧a9= .int .i64 I∧Aside0 (spec_l01New.l0 kq j ah I=some (r1,r2,r3))∧Aside0 (kq≤k)∧Aside0 (Below b.heap.size b w')∧Aside0 (Below w.heap.size w w'))
 case atStart=>exact⟨(wrap64 (78801+(j.length:Int))),(0),rS,rS,H',⟨Nat.le_refl _⟩,⟨cB⟩,⟨q2x0⟩⟩
 case round=>
  clear H' HBW;obtain⟨ah,I,rfl,rfl,HA,HK1,HB,HBW⟩:=hrel
  cases gk with
  | zero=>exact absurd HA.out (by simp[spec_l01New.l0])
  | succ k1=>
   have H:=HA.out;clear HA;simp only[spec_l01New.l0]at H;by_cases J:I<(j.length:Int)
   ·rw[if_pos J]at H;have ba:=decide_eq_true J;clear J;by_cases L:I<4000
    ·rw[if_pos L]at H;have aJ:=decide_eq_true L;clear L;replace H:=gD H;obtain⟨aC,H⟩:=H;have H':=aM H;clear H;have bb:0≤(I:Int):=dA;have bd:I<(j.length:Int):=dA;obtain⟨dT,cJ,bX⟩:=at_int HR0.out I bb bd;cases cJ;replace bX:=pw_cell_below HB.out bX;replace bb:=eq_true bb;replace bd:=eq_true bd;go_wp2;go_roundg k1
     case measure=>exact oK
     case rel=>exact⟨(Go.bits .and .i64 (wrap64 ((wrap64 ((wrap64 (ah*131))+(wrap64 (rd j I))))+7)) 1073741823),(wrap64 (I+1)),rS,rS,H',⟨oK⟩,⟨cB⟩,⟨q2x0⟩⟩
    ·rw[if_neg L]at H;have aJ:=decide_eq_false L;clear L;simp only[Option.some.injEq,Prod.mk.injEq]at H;obtain⟨rfl,rfl,rfl⟩:=H
     go_wp2_with (first|((with_reducible refine gN 31 ?_);refine boxZ 31 #[.slice c j.length i,.int .i64 0,.int .i64 ah] 90 ?_;intro aK hg be hbox hb;replace HB:=sB hb;have cL:=aM hbox;have GW102:=aM ((by rw[hg];exact(below_size q2x0):w.heap.size≤aK));have GE102:=aM ((Nat.le_trans HW0.out (by rw[hg];exact(below_size q2x0):w.heap.size≤aK):b.heap.size≤aK));replace HBW:=aM (below_step HBW.out hb);clear hb hbox hg))
     go_ret
     exact⟨_,rfl,(show IsS90 b _ aK j 0 ah from ⟨_,_,kS cL _,GE102.out,HR0.out⟩),cB,q2x1⟩
   ·rw[if_neg J]at H;have ba:=decide_eq_false J;clear J;simp only[Option.some.injEq,Prod.mk.injEq]at H;obtain⟨rfl,rfl,rfl⟩:=H
    go_wp2_with (first|((with_reducible refine gN 31 ?_);refine boxZ 31 #[.slice c j.length i,.int .i64 0,.int .i64 ah] 90 ?_;intro aN hg bf hbox hb;replace HB:=sB hb;have cM:=aM hbox;have GW103:=aM ((by rw[hg];exact(below_size q2x0):w.heap.size≤aN));have GE103:=aM ((Nat.le_trans HW0.out (by rw[hg];exact(below_size q2x0):w.heap.size≤aN):b.heap.size≤aN));replace HBW:=aM (below_step HBW.out hb);clear hb hbox hg))
    go_ret
    exact⟨_,rfl,(show IsS90 b _ aN j 0 ah from ⟨_,_,kS cM _,GE103.out,HR0.out⟩),cB,q2x1⟩
def spec_l01Byte.f (s0_0:List Int) (s0_1:Int) (s0_2:Int):Option (Int×Int×Int):=if s0_1<(s0_0.length:Int)then(if 0≤s0_1 then(some (Go.bits .and .i64 (wrap64 ((Go.bits .and .i64 (Go.bits .xor .i64 ((wrap64 ((wrap64 (s0_2*6364136223846793005))+1442695040888963407)) / 8589934592) ((wrap64 ((wrap64 (s0_2*6364136223846793005))+1442695040888963407)) / 35184372088832)) 255)+(wrap64 (rd s0_0 s0_1)))) 255,wrap64 (s0_1+1),wrap64 ((wrap64 (s0_2*6364136223846793005))+1442695040888963407)))else(none))else(some (Go.bits .and .i64 (Go.bits .xor .i64 ((wrap64 ((wrap64 (s0_2*6364136223846793005))+1442695040888963407)) / 8589934592) ((wrap64 ((wrap64 (s0_2*6364136223846793005))+1442695040888963407)) / 35184372088832)) 255,s0_1,wrap64 ((wrap64 (s0_2*6364136223846793005))+1442695040888963407)))
theorem q2x2 {P:Prop} (h:P:=by repeat(first|(with_reducible first|exact HI0.out|apply IsS90.alloc|apply IsS90.drewN|apply IsS90.drew|apply IsS90.set_1|apply IsS90.set_2)|exact HI0.out)):P:=h
theorem q2x3 {P:Prop} (h:P:=by repeat(first|(with_reducible first|exact HB.out|apply below_alloc|apply pw_below_drewN|apply below_drew1|refine below_set ?_ (IsS90.ge HI0.out))|exact HB.out)):P:=h
set_option maxHeartbeats 8000000 in
set_option maxRecDepth 100000 in
theorem spec_l01Byte.calls (g:Nat) (s0_0:List Int) (s0_1:Int) (s0_2:Int) (r1:Int) (r2:Int) (r3:Int) (b w:World) (hI:IsS90 b w g s0_0 s0_1 s0_2) (hB:Below b.heap.size b w) (h:spec_l01Byte.f s0_0 s0_1 s0_2=some (r1,r2,r3)) :
 Calls Try.prog 105 #[.pointer (some ⟨g,0,none⟩)] w fun e w'=>e= .returned (.int .i64 r1)∧IsS90 b w' g s0_0 r2 r3∧Below b.heap.size b w'∧KeepBut w w' g none:=by
 have HI0:=aM hI;have HK:=aM (KeepBut.refl w g none);have HL:=aM hB.size;clear hI;have HW0:=aM hB.size;have HB:=aM hB;clear hB;have H:(if s0_1<(s0_0.length:Int)then(if 0≤s0_1 then(some (Go.bits .and .i64 (wrap64 ((Go.bits .and .i64 (Go.bits .xor .i64 ((wrap64 ((wrap64 (s0_2*6364136223846793005))+1442695040888963407)) / 8589934592) ((wrap64 ((wrap64 (s0_2*6364136223846793005))+1442695040888963407)) / 35184372088832)) 255)+(wrap64 (rd s0_0 s0_1)))) 255,wrap64 (s0_1+1),wrap64 ((wrap64 (s0_2*6364136223846793005))+1442695040888963407)))else(none))else(some (Go.bits .and .i64 (Go.bits .xor .i64 ((wrap64 ((wrap64 (s0_2*6364136223846793005))+1442695040888963407)) / 8589934592) ((wrap64 ((wrap64 (s0_2*6364136223846793005))+1442695040888963407)) / 35184372088832)) 255,s0_1,wrap64 ((wrap64 (s0_2*6364136223846793005))+1442695040888963407))))=some (r1,r2,r3):=h;clear h;by_cases J:s0_1<(s0_0.length:Int)
 ·rw[if_pos J]at H;have ba:=decide_eq_true J;clear J;replace H:=gD H;obtain⟨aJ,H⟩:=H;simp only[Option.some.injEq,Prod.mk.injEq]at H;obtain⟨rfl,rfl,rfl⟩:=H;obtain⟨ASz4_0,cSz4_0,HGz4,hgz4,HSz4_0⟩:=HI0.out;have dU:=cellS90_0 HGz4;have dV:=cellS90_1 HGz4;have dX:=cellS90_2 HGz4;have dY:=blk_frozen HGz4 1;have dZ:=blk_frozen HGz4 2;clear HGz4 hgz4;have bg:0≤(s0_1:Int):=dA;have bh:s0_1<(s0_0.length:Int):=dA;obtain⟨cN,cO,aq⟩:=at_int HSz4_0 s0_1 bg bh;cases cO
  have aQ:cN.block≠g:=Nat.ne_of_lt (Nat.lt_of_lt_of_le (by have:=World.block_lt_of_cell? _ _ aq;first|rwa [add_block]at this|exact this) (IsS90.ge HI0.out))
  replace aq:=pw_cell_below HB.out aq
  replace aq:=(cell_far (p:=⟨g,2,none⟩) (by first|(rw[add_block];exact aQ)|(show(Addr.add _ _).block≠_;rw[add_block];exact aQ)|exact aQ) (.int .i64 (wrap64 ((wrap64 (s0_2*6364136223846793005))+1442695040888963407)))).trans aq
  (try have hy104_0:=fun (n_:Nat)=>(show(((w.drewN n_).setCell ⟨g,2,none⟩ (.int .i64 (wrap64 ((wrap64 (s0_2*6364136223846793005))+1442695040888963407))))).cell? _=some _ from aq))
  clear aQ;replace bg:=eq_true bg;replace bh:=eq_true bh;go_enter Try.func105,Try.ntmps105;go_wp2
  repeat(go_quiet (fail);try go_wp2)
  go_ret;exact⟨rE,q2x2,q2x3,cK⟩
 ·rw[if_neg J]at H;have ba:=decide_eq_false J;clear J;simp only[Option.some.injEq,Prod.mk.injEq]at H;obtain⟨rfl,rfl,rfl⟩:=H;obtain⟨ASz5_0,cSz5_0,HGz5,hgz5,HSz5_0⟩:=HI0.out;have d0:=cellS90_0 HGz5;have d1:=cellS90_1 HGz5;have d2:=cellS90_2 HGz5;have d3:=blk_frozen HGz5 1;have d4:=blk_frozen HGz5 2;clear HGz5 hgz5;go_enter Try.func105,Try.ntmps105;go_wp2
  repeat(go_quiet (fail);try go_wp2)
  go_ret;exact⟨rE,q2x2,q2x3,cK⟩
def spec_l01Below.f (s0_0:List Int) (s0_1:Int) (s0_2:Int) (n:Int):Option (Int×Int×Int):=if n≤0 then(some (0,s0_1,s0_2))else(if n≤256 then((spec_l01Byte.f s0_0 s0_1 s0_2).bind fun bi=>(if n=0 then(none)else(some (Int.tmod bi.1 n,bi.2.1,bi.2.2))))else((spec_l01Byte.f s0_0 s0_1 s0_2).bind fun bj=>((spec_l01Byte.f s0_0 bj.2.1 bj.2.2).bind fun bk=>((spec_l01Byte.f s0_0 bk.2.1 bk.2.2).bind fun bl=>((spec_l01Byte.f s0_0 bl.2.1 bl.2.2).bind fun bm=>(if n=0 then(none)else(some (Int.tmod (wrap64 ((wrap64 ((wrap64 ((wrap64 (bj.1*16777216))+(wrap64 (bk.1*65536))))+(wrap64 (bl.1*256))))+bm.1)) n,bm.2.1,bm.2.2))))))))
set_option maxHeartbeats 8000000 in
set_option maxRecDepth 100000 in
theorem spec_l01Below.calls (g:Nat) (s0_0:List Int) (s0_1:Int) (s0_2:Int) (n:Int) (r1:Int) (r2:Int) (r3:Int) (b w:World) (hI:IsS90 b w g s0_0 s0_1 s0_2) (hB:Below b.heap.size b w) (h:spec_l01Below.f s0_0 s0_1 s0_2 n=some (r1,r2,r3)) :
 Calls Try.prog 80 #[.pointer (some ⟨g,0,none⟩),.int .i64 n] w fun e w'=>e= .returned (.int .i64 r1)∧IsS90 b w' g s0_0 r2 r3∧Below b.heap.size b w'∧KeepBut w w' g none:=by
 have HI0:=aM hI;have HK:=aM (KeepBut.refl w g none);have HL:=aM hB.size;clear hI;have HW0:=aM hB.size;have HB:=aM hB;clear hB
 unfold spec_l01Below.f at h;have H:=h
 clear h;by_cases L:n≤0
 ·rw[if_pos L]at H;have aJ:=decide_eq_true L;clear L;simp only[Option.some.injEq,Prod.mk.injEq]at H;obtain⟨rfl,rfl,rfl⟩:=H;go_enter Try.func80,Try.ntmps80;go_wp2;go_ret;exact⟨rE,q2x2,q2x3,cK⟩
 ·rw[if_neg L]at H;have aJ:=decide_eq_false L;clear L;by_cases D:n≤256
  ·rw[if_pos D]at H;have aC:=decide_eq_true D;clear D;replace H:=bE H;obtain⟨⟨cP,cQ,cR⟩,bn,H⟩:=H;(try dsimp only at H);by_cases bo:n=0
   ·rw[if_pos bo]at H;cases H
   ·rw[if_neg bo]at H;obtain⟨d5,d6⟩:=eF bo;simp only[Option.some.injEq,Prod.mk.injEq]at H;obtain⟨rfl,rfl,rfl⟩:=H;go_enter Try.func80,Try.ntmps80
    go_wp2_with (first|((with_reducible refine gF 105 ?_);refine gX (some 14) Try.func105 (spec_l01Byte.calls g s0_0 s0_1 s0_2 cP cQ cR b _ q2x2 q2x3 bn.out) ?_;rintro cS ⟨hi,hb,hk⟩;replace HK:=tK (w:=w) hk;replace HB:=aM hb;replace HI0:=aM hi;(try clear hb);(try clear hk);(try clear hi)))
    go_ret;exact⟨rE,q2x2,q2x3,cK⟩
  ·rw[if_neg D]at H;have aC:=decide_eq_false D;clear D;replace H:=bE H;obtain⟨⟨cT,bY,bZ⟩,cU,H⟩:=H;(try dsimp only at H);replace H:=bE H;obtain⟨⟨cV,b0,b1⟩,cW,H⟩:=H;(try dsimp only at H);replace H:=bE H;obtain⟨⟨cX,b5,b8⟩,cY,H⟩:=H;(try dsimp only at H);replace H:=bE H;obtain⟨⟨cZ,c0,c1⟩,c2,H⟩:=H;(try dsimp only at H);by_cases bp:n=0
   ·rw[if_pos bp]at H;cases H
   ·rw[if_neg bp]at H;obtain⟨d7,d8⟩:=eF bp;simp only[Option.some.injEq,Prod.mk.injEq]at H;obtain⟨rfl,rfl,rfl⟩:=H;go_enter Try.func80,Try.ntmps80
    go_wp2_with (first|((with_reducible refine gF 105 ?_);refine gX (some 18) Try.func105 (spec_l01Byte.calls g s0_0 s0_1 s0_2 cT bY bZ b _ q2x2 q2x3 cU.out) ?_;rintro b9 ⟨hi,hb,hk⟩;replace HK:=tK (w:=w) hk;replace HB:=aM hb;replace HI0:=aM hi;(try clear hb);(try clear hk);(try clear hi))|((with_reducible refine gF 105 ?_);refine gX (some 20) Try.func105 (spec_l01Byte.calls g s0_0 bY bZ cV b0 b1 b _ q2x2 q2x3 cW.out) ?_;rintro d9 ⟨hi,hb,hk⟩;replace HK:=tK (w:=w) hk;replace HB:=aM hb;replace HI0:=aM hi;(try clear hb);(try clear hk);(try clear hi))|((with_reducible refine gF 105 ?_);refine gX (some 22) Try.func105 (spec_l01Byte.calls g s0_0 b0 b1 cX b5 b8 b _ q2x2 q2x3 cY.out) ?_;rintro ea ⟨hi,hb,hk⟩;replace HK:=tK (w:=w) hk;replace HB:=aM hb;replace HI0:=aM hi;(try clear hb);(try clear hk);(try clear hi))|((with_reducible refine gF 105 ?_);refine gX (some 24) Try.func105 (spec_l01Byte.calls g s0_0 b5 b8 cZ c0 c1 b _ q2x2 q2x3 c2.out) ?_;rintro eb ⟨hi,hb,hk⟩;replace HK:=tK (w:=w) hk;replace HB:=aM hb;replace HI0:=aM hi;(try clear hb);(try clear hk);(try clear hi)))
    go_ret;exact⟨rE,q2x2,q2x3,cK⟩
def spec_l01PickInt.f (s0_0:List Int) (s0_1:Int) (s0_2:Int) (X:List Int):Option (Int×Int×Int):=(spec_l01Below.f s0_0 s0_1 s0_2 (X.length:Int)).bind fun aD=>(if 0≤aD.1 then(if aD.1<(X.length:Int)then(some (rd X aD.1,aD.2.1,aD.2.2))else(none))else(none))
set_option maxHeartbeats 8000000 in
set_option maxRecDepth 100000 in
theorem spec_l01PickInt.calls (g:Nat) (s0_0:List Int) (s0_1:Int) (s0_2:Int) (bq:Option Addr) (ca:Nat) (X:List Int) (r1:Int) (r2:Int) (r3:Int) (b w:World) (hI:IsS90 b w g s0_0 s0_1 s0_2) (hB:Below b.heap.size b w) (cb:Kd.C (Kd.int .i64) w bq X.length X) (cc:X.length≤ca) (hf1: ∀ ad,bq=some ad→0<X.length→ad.block≠g) (h:spec_l01PickInt.f s0_0 s0_1 s0_2 X=some (r1,r2,r3)) :
 Calls Try.prog 72 #[.pointer (some ⟨g,0,none⟩),.slice bq X.length ca] w fun e w'=>e= .returned (.int .i64 r1)∧IsS90 b w' g s0_0 r2 r3∧Below b.heap.size b w'∧KeepBut w w' g none:=by
 have HR1:=aM cb;have HC1:=aM cc;clear cb cc;have HI0:=aM hI;have HK:=aM (KeepBut.refl w g none);have HL:=aM hB.size;clear hI;have HW0:=aM hB.size;have HB:=aM hB;clear hB
 unfold spec_l01PickInt.f at h;have H:=h
 clear h;replace H:=bE H;obtain⟨⟨aR,c3,c4⟩,Y,H⟩:=H;(try dsimp only at H);replace H:=gD H;obtain⟨aC,H⟩:=H;replace H:=gD H;obtain⟨ec,H⟩:=H;simp only[Option.some.injEq,Prod.mk.injEq]at H;obtain⟨rfl,rfl,rfl⟩:=H;go_enter Try.func72,Try.ntmps72
 go_wp2_with (first|((with_reducible refine gF 80 ?_);refine gX (some 9) Try.func80 (spec_l01Below.calls g s0_0 s0_1 s0_2 (X.length:Int) aR c3 c4 b _ q2x2 q2x3 Y.out) ?_;rintro bf ⟨hi,hb,hk⟩;replace HK:=tK (w:=w) hk;replace HB:=aM hb;replace HI0:=aM hi;(try clear hb);(try clear hk);(try clear hi);have br:0≤(aR:Int):=dA;have bs:aR<(X.length:Int):=dA;obtain⟨c6,da,cd⟩:=at_int HR1.out aR br bs;cases da;replace cd:=keep_cell HK.out cd (by first|(rw[add_block];exact hf1 _ rfl (by omega))|exact hf1 _ rfl (by omega)|exact hf1 c6 rfl (by omega));replace br:=eq_true br;replace bs:=eq_true bs))
 go_ret;exact⟨rE,q2x2,q2x3,cK⟩
def spec_l01Once.f (s0_0:List Int) (s0_1:Int) (s0_2:Int) (n:Int):Option (Bool×Int×Int):=(spec_l01Below.f s0_0 s0_1 s0_2 n).bind fun bu=>(some ((bu.1 == 0),bu.2.1,bu.2.2))
set_option maxHeartbeats 8000000 in
set_option maxRecDepth 100000 in
theorem spec_l01Once.calls (g:Nat) (s0_0:List Int) (s0_1:Int) (s0_2:Int) (n:Int) (r1:Bool) (r2:Int) (r3:Int) (b w:World) (hI:IsS90 b w g s0_0 s0_1 s0_2) (hB:Below b.heap.size b w) (h:spec_l01Once.f s0_0 s0_1 s0_2 n=some (r1,r2,r3)) :
 Calls Try.prog 69 #[.pointer (some ⟨g,0,none⟩),.int .i64 n] w fun e w'=>e= .returned (.bool r1)∧IsS90 b w' g s0_0 r2 r3∧Below b.heap.size b w'∧KeepBut w w' g none:=by
 have HI0:=aM hI;have HK:=aM (KeepBut.refl w g none);have HL:=aM hB.size;clear hI;have HW0:=aM hB.size;have HB:=aM hB;clear hB
 unfold spec_l01Once.f at h;have H:=h
 clear h;replace H:=bE H;obtain⟨⟨db,dc,dd⟩,Y,H⟩:=H;(try dsimp only at H);simp only[Option.some.injEq,Prod.mk.injEq]at H;obtain⟨rfl,rfl,rfl⟩:=H;go_enter Try.func69,Try.ntmps69
 go_wp2_with (first|((with_reducible refine gF 80 ?_);refine gX (some 7) Try.func80 (spec_l01Below.calls g s0_0 s0_1 s0_2 n db dc dd b _ q2x2 q2x3 Y.out) ?_;rintro bv ⟨hi,hb,hk⟩;replace HK:=tK (w:=w) hk;replace HB:=aM hb;replace HI0:=aM hi;(try clear hb);(try clear hk);(try clear hi)))
 go_ret;exact⟨rE,q2x2,q2x3,cK⟩
def spec_l04Half.f (s0_0:List Int) (s0_1:Int) (s0_2:Int):Option (Int×Int×Int):=(spec_l01Below.f s0_0 s0_1 s0_2 12).bind fun bw=>((spec_l01PickInt.f s0_0 bw.2.1 bw.2.2 (([0,1,2,3,5,7,255,4294967295,2147483648,bw.1] :List Int))).bind fun bx=>(some (bx.1,bx.2.1,bx.2.2)))
set_option maxHeartbeats 8000000 in
set_option maxRecDepth 100000 in
theorem spec_l04Half.calls (g:Nat) (s0_0:List Int) (s0_1:Int) (s0_2:Int) (r1:Int) (r2:Int) (r3:Int) (b w:World) (hI:IsS90 b w g s0_0 s0_1 s0_2) (hB:Below b.heap.size b w) (h:spec_l04Half.f s0_0 s0_1 s0_2=some (r1,r2,r3)) :
 Calls Try.prog 104 #[.pointer (some ⟨g,0,none⟩)] w fun e w'=>e= .returned (.int .i64 r1)∧IsS90 b w' g s0_0 r2 r3∧Below b.heap.size b w'∧KeepBut w w' g none:=by
 have HI0:=aM hI;have HK:=aM (KeepBut.refl w g none);have HL:=aM hB.size;clear hI;have HW0:=aM hB.size;have HB:=aM hB;clear hB
 unfold spec_l04Half.f at h;have H:=h
 clear h;replace H:=bE H;obtain⟨⟨ar,bz,bA⟩,aa,H⟩:=H;(try dsimp only at H);obtain⟨de,bB⟩ : ∃ y_:List Int,Aside0 (y_=(([0,1,2,3,5,7,255,4294967295,2147483648,ar] :List Int))):=⟨_,⟨rfl⟩⟩;rw[← bB.out]at H;replace H:=bE H;obtain⟨⟨df,dg,dh⟩,Y,H⟩:=H;(try dsimp only at H);simp only[Option.some.injEq,Prod.mk.injEq]at H;obtain⟨rfl,rfl,rfl⟩:=H;go_enter Try.func104,Try.ntmps104
 go_wp2_with (first|((with_reducible refine gF 80 ?_);refine gX (some 5) Try.func80 (spec_l01Below.calls g s0_0 s0_1 s0_2 12 ar bz bA b _ q2x2 q2x3 aa.out) ?_;rintro bv ⟨hi,hb,hk⟩;replace HK:=tK (w:=w) hk;replace HB:=aM hb;replace HI0:=aM hi;(try clear hb);(try clear hk);(try clear hi))|((with_reducible refine gN 6 ?_);refine R_lit (Kd.int .i64) _ 3 ?hg (N:=6) ?hd (xs:=([0,1,2,3,5,7,255,4294967295,2147483648,ar] :List Int)) (inner:=[.int .i64 0,.int .i64 1,.int .i64 2,.int .i64 3,.int .i64 5,.int .i64 7,.int .i64 255,.int .i64 4294967295,.int .i64 2147483648,.int .i64 ar]) (ok:=fun _=>True) (okp:=fun _=>True) ?hr ?hp (fun _ hk=>hk) trivial (Below.refl _ _) (Nat.le_refl _) (by simp) ?_;(case hd=>rfl);(case hg=>rfl);(case hr=>exact rG);(case hp=>exact(Reps.one (show Kd.M (Kd.int .i64) _ _ _ 0 [.int .i64 0]from rfl) (Reps.one (show Kd.M (Kd.int .i64) _ _ _ 1 [.int .i64 1]from rfl) (Reps.one (show Kd.M (Kd.int .i64) _ _ _ 2 [.int .i64 2]from rfl) (Reps.one (show Kd.M (Kd.int .i64) _ _ _ 3 [.int .i64 3]from rfl) (Reps.one (show Kd.M (Kd.int .i64) _ _ _ 5 [.int .i64 5]from rfl) (Reps.one (show Kd.M (Kd.int .i64) _ _ _ 7 [.int .i64 7]from rfl) (Reps.one (show Kd.M (Kd.int .i64) _ _ _ 255 [.int .i64 255]from rfl) (Reps.one (show Kd.M (Kd.int .i64) _ _ _ 4294967295 [.int .i64 4294967295]from rfl) (Reps.one (show Kd.M (Kd.int .i64) _ _ _ 2147483648 [.int .i64 2147483648]from rfl) (Reps.one (show Kd.M (Kd.int .i64) _ _ _ ar [.int .i64 ar]from rfl) (Reps.none _ _))))))))))));intro ed be ab hb hg_ hnew_;clear hg_ hnew_;(first|rw[← bB.out]at ab|(simp only[Int.reduceToNat]at ab;rw[← bB.out]at ab));have au:=aM (R_lower ab (keep_size (w:=w) (g:=g) (row:=none) cK));replace HK:=aM (KeepBut.trans (cK:KeepBut w _ g none) (KeepBut.of_below hb g none) (.inl rfl));replace HB:=aM (below_step q2x3 hb);replace HI0:=aM (IsS90.below q2x2 hb);clear hb ab;obtain⟨di,dj,bC⟩:=R_slice au.out;subst bC)|((with_reducible refine gF 72 ?_);refine gX (some 7) Try.func72 (spec_l01PickInt.calls g s0_0 bz bA _ _ de df dg dh b _ q2x2 q2x3 (rX au) ((rY au)) (far_slice (IsS90.own_ne HI0.out au.out (by decide))) Y.out) ?_;rintro ce ⟨hi,hb,hk⟩;replace au:=aM (R_mono (R_keep (IsS90.apart (show IsS90 b _ g s0_0 bz bA from q2x2) (mR au) (by decide)) hk (fun _ h=>h.2)) (fun _ h=>h.1));replace HK:=tK (w:=w) hk;replace HB:=aM hb;replace HI0:=aM hi;(try clear hb);(try clear hk);(try clear hi)))
 go_ret;exact⟨rE,q2x2,q2x3,cK⟩
def spec_l04Wide.f (s0_0:List Int) (s0_1:Int) (s0_2:Int):Option (Int×Int×Int×Int):=(spec_l04Half.f s0_0 s0_1 s0_2).bind fun aT=>((spec_l01Once.f s0_0 aT.2.1 aT.2.2 3).bind fun aE=>(if aE.1=true then((spec_l04Half.f s0_0 aE.2.1 aE.2.2).bind fun bD=>(some (bD.1,aT.1,bD.2.1,bD.2.2)))else(some (0,aT.1,aE.2.1,aE.2.2))))
theorem q2x4 {P:Prop} (h:P:=by repeat(first|(with_reducible first|exact HI0.out|apply IsS90.alloc|apply IsS90.drewN|apply IsS90.drew|apply IsS90.set_1|apply IsS90.set_2|(apply IsS90.far;case hne=>exact(Aside0.out (by assumption))))|exact HI0.out)):P:=h
theorem q2x5 {P:Prop} (h:P:=by repeat(first|(with_reducible first|exact HB.out|apply below_alloc|apply pw_below_drewN|apply below_drew1|refine below_set ?_ (IsS90.ge HI0.out)|refine below_set ?_ (Aside0.out (by assumption)))|exact HB.out)):P:=h
set_option maxHeartbeats 8000000 in
set_option maxRecDepth 100000 in
theorem spec_l04Wide.calls (g:Nat) (s0_0:List Int) (s0_1:Int) (s0_2:Int) (r1:Int) (r2:Int) (r3:Int) (r4:Int) (b w:World) (hI:IsS90 b w g s0_0 s0_1 s0_2) (hB:Below b.heap.size b w) (h:spec_l04Wide.f s0_0 s0_1 s0_2=some (r1,r2,r3,r4)) :
 Calls Try.prog 73 #[.pointer (some ⟨g,0,none⟩)] w fun e w'=>e= .returned (.agg #[.int .i64 r1,.int .i64 r2])∧IsS90 b w' g s0_0 r3 r4∧Below b.heap.size b w'∧KeepBut w w' g none:=by
 have hu93:=Try.underlying93;have HI0:=aM hI;have HK:=aM (KeepBut.refl w g none);have HL:=aM hB.size;clear hI;have HW0:=aM hB.size;have HB:=aM hB;clear hB
 unfold spec_l04Wide.f at h;have H:=h
 clear h;replace H:=bE H;obtain⟨⟨av,ai,aj⟩,aa,H⟩:=H;(try dsimp only at H);replace H:=bE H;obtain⟨⟨dk,bF,bG⟩,Y,H⟩:=H;(try dsimp only at H);by_cases D:dk=true
 ·subst D;replace H:=iT H;replace H:=bE H;obtain⟨⟨cf,dl,dm⟩,bn,H⟩:=H;(try dsimp only at H);simp only[Option.some.injEq,Prod.mk.injEq]at H;obtain⟨rfl,rfl,rfl,rfl⟩:=H;go_enter Try.func73,Try.ntmps73
  go_wp2_with (first|((with_reducible refine gN 2 ?_);refine boxZ 2 #[.int .i64 0,.int .i64 0] 93 ?_;intro am hg bf hbox hb;replace HB:=aM (below_step q2x3 hb);have y:=aM hbox;have GW136:=gK (w:=w) hg;have GE136:=gW HW0 hg;replace HK:=aM (KeepBut.trans (cK:KeepBut w _ g none) (KeepBut.of_below hb g none) (.inl rfl));have bH:=aM ((by rw[hg];exact Nat.ne_of_lt (IsS90.lt (show IsS90 b _ g s0_0 s0_1 s0_2 from q2x2)):g≠am));have ak:=aM ((by rw[hg];exact Nat.ne_of_gt (IsS90.lt (show IsS90 b _ g s0_0 s0_1 s0_2 from q2x2)):am≠g));replace HI0:=aM (IsS90.below q2x2 hb);clear hb hbox hg)|((with_reducible refine gF 104 ?_);refine gX (some 5) Try.func104 (spec_l04Half.calls g s0_0 s0_1 s0_2 av ai aj b _ q2x4 q2x5 aa.out) ?_;rintro cS ⟨hi,hb,hk⟩;replace y:=bK hk y ak.out;replace HK:=tK (w:=w) hk;replace HB:=aM hb;replace HI0:=aM hi;(try clear hb);(try clear hk);(try clear hi))|((with_reducible refine gN 3 ?_);refine boxZ 3 #[.int .i64 0,.int .i64 0] 93 ?_;intro an hg ce hbox hb;replace HB:=aM (below_step q2x5 hb);have ac:=aM hbox;have GW140:=gK (w:=w) hg;have GE140:=gW HW0 hg;replace HK:=aM (KeepBut.trans (cK:KeepBut w _ g none) (KeepBut.of_below hb g none) (.inl rfl));have bI:=nL hg y;have bJ:=nG hg y;replace y:=kB y hb;have bL:=aM ((by rw[hg];exact Nat.ne_of_lt (IsS90.lt (show IsS90 b _ g s0_0 ai aj from q2x4)):g≠an));have aw:=aM ((by rw[hg];exact Nat.ne_of_gt (IsS90.lt (show IsS90 b _ g s0_0 ai aj from q2x4)):an≠g));replace HI0:=aM (IsS90.below q2x4 hb);clear hb hbox hg;have hnb9:=bJ.out;have hnc9:=bI.out;have hnb10:=aw.out;have hnc10:=bL.out;obtain⟨ee,ef,eg,eh⟩:=cz2 ac)|((with_reducible refine gF 69 ?_);refine gX (some 8) Try.func69 (spec_l01Once.calls g s0_0 ai aj 3 true bF bG b _ q2x4 q2x5 Y.out) ?_;rintro dn ⟨hi,hb,hk⟩;replace y:=bK hk y ak.out;replace ac:=aM (KeepBut.blk hk (g':=an) (o:= .cells #[.int .i64 0,.int .i64 av] 93 (0,0)) (kS ac _) aw.out (by simp));replace HK:=tK (w:=w) hk;replace HB:=aM hb;replace HI0:=aM hi;(try clear hb);(try clear hk);(try clear hi))|((with_reducible refine gF 104 ?_);refine gX (some 10) Try.func104 (spec_l04Half.calls g s0_0 bF bG cf dl dm b _ q2x4 q2x5 bn.out) ?_;rintro b9 ⟨hi,hb,hk⟩;replace y:=bK hk y ak.out;replace ac:=bK hk ac aw.out;replace HK:=tK (w:=w) hk;replace HB:=aM hb;replace HI0:=aM hi;(try clear hb);(try clear hk);(try clear hi);obtain⟨ei,ej,ek,el⟩:=cz2 ac;have hnb15:=ak.out;have hnc15:=bH.out;obtain⟨cg,ch,ci,cj⟩:=cz2 y))
  refine bodyPost_ret (results_cell_row rfl _ _ am 93 #[.int .i64 cf,.int .i64 av] (0,0) _ rfl (kS y _) Try.underlying93 rfl (by kernel_rfl)) rfl ?_
  exact⟨rE,q2x4,q2x5,cK⟩
 ·replace D:=Bool.eq_false_iff.mpr D;subst D;replace H:=iF H;simp only[Option.some.injEq,Prod.mk.injEq]at H;obtain⟨rfl,rfl,rfl,rfl⟩:=H;go_enter Try.func73,Try.ntmps73
  go_wp2_with (first|((with_reducible refine gN 2 ?_);refine boxZ 2 #[.int .i64 0,.int .i64 0] 93 ?_;intro am hg em hbox hb;replace HB:=aM (below_step q2x3 hb);have y:=aM hbox;have GW136:=gK (w:=w) hg;have GE136:=gW HW0 hg;replace HK:=aM (KeepBut.trans (cK:KeepBut w _ g none) (KeepBut.of_below hb g none) (.inl rfl));have bH:=aM ((by rw[hg];exact Nat.ne_of_lt (IsS90.lt (show IsS90 b _ g s0_0 s0_1 s0_2 from q2x2)):g≠am));have ak:=aM ((by rw[hg];exact Nat.ne_of_gt (IsS90.lt (show IsS90 b _ g s0_0 s0_1 s0_2 from q2x2)):am≠g));replace HI0:=aM (IsS90.below q2x2 hb);clear hb hbox hg)|((with_reducible refine gF 104 ?_);refine gX (some 5) Try.func104 (spec_l04Half.calls g s0_0 s0_1 s0_2 av ai aj b _ q2x4 q2x5 aa.out) ?_;rintro en ⟨hi,hb,hk⟩;replace y:=bK hk y ak.out;replace HK:=tK (w:=w) hk;replace HB:=aM hb;replace HI0:=aM hi;(try clear hb);(try clear hk);(try clear hi))|((with_reducible refine gN 3 ?_);refine boxZ 3 #[.int .i64 0,.int .i64 0] 93 ?_;intro an hg eo hbox hb;replace HB:=aM (below_step q2x5 hb);have ac:=aM hbox;have GW140:=gK (w:=w) hg;have GE140:=gW HW0 hg;replace HK:=aM (KeepBut.trans (cK:KeepBut w _ g none) (KeepBut.of_below hb g none) (.inl rfl));have bI:=nL hg y;have bJ:=nG hg y;replace y:=kB y hb;have bL:=aM ((by rw[hg];exact Nat.ne_of_lt (IsS90.lt (show IsS90 b _ g s0_0 ai aj from q2x4)):g≠an));have aw:=aM ((by rw[hg];exact Nat.ne_of_gt (IsS90.lt (show IsS90 b _ g s0_0 ai aj from q2x4)):an≠g));replace HI0:=aM (IsS90.below q2x4 hb);clear hb hbox hg;have hnb20:=bJ.out;have hnc20:=bI.out;have hnb21:=aw.out;have hnc21:=bL.out;obtain⟨ep,eq,er,es⟩:=cz2 ac)|((with_reducible refine gF 69 ?_);refine gX (some 8) Try.func69 (spec_l01Once.calls g s0_0 ai aj 3 false bF bG b _ q2x4 q2x5 Y.out) ?_;rintro et ⟨hi,hb,hk⟩;replace y:=bK hk y ak.out;replace ac:=aM (KeepBut.blk hk (g':=an) (o:= .cells #[.int .i64 0,.int .i64 av] 93 (0,0)) (kS ac _) aw.out (by simp));replace HK:=tK (w:=w) hk;replace HB:=aM hb;replace HI0:=aM hi;(try clear hb);(try clear hk);(try clear hi);obtain⟨eu,ev,ew,ex⟩:=cz2 ac;have hnb25:=ak.out;have hnc25:=bH.out;obtain⟨ey,ez,eA,eC⟩:=cz2 y))
  refine bodyPost_ret (results_cell_row rfl _ _ am 93 #[.int .i64 0,.int .i64 av] (0,0) _ rfl (kS y _) Try.underlying93 rfl (by kernel_rfl)) rfl ?_
  exact⟨rE,q2x4,q2x5,cK⟩
def spec_l04Call.l0:Nat→Int→List Int→Int→Int→Int→Int→List (S93)→Option (Int×Int×(List (S93))×Int×Int)
  | 0,_,_,_,_,_,_,_=>none
  | k+1,ag,ck,cl,cm,cn,co,bM=>if ag<3 then((spec_l04Wide.f ck cl cm).bind fun aU=>(if bM.length<8796093022208 then(spec_l04Call.l0 k (wrap64 (ag+1)) ck aU.2.2.1 aU.2.2.2 cn co (bM ++ [(⟨aU.1,aU.2.1⟩ :S93)]))else(none)))else(some (cn,co,bM,cl,cm))
def spec_l04Call.f (k:Nat) (s0_0:List Int) (s0_1:Int) (s0_2:Int):Option (Int×Int×(List (S93))×Int×Int):=(spec_l01PickInt.f s0_0 s0_1 s0_2 (([62,62,62,62,3] :List Int))).bind fun bN=>((spec_l01PickInt.f s0_0 bN.2.1 bN.2.2 (([0,1,2,3,4,6,9,11,4294967295,77] :List Int))).bind fun bO=>(spec_l04Call.l0 k 0 s0_0 bO.2.1 bO.2.2 bN.1 bO.1 ([] :List (S93))))
set_option maxHeartbeats 8000000 in
set_option maxRecDepth 100000 in
theorem spec_l04Call.calls (k:Nat) (g:Nat) (s0_0:List Int) (s0_1:Int) (s0_2:Int) (r1:Int) (r2:Int) (r3:List (S93)) (r4:Int) (r5:Int) (b w:World) (hI:IsS90 b w g s0_0 s0_1 s0_2) (hB:Below b.heap.size b w) (h:spec_l04Call.f k s0_0 s0_1 s0_2=some (r1,r2,r3,r4,r5)) :
 Calls Try.prog 37 #[.pointer (some ⟨g,0,none⟩)] w fun e w'=> ∃ v2_:Value,e= .returned (.agg #[.int .i64 r1,.int .i64 r2,v2_])∧Kd.R k93 93 w' w.heap.size (fun _=>True) v2_ r3∧IsS90 b w' g s0_0 r4 r5∧Below b.heap.size b w'∧KeepBut w w' g none:=by
 have hu28:=Try.underlying28;have hu93:=Try.underlying93;have HI0:=aM hI;have HK:=aM (KeepBut.refl w g none);have HL:=aM hB.size;clear hI;have HW0:=aM hB.size;have HB:=aM hB;clear hB
 unfold spec_l04Call.f at h;have H:=h
 clear h;obtain⟨dp,bP⟩ : ∃ y_:List Int,Aside0 (y_=(([62,62,62,62,3] :List Int))):=⟨_,⟨rfl⟩⟩;rw[← bP.out]at H;replace H:=bE H;obtain⟨⟨aV,aW,aX⟩,aa,H⟩:=H;(try dsimp only at H);obtain⟨dq,bQ⟩ : ∃ y_:List Int,Aside0 (y_=(([0,1,2,3,4,6,9,11,4294967295,77] :List Int))):=⟨_,⟨rfl⟩⟩;rw[← bQ.out]at H;replace H:=bE H;obtain⟨⟨aY,aZ,a0⟩,Y,H⟩:=H;(try dsimp only at H);have H':=aM H;clear H;go_enter Try.func37,Try.ntmps37
 go_wp2_with (first|((with_reducible refine gN 2 ?_);refine boxZ 2 #[.int .i64 0,.int .i64 0,.slice none 0 0] 28 ?_;intro a1 hg bv hbox hb;replace HB:=aM (below_step q2x3 hb);have s:=aM hbox;have GW147:=gK (w:=w) hg;have GE147:=gW HW0 hg;replace HK:=aM (KeepBut.trans (cK:KeepBut w _ g none) (KeepBut.of_below hb g none) (.inl rfl));have dr:=aM ((by rw[hg];exact Nat.ne_of_lt (IsS90.lt (show IsS90 b _ g s0_0 s0_1 s0_2 from q2x2)):g≠a1));have a2:=aM ((by rw[hg];exact Nat.ne_of_gt (IsS90.lt (show IsS90 b _ g s0_0 s0_1 s0_2 from q2x2)):a1≠g));replace HI0:=aM (IsS90.below q2x2 hb);clear hb hbox hg)|((with_reducible refine gN 7 ?_);refine R_lit (Kd.int .i64) _ 3 ?hg (N:=7) ?hd (xs:=([62,62,62,62,3] :List Int)) (inner:=[.int .i64 62,.int .i64 62,.int .i64 62,.int .i64 62,.int .i64 3]) (ok:=fun _=>True) (okp:=fun _=>True) ?hr ?hp (fun _ hk=>hk) trivial (Below.refl _ _) (Nat.le_refl _) (by simp) ?_;(case hd=>rfl);(case hg=>rfl);(case hr=>exact rG);(case hp=>exact(Reps.one (show Kd.M (Kd.int .i64) _ _ _ 62 [.int .i64 62]from rfl) (Reps.one (show Kd.M (Kd.int .i64) _ _ _ 62 [.int .i64 62]from rfl) (Reps.one (show Kd.M (Kd.int .i64) _ _ _ 62 [.int .i64 62]from rfl) (Reps.one (show Kd.M (Kd.int .i64) _ _ _ 62 [.int .i64 62]from rfl) (Reps.one (show Kd.M (Kd.int .i64) _ _ _ 3 [.int .i64 3]from rfl) (Reps.none _ _)))))));intro eD be ab hb hg_ hnew_;clear hg_ hnew_;(first|rw[← bP.out]at ab|(simp only[Int.reduceToNat]at ab;rw[← bP.out]at ab));have O:=aM (R_lower ab (keep_size (w:=w) (g:=g) (row:=none) cK));replace s:=kB s hb;replace HK:=aM (KeepBut.trans (cK:KeepBut w _ g none) (KeepBut.of_below hb g none) (.inl rfl));replace HB:=aM (below_step q2x5 hb);replace HI0:=aM (IsS90.below q2x4 hb);clear hb ab;obtain⟨di,dj,bC⟩:=R_slice O.out;subst bC)|((with_reducible refine gF 72 ?_);refine gX (some 8) Try.func72 (spec_l01PickInt.calls g s0_0 s0_1 s0_2 _ _ dp aV aW aX b _ q2x4 q2x5 (rX O) ((rY O)) (far_slice (IsS90.own_ne HI0.out O.out (by decide))) aa.out) ?_;rintro ce ⟨hi,hb,hk⟩;replace s:=bK hk s a2.out;replace O:=aM (R_mono (R_keep (IsS90.apart (show IsS90 b _ g s0_0 s0_1 s0_2 from q2x4) (mR O) (by decide)) hk (fun _ h=>h.2)) (fun _ h=>h.1));replace HK:=tK (w:=w) hk;replace HB:=aM hb;replace HI0:=aM hi;(try clear hb);(try clear hk);(try clear hi))|((with_reducible refine gN 10 ?_);refine R_lit (Kd.int .i64) _ 3 ?hg (N:=10) ?hd (xs:=([0,1,2,3,4,6,9,11,4294967295,77] :List Int)) (inner:=[.int .i64 0,.int .i64 1,.int .i64 2,.int .i64 3,.int .i64 4,.int .i64 6,.int .i64 9,.int .i64 11,.int .i64 4294967295,.int .i64 77]) (ok:=fun _=>True) (okp:=fun _=>True) ?hr ?hp (fun _ hk=>hk) trivial (Below.refl _ _) (Nat.le_refl _) (by simp) ?_;(case hd=>rfl);(case hg=>rfl);(case hr=>exact rG);(case hp=>exact(Reps.one (show Kd.M (Kd.int .i64) _ _ _ 0 [.int .i64 0]from rfl) (Reps.one (show Kd.M (Kd.int .i64) _ _ _ 1 [.int .i64 1]from rfl) (Reps.one (show Kd.M (Kd.int .i64) _ _ _ 2 [.int .i64 2]from rfl) (Reps.one (show Kd.M (Kd.int .i64) _ _ _ 3 [.int .i64 3]from rfl) (Reps.one (show Kd.M (Kd.int .i64) _ _ _ 4 [.int .i64 4]from rfl) (Reps.one (show Kd.M (Kd.int .i64) _ _ _ 6 [.int .i64 6]from rfl) (Reps.one (show Kd.M (Kd.int .i64) _ _ _ 9 [.int .i64 9]from rfl) (Reps.one (show Kd.M (Kd.int .i64) _ _ _ 11 [.int .i64 11]from rfl) (Reps.one (show Kd.M (Kd.int .i64) _ _ _ 4294967295 [.int .i64 4294967295]from rfl) (Reps.one (show Kd.M (Kd.int .i64) _ _ _ 77 [.int .i64 77]from rfl) (Reps.none _ _))))))))))));intro eE eG ax hb hg_ hnew_;clear hg_ hnew_;(first|rw[← bQ.out]at ax|(simp only[Int.reduceToNat]at ax;rw[← bQ.out]at ax));have al:=aM (R_lower (R_new' ax (R_lt (mR O))) (keep_size (w:=w) (g:=g) (row:=none) cK));replace O:=eB O (R_base ax) hb;replace s:=kB s hb;replace HK:=aM (KeepBut.trans (cK:KeepBut w _ g none) (KeepBut.of_below hb g none) (.inl rfl));replace HB:=aM (below_step q2x5 hb);replace HI0:=aM (IsS90.below q2x4 hb);clear hb ax;obtain⟨eH,eI,ds⟩:=R_slice al.out;subst ds)|((with_reducible refine gF 72 ?_);refine gX (some 11) Try.func72 (spec_l01PickInt.calls g s0_0 aW aX _ _ dq aY aZ a0 b _ q2x4 q2x5 (rX al) ((rY al)) (far_slice (IsS90.own_ne HI0.out al.out (by decide))) Y.out) ?_;rintro dn ⟨hi,hb,hk⟩;replace s:=bK hk s a2.out;replace O:=aM (R_mono (R_keep (IsS90.apart (show IsS90 b _ g s0_0 aW aX from q2x4) (mR O) (by decide)) hk (fun _ h=>h.2)) (fun _ h=>h.1));replace al:=aM (R_mono (R_keep (IsS90.apart (show IsS90 b _ g s0_0 aW aX from q2x4) (mR al) (by decide)) hk (fun _ h=>h.2)) (fun _ h=>h.1));replace HK:=tK (w:=w) hk;replace HB:=aM hb;replace HI0:=aM hi;(try clear hb);(try clear hk);(try clear hi))|((with_reducible refine gN 3 ?_);refine boxZ 3 #[.int .i64 0,.int .i64 0,.slice none 0 0] 28 ?_;intro bR hg b9 hbox hb;replace O:=rB O hb;replace al:=rB al hb;replace HB:=aM (below_step q2x5 hb);have G:=aM hbox;have GW160:=gK (w:=w) hg;have GE160:=gW HW0 hg;replace HK:=aM (KeepBut.trans (cK:KeepBut w _ g none) (KeepBut.of_below hb g none) (.inl rfl));have bS:=nL hg s;have bT:=nG hg s;replace s:=kB s hb;have bU:=aM ((by rw[hg];exact Nat.ne_of_lt (IsS90.lt (show IsS90 b _ g s0_0 aZ a0 from q2x4)):g≠bR));have a3:=aM ((by rw[hg];exact Nat.ne_of_gt (IsS90.lt (show IsS90 b _ g s0_0 aZ a0 from q2x4)):bR≠g));replace HI0:=aM (IsS90.below q2x4 hb);clear hb hbox hg;have hnb14:=bT.out;have hnc14:=bS.out;have hnb15:=a3.out;have hnc15:=bU.out;obtain⟨cg,ch,dt,ci,cj,du⟩:=cz3 G))
 go_loopg [4] k (fun kq a9 w'=> ∃ (I:Int) (aG:Int) (aH:Int) (ay:List (S93)) (u161002:Value),a9= .int .i64 I∧Aside0 (spec_l04Call.l0 kq I s0_0 aG aH aV aY ay=some (r1,r2,r3,r4,r5))∧Aside0 (kq≤k)∧Aside0 (Kd.R k93 93 w' w.heap.size (fun _=>True) u161002 ay)∧Aside0 (w'.heap[a1]?=some (.cells #[.int .i64 0,.int .i64 0,(.slice none 0 0)] 28 (0,0)))∧Aside0 (w'.heap[bR]?=some (.cells #[.int .i64 aV,.int .i64 aY,u161002] 28 (0,0)))∧Aside0 (IsS90 b w' g s0_0 aG aH)∧Aside0 (KeepBut w w' g none)∧Aside0 (Below b.heap.size b w'))
 case atStart=>exact⟨(0),(aZ),(a0),(([] :List (S93))),(.slice none 0 0),rS,H',⟨Nat.le_refl _⟩,⟨by first|exact R_nil _ _ _ _ _|exact N_nil _ _ _ _ _|exact V_nil _ _ _ _ _|exact Q_nil _ _ _ _ _|exact S_nil _ _ _ _ _⟩,⟨mK s⟩,⟨kS G _⟩,⟨q2x4⟩,⟨cK⟩,⟨q2x5⟩⟩
 case round=>
  clear H';(try clear cg ch dt);(try clear ci cj du);(try clear G);obtain⟨I,aG,aH,ay,u161002,rfl,HA,HK1,U,s,G,HI0,HK,HB⟩:=hrel
  cases gk with
  | zero=>exact absurd HA.out (by simp[spec_l04Call.l0])
  | succ k1=>
   have H:=HA.out;clear HA;simp only[spec_l04Call.l0]at H;by_cases az:I<3
   ·rw[if_pos az]at H;have dv:=decide_eq_true az;clear az;replace H:=bE H;obtain⟨⟨ao,ap,a4,a5⟩,dw,H⟩:=H;(try dsimp only at H);replace H:=gC H;obtain⟨cp,H⟩:=H;have dx:=aM cp;clear cp;obtain⟨cq,cr⟩ : ∃ y_:List (S93),Aside0 (y_=(ay ++ [(⟨ao,ap⟩ :S93)])):=⟨_,⟨rfl⟩⟩;rw[← cr.out]at H;have H':=aM H;clear H
    go_wp2_with (first|((with_reducible refine gF 73 ?_);refine gX (some 18) Try.func73 (spec_l04Wide.calls g s0_0 aG aH ao ap a4 a5 b _ q2x4 q2x5 dw.out) ?_;rintro eJ ⟨hi,hb,hk⟩;replace U:=aM (R_mono (R_keep (IsS90.apart (show IsS90 b _ g s0_0 aG aH from q2x4) (mR U) (by decide)) hk (fun _ h=>h.2)) (fun _ h=>h.1));replace s:=bK hk s a2.out;replace G:=bK hk G a3.out;replace HK:=tK (w:=w) hk;replace HB:=aM hb;replace HI0:=aM hi;(try clear hb);(try clear hk);(try clear hi))|((with_reducible refine gN 5 ?_);refine boxZ 5 #[.int .i64 0,.int .i64 0] 93 ?_;intro aA hg eK hbox hb;replace U:=aM (R_below (R_elderB (mR U) aA (Nat.le_of_eq hg.symm)) hb);replace HB:=aM (below_step q2x5 hb);have a6:=aM hbox;have GW165:=gK (w:=w) hg;have GE165:=gW HW0 hg;replace HK:=aM (KeepBut.trans (cK:KeepBut w _ g none) (KeepBut.of_below hb g none) (.inl rfl));have dy:=nL hg s;have dz:=nG hg s;replace s:=kB s hb;have dC:=nL hg G;have dD:=nG hg G;replace G:=kB G hb;have dE:=aM ((by rw[hg];exact Nat.ne_of_lt (IsS90.lt (show IsS90 b _ g s0_0 a4 a5 from q2x4)):g≠aA));have dF:=aM ((by rw[hg];exact Nat.ne_of_gt (IsS90.lt (show IsS90 b _ g s0_0 a4 a5 from q2x4)):aA≠g));replace HI0:=aM (IsS90.below q2x4 hb);clear hb hbox hg;have hnb22:=dz.out;have hnc22:=dy.out;have hnb23:=dD.out;have hnc23:=dC.out;have hnb24:=dF.out;have hnc24:=dE.out;obtain⟨eL,eM,eN,eO⟩:=cz2 a6;have hnb26:=bT.out;have hnc26:=bS.out;have hnb27:=a3.out;have hnc27:=bU.out;obtain⟨eP,eQ,eR,eS,eU,eW⟩:=cz3 G)|((with_reducible refine gA 20 22 ?_);at_builtin;refine R_append k93 w.heap.size rfl (.tmp 20) (.tmp 22) 26 93 (.agg #[(.int .i64 0),(.int .i64 0)]) 16 rfl Try.underlying26 info93 rfl (by decide) (by omega) u161002 ay (⟨ao,ap⟩ :S93) [.int .i64 ao,.int .i64 ap] (fun k_=>k_≠aA) (fun _=>False) rfl (by first|(go_simp;done)|(go_simp;rfl)) ?aP (fun _ hk=>hk.elim) ?aF ?aO (Below.refl _ _) ?aS ?aL ?_;(case aP=>exact k93_mkM _ _ _ (⟨ao,ap⟩ :S93));(case aF=>exact(fun k_ hk=>Kd.freshB (g:=aA) (o:= .cells #[.int .i64 ao,.int .i64 ap] 93 (0,0)) (kS a6 _) k_ hk));(case aO=>exact(fR (R_mono U.out (fun k_ hk=>(⟨hk,hk.2⟩ :_∧k_≠aA))) (fun _ hk=>hk.1.2)));(case aS=>exact(keep_size (w:=w) (g:=g) (row:=none) cK));(case aL=>have:=dx.out;omega);intro eZ e0 ho hb hg hat;rw[← cr.out]at ho;replace s:=kN s hg U s;replace G:=kN G hg U G;replace a6:=kG a6 hg (R_away U.out (fun _ hk=>hk.2)) (.cells #[.int .i64 ao,.int .i64 ap] 93 (0,0));replace HB:=aM (below_weaken q2x5 HL.out hb);replace HI0:=aM (IsS90.grown q2x4 hg (IsS90.own_ne HI0.out U.out (by decide)));replace HK:=aM (KeepBut.trans (cK:KeepBut w _ g none) (KeepBut.of_grown hg g) (R_base2 U.out));have ct:=aM ho;clear U ho hb hg hat;obtain⟨dG,dH,dI⟩:=R_slice ct.out;subst dI;obtain⟨e1,e2,e3,e4,e5,e6⟩:=cz3 G))
    go_roundg k1
    case measure=>exact oK
    case rel=>exact⟨(wrap64 (I+1)),(a4),(a5),(cq),(.slice dG cq.length dH),rS,H',⟨oK⟩,⟨fR (R_types ct.out G.out (by decide)) (fun _ hk=>trivial)⟩,⟨mK s⟩,⟨kS G _⟩,⟨q2x4⟩,⟨cK⟩,⟨q2x5⟩⟩
   ·rw[if_neg az]at H;have dv:=decide_eq_false az;clear az;simp only[Option.some.injEq,Prod.mk.injEq]at H;obtain⟨rfl,rfl,rfl,rfl,rfl⟩:=H;have hnb32:=bT.out;have hnc32:=bS.out;have hnb33:=a3.out;have hnc33:=bU.out;obtain⟨e7,e8,e9,fa,fb,fc⟩:=cz3 G;have hnb35:=a2.out;have hnc35:=dr.out;obtain⟨fd,fe,ff,fg,fh,fi⟩:=cz3 s;obtain⟨dJ,dK,dL⟩:=R_slice U.out;subst dL;go_wp2
    refine bodyPost_ret (results_cell_row rfl _ _ a1 28 #[.int .i64 aV,.int .i64 aY,.slice dJ ay.length dK] (0,0) _ rfl (kS s _) Try.underlying28 rfl (by kernel_rfl)) rfl ?_
    exact⟨_,rE,fR (R_types U.out s.out (by decide)) (fun _ hk=>trivial),q2x4,q2x5,cK⟩
def spec_DrawCall.f (k:Nat) (j:List Int):Option (Int×Int×(List (S93))):=(spec_l01New.f k j).bind fun bV=>((spec_l04Call.f k bV.1 bV.2.1 bV.2.2).bind fun bW=>(some (bW.1,bW.2.1,bW.2.2.1)))
theorem q2x6 {P:Prop} (h:P:=by repeat(first|(with_reducible first|exact HI173.out|apply IsS90.alloc|apply IsS90.drewN|apply IsS90.drew|apply IsS90.set_1|apply IsS90.set_2|(apply IsS90.far;case hne=>exact(Aside0.out (by assumption))))|exact HI173.out)):P:=h
theorem q2x7 {P:Prop} (h:P:=by repeat(first|(with_reducible first|exact HB.out|apply below_alloc|apply pw_below_drewN|apply below_drew1|refine below_set ?_ (IsS90.ge HI173.out)|refine below_set ?_ (Aside0.out (by assumption)))|exact HB.out)):P:=h
set_option maxHeartbeats 8000000 in
set_option maxRecDepth 100000 in
theorem spec_DrawCall.calls {k:Nat}{c:Option Addr}{i:Nat}{j:List Int}{r1:Int}{r2:Int}{r3:List (S93)}{w:World}(h:spec_DrawCall.f k j=some (r1,r2,r3))(l:Kd.C (Kd.int .u8) w c j.length j)(af:j.length≤i) :
 Calls Try.prog 8 #[.slice c j.length i] w fun e w'=> ∃ v2_:Value,e= .returned (.agg #[.int .i64 r1,.int .i64 r2,v2_])∧Kd.R k93 93 w' w.heap.size (fun _=>True) v2_ r3∧Below w.heap.size w w':=by
 have hu28:=Try.underlying28;have HR0:=aM l;have HC0:=aM af;clear l af;have HB:=rW w
 unfold spec_DrawCall.f at h;have H:=h
 clear h;replace H:=bE H;obtain⟨⟨cu,cv,cw⟩,aa,H⟩:=H;(try dsimp only at H);replace H:=bE H;obtain⟨⟨cx,cy,cz,dM,dN⟩,Y,H⟩:=H;(try dsimp only at H);simp only[Option.some.injEq,Prod.mk.injEq]at H;obtain⟨rfl,rfl,rfl⟩:=H;go_enter Try.func8,Try.ntmps8
 go_wp2_with (first|((with_reducible refine gN 2 ?_);refine boxZ 2 #[.int .i64 0,.int .i64 0,.slice none 0 0] 28 ?_;intro a7 hg bv hbox hb;have ae:=aM hbox;have GW169:=gS hg;have GE169:=gS hg;replace HB:=sB hb;clear hb hbox hg)|((with_reducible refine gF 36 ?_);refine gV (some 4) Try.func36 (spec_l01New.calls k _ _ j cu cv cw w _ cB HR0.out HC0.out aa.out) ?_;rintro e be ⟨g173,rfl,hi,hb,hb2⟩;refine⟨_,rfl,?_⟩;replace HB:=aM hb;have HI173:=aM hi;have dO:=aM (IsS90.ne_blk hi (blk_below (g:=a7) (o:= .cells #[.int .i64 0,.int .i64 0,.slice none 0 0] 28 (0,0)) (mK ae) hb2) (by decide));have cA:=aM (Ne.symm (IsS90.ne_blk hi (blk_below (g:=a7) (o:= .cells #[.int .i64 0,.int .i64 0,.slice none 0 0] 28 (0,0)) (mK ae) hb2) (by decide)));replace ae:=aM (blk_below (g:=a7) (o:= .cells #[.int .i64 0,.int .i64 0,.slice none 0 0] 28 (0,0)) (mK ae) hb2);(try clear hb);(try clear hb2);(try clear hi))|((with_reducible refine gF 37 ?_);refine gY (some 5) Try.func37 (spec_l04Call.calls k g173 cu cv cw cx cy cz dM dN w _ q2x6 q2x7 Y.out) ?_;rintro fj bf ⟨cD,hi,hb,hk⟩;replace ae:=bK hk ae cA.out;have cE:=aM (R_lower cD (below_size q2x7));replace HB:=aM hb;replace HI173:=aM hi;(try clear hb);(try clear hk);(try clear hi);(try clear cD);have hnb7:=cA.out;have hnc7:=dO.out;obtain⟨fk,fl,fm,fn,fo,fp⟩:=cz3 ae;obtain⟨dP,dQ,dS⟩:=R_slice cE.out;subst dS))
 refine bodyPost_ret (results_cell_row rfl _ _ a7 28 #[.int .i64 cx,.int .i64 cy,.slice dP cz.length dQ] (0,0) _ rfl (kS ae _) Try.underlying28 rfl (by kernel_rfl)) rfl ?_
 exact⟨_,rE,fR (R_types cE.out ae.out (by decide)) (fun _ hk=>trivial),q2x7⟩
def spec_l01In.f (z:Int) (n:Int) (aI:Int):Option (Bool):=if z≥n then(some (decide (z≤aI)))else(some false)
set_option maxHeartbeats 8000000 in
set_option maxRecDepth 100000 in
theorem spec_l01In.calls {z:Int}{n:Int}{aI:Int}{r:Bool}{w:World}(h:spec_l01In.f z n aI=some r) :
 Calls Try.prog 41 #[.int .i64 z,.int .i64 n,.int .i64 aI] w fun e w'=>e= .returned (.bool r)∧Drawn0 w w':=by
 have H:(if z≥n then(some (decide (z≤aI)))else(some false))=some r:=h;clear h;by_cases D:z≥n
 ·rw[if_pos D]at H;have aC:decide (n≤z)=true:=decide_eq_true D;clear D;obtain rfl:=Option.some.inj H;go_enter Try.func41,Try.ntmps41;go_wp2;go_ret
  exact⟨by first|rfl|(simp;done)|(simp[*];done),by repeat(first|exact Drawn0.refl _|apply Drawn0.step)⟩
 ·rw[if_neg D]at H;have aC:decide (n≤z)=false:=decide_eq_false D;clear D;obtain rfl:=Option.some.inj H;go_enter Try.func41,Try.ntmps41;go_wp2;go_ret
  exact⟨by first|rfl|(simp;done)|(simp[*];done),by repeat(first|exact Drawn0.refl _|apply Drawn0.step)⟩
def spec_HalfOk.f (z:Int):Option (Bool):=(spec_l01In.f z 0 4294967295).bind fun cF=>(some cF)
set_option maxHeartbeats 8000000 in
set_option maxRecDepth 100000 in
theorem spec_HalfOk.calls {z:Int}{r:Bool}{w:World}(h:spec_HalfOk.f z=some r) :
 Calls Try.prog 77 #[.int .i64 z] w fun e w'=>e= .returned (.bool r)∧Drawn0 w w':=by
 unfold spec_HalfOk.f at h;have H:=h
 clear h;replace H:=bE H;obtain⟨cF,aa,H⟩:=H;obtain rfl:=Option.some.inj H;go_enter Try.func77,Try.ntmps77
 go_wp2_with (first|((with_reducible refine gF 41 ?_);refine gX (some 4) Try.func41 (spec_l01In.calls aa.out) ?_;rintro w' ⟨nd,rfl⟩))
 go_ret
 exact⟨by first|rfl|(simp;done)|(simp[*];done),by repeat(first|exact Drawn0.refl _|apply Drawn0.step)⟩
def spec_l06Ask.f (z:Int):Option (Bool):=(spec_l01In.f z 3 6).bind fun cG=>(some cG)
set_option maxHeartbeats 8000000 in
set_option maxRecDepth 100000 in
theorem spec_l06Ask.calls {z:Int}{r:Bool}{w:World}(h:spec_l06Ask.f z=some r) :
 Calls Try.prog 78 #[.int .i64 z] w fun e w'=>e= .returned (.bool r)∧Drawn0 w w':=by
 unfold spec_l06Ask.f at h;have H:=h
 clear h;replace H:=bE H;obtain⟨cG,aa,H⟩:=H;obtain rfl:=Option.some.inj H;go_enter Try.func78,Try.ntmps78
 go_wp2_with (first|((with_reducible refine gF 41 ?_);refine gX (some 4) Try.func41 (spec_l01In.calls aa.out) ?_;rintro w' ⟨nd,rfl⟩))
 go_ret
 exact⟨by first|rfl|(simp;done)|(simp[*];done),by repeat(first|exact Drawn0.refl _|apply Drawn0.step)⟩
end Go.Proofs.Ytpbalojiaghfhaa.PFnStacks
