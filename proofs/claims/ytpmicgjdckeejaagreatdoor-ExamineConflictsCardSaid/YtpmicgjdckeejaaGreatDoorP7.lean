/- A part of the proof; the last text states what is proved. -/
import Derived.Test.YtpmicgjdckeejaaGreatDoorP6
import Derived.Shelf.LaysM
import Derived.Shelf.RegionOpenPlain
import Derived.Lib.Walk
import Derived.Lib.ItoaWalk
import Derived.Lib.ItoaMem
import Derived.WalkKit
import Derived.RegionTactic
import Derived.BigCall
import Derived.BigGuard
import Derived.CellFam
import Derived.Shelf.Strconv.Itoa3
import Derived.Lib.ItoaLen
import Derived.Deep.RegionHeld3
import Derived.Deep.LoopGhost
import Derived.Maps.AppendAt
import Derived.Maps.OwnIn
set_option linter.unusedVariables false
set_option linter.unusedSimpArgs false
set_option maxRecDepth 100000
set_option maxHeartbeats 12800000
namespace Go.Proofs
open Go.Shelf Go.RowKit Go.Sort Go.Lib
theorem ziQ (blk off cap u:Nat) (d:Array UInt8) (w:World) (hH:Holds (fun(b:UInt8)=>Value.int .u8 (b.toNat:Int)) w blk off d) (hu:u<18446744073709551616) (hsz:d.size≤23):
  Calls Tryz.prog 236 #[.slice (some ⟨blk,off,none⟩) d.size cap,.int .u64 u] w fun e w'=>
   e=.returned (.tuple #[])∧ ∃(n:Nat) (dk:Array UInt8),dk.size=d.size∧w'=(putRow (fun(b:UInt8)=>Value.int .u8 (b.toNat:Int)) w blk off dk).drewN n:=by
 have mixed:Tryz.prog.follows Departure.mixedOrders=true:=by kernel_rfl
 go_enter Tryz.func236,Tryz.ntmps236
 go_name_bytes SM hSM
 have eSM:SM=Lib.smalls:=by rw[←hSM];decide+kernel
 subst eSM
 clear hSM
 go_wp2
 go_loopw [1,4] (fun vu vn wr=> ∃(nd v n:Nat) (dk:Array UInt8),vu=.int .u64 v∧vn=.int .i64 nd∧nd≤d.size∧v<18446744073709551616∧dk.size=d.size∧Hid (wr=(putRow (fun(b:UInt8)=>Value.int .u8 (b.toNat:Int)) w blk off dk).drewN n)) (fun _ vn _=>(RowKit.intOf vn).toNat)
 case atStart=>exact⟨d.size,u,0,d,rfl,rfl,Nat.le_refl _,hu,rfl,Lib.hid (putRow_self _ _ _ _ _ hH).symm⟩
 case round=>
  obtain⟨nd,v,n,dk0,rfl,rfl,hle,hv64,hs0,AW0⟩:=hrel
  rename World=>W0
  have AH:=Lib.hid hH
  clear hH
  have hH0:Holds (fun(b:UInt8)=>Value.int .u8 (b.toNat:Int)) W0 blk off dk0:=by rw[AW0.out];exact holds_putRow _ w blk off d dk0 AH.out hs0
  obtain⟨G0,hG0⟩: ∃G:Nat→Int,∀t,G t=(dk0[t]!.toNat:Int):=⟨_,fun _=>rfl⟩
  have hc0: ∀t,t<d.size→W0.cell? ⟨blk,off+t,none⟩=some (.int .u8 (G0 t)):=fun t ht=>by rw[hG0];exact(hH0 t (by omega)).1
  have hf0: ∀t,t<d.size→W0.frozen? ⟨blk,off+t,none⟩=false:=fun t ht=>(hH0 t (by omega)).2
  clear hG0 hH0
  by_cases h8:8≤nd
  ·obtain⟨m,rfl⟩: ∃m,nd=m+8:=⟨nd-8,by omega⟩
   go_wp2
   go_name_slot 9 x0 hx0
   have hlo0:0≤x0:=by omega
   have hhi0:x0≤198:=by omega
   obtain⟨y0,hy0⟩: ∃y:Nat,x0=y:=⟨x0.toNat,by omega⟩
   clear hx0
   have hXa0: ∀w,(Instr.index 9 (.string Lib.smalls) (.int .u32 (x0+1))).run Tryz.prog w=.ok (.int .u8 ((sm (y0+1)).toNat:Int)) w:=idx_smalls 9 Tryz.underlying9 .u32 _ _ (by omega) (by omega)
   have hXb0: ∀w,(Instr.index 9 (.string Lib.smalls) (.int .u32 x0)).run Tryz.prog w=.ok (.int .u8 ((sm y0).toNat:Int)) w:=idx_smalls 9 Tryz.underlying9 .u32 _ _ (by omega) (by omega)
   clear hy0
   go_region_o
   go_wp2
   go_name_world W1 hW1
   have hw1:W1=(putRow (fun(b:UInt8)=>Value.int .u8 (b.toNat:Int)) w blk off ((dk0.setIfInBounds (m+6+1) (sm (y0+1))).setIfInBounds (m+6) (sm y0))).drewN (n+0+1):=by rw[←hW1];exact(by rw[AW0.out];exact store2_world w blk off dk0 (n+0) (m+6+1) (m+6) _ _ (by omega) (by omega))
   have hs1:((dk0.setIfInBounds (m+6+1) (sm (y0+1))).setIfInBounds (m+6) (sm y0)).size=d.size:=by simp[hs0]
   generalize ((dk0.setIfInBounds (m+6+1) (sm (y0+1))).setIfInBounds (m+6) (sm y0))=dk1 at hw1 hs1
   have AW1:=Lib.hid hw1
   clear hW1 hw1 hc0 hf0 AW0 hXa0 hXb0 hs0
   have hH1:Holds (fun(b:UInt8)=>Value.int .u8 (b.toNat:Int)) W1 blk off dk1:=by rw[AW1.out];exact holds_putRow _ w blk off d dk1 AH.out hs1
   obtain⟨G1,hG1⟩: ∃G:Nat→Int,∀t,G t=(dk1[t]!.toNat:Int):=⟨_,fun _=>rfl⟩
   have hc1: ∀t,t<d.size→W1.cell? ⟨blk,off+t,none⟩=some (.int .u8 (G1 t)):=fun t ht=>by rw[hG1];exact(hH1 t (by omega)).1
   have hf1: ∀t,t<d.size→W1.frozen? ⟨blk,off+t,none⟩=false:=fun t ht=>(hH1 t (by omega)).2
   clear hG1 hH1
   go_name_slot 8 x1 hx1
   have hlo1:0≤x1:=by omega
   have hhi1:x1≤198:=by omega
   obtain⟨y1,hy1⟩: ∃y:Nat,x1=y:=⟨x1.toNat,by omega⟩
   clear hx1
   have hXa1: ∀w,(Instr.index 9 (.string Lib.smalls) (.int .u32 (x1+1))).run Tryz.prog w=.ok (.int .u8 ((sm (y1+1)).toNat:Int)) w:=idx_smalls 9 Tryz.underlying9 .u32 _ _ (by omega) (by omega)
   have hXb1: ∀w,(Instr.index 9 (.string Lib.smalls) (.int .u32 x1)).run Tryz.prog w=.ok (.int .u8 ((sm y1).toNat:Int)) w:=idx_smalls 9 Tryz.underlying9 .u32 _ _ (by omega) (by omega)
   clear hy1
   go_region_o
   go_wp2
   go_name_world W2 hW2
   have hw2:W2=(putRow (fun(b:UInt8)=>Value.int .u8 (b.toNat:Int)) w blk off ((dk1.setIfInBounds (m+4+1) (sm (y1+1))).setIfInBounds (m+4) (sm y1))).drewN (n+1+1):=by rw[←hW2];exact(by rw[AW1.out];exact store2_world w blk off dk1 (n+1) (m+4+1) (m+4) _ _ (by omega) (by omega))
   have hs2:((dk1.setIfInBounds (m+4+1) (sm (y1+1))).setIfInBounds (m+4) (sm y1)).size=d.size:=by simp[hs1]
   generalize ((dk1.setIfInBounds (m+4+1) (sm (y1+1))).setIfInBounds (m+4) (sm y1))=dk2 at hw2 hs2
   have AW2:=Lib.hid hw2
   clear hW2 hw2 hc1 hf1 AW1 hXa1 hXb1 hs1
   have hH2:Holds (fun(b:UInt8)=>Value.int .u8 (b.toNat:Int)) W2 blk off dk2:=by rw[AW2.out];exact holds_putRow _ w blk off d dk2 AH.out hs2
   obtain⟨G2,hG2⟩: ∃G:Nat→Int,∀t,G t=(dk2[t]!.toNat:Int):=⟨_,fun _=>rfl⟩
   have hc2: ∀t,t<d.size→W2.cell? ⟨blk,off+t,none⟩=some (.int .u8 (G2 t)):=fun t ht=>by rw[hG2];exact(hH2 t (by omega)).1
   have hf2: ∀t,t<d.size→W2.frozen? ⟨blk,off+t,none⟩=false:=fun t ht=>(hH2 t (by omega)).2
   clear hG2 hH2
   go_name_slot 11 x2 hx2
   have hlo2:0≤x2:=by omega
   have hhi2:x2≤198:=by omega
   obtain⟨y2,hy2⟩: ∃y:Nat,x2=y:=⟨x2.toNat,by omega⟩
   clear hx2
   have hXa2: ∀w,(Instr.index 9 (.string Lib.smalls) (.int .u32 (x2+1))).run Tryz.prog w=.ok (.int .u8 ((sm (y2+1)).toNat:Int)) w:=idx_smalls 9 Tryz.underlying9 .u32 _ _ (by omega) (by omega)
   have hXb2: ∀w,(Instr.index 9 (.string Lib.smalls) (.int .u32 x2)).run Tryz.prog w=.ok (.int .u8 ((sm y2).toNat:Int)) w:=idx_smalls 9 Tryz.underlying9 .u32 _ _ (by omega) (by omega)
   clear hy2
   go_region_o
   go_wp2
   go_name_world W3 hW3
   have hw3:W3=(putRow (fun(b:UInt8)=>Value.int .u8 (b.toNat:Int)) w blk off ((dk2.setIfInBounds (m+2+1) (sm (y2+1))).setIfInBounds (m+2) (sm y2))).drewN (n+2+1):=by rw[←hW3];exact(by rw[AW2.out];exact store2_world w blk off dk2 (n+2) (m+2+1) (m+2) _ _ (by omega) (by omega))
   have hs3:((dk2.setIfInBounds (m+2+1) (sm (y2+1))).setIfInBounds (m+2) (sm y2)).size=d.size:=by simp[hs2]
   generalize ((dk2.setIfInBounds (m+2+1) (sm (y2+1))).setIfInBounds (m+2) (sm y2))=dk3 at hw3 hs3
   have AW3:=Lib.hid hw3
   clear hW3 hw3 hc2 hf2 AW2 hXa2 hXb2 hs2
   have hH3:Holds (fun(b:UInt8)=>Value.int .u8 (b.toNat:Int)) W3 blk off dk3:=by rw[AW3.out];exact holds_putRow _ w blk off d dk3 AH.out hs3
   obtain⟨G3,hG3⟩: ∃G:Nat→Int,∀t,G t=(dk3[t]!.toNat:Int):=⟨_,fun _=>rfl⟩
   have hc3: ∀t,t<d.size→W3.cell? ⟨blk,off+t,none⟩=some (.int .u8 (G3 t)):=fun t ht=>by rw[hG3];exact(hH3 t (by omega)).1
   have hf3: ∀t,t<d.size→W3.frozen? ⟨blk,off+t,none⟩=false:=fun t ht=>(hH3 t (by omega)).2
   clear hG3 hH3
   go_name_slot 10 x3 hx3
   have hlo3:0≤x3:=by omega
   have hhi3:x3≤198:=by omega
   obtain⟨y3,hy3⟩: ∃y:Nat,x3=y:=⟨x3.toNat,by omega⟩
   clear hx3
   have hXa3: ∀w,(Instr.index 9 (.string Lib.smalls) (.int .u32 (x3+1))).run Tryz.prog w=.ok (.int .u8 ((sm (y3+1)).toNat:Int)) w:=idx_smalls 9 Tryz.underlying9 .u32 _ _ (by omega) (by omega)
   have hXb3: ∀w,(Instr.index 9 (.string Lib.smalls) (.int .u32 x3)).run Tryz.prog w=.ok (.int .u8 ((sm y3).toNat:Int)) w:=idx_smalls 9 Tryz.underlying9 .u32 _ _ (by omega) (by omega)
   clear hy3
   go_region_o
   go_wp2
   go_roundw
   case rel=>
    exact⟨m,v/100000000,n+3+1,((dk3.setIfInBounds (m+1) (sm (y3+1))).setIfInBounds (m) (sm y3)),by first|go_num|(congr 1;omega),by first|go_num|(congr 1;omega),by omega,by omega,by simp[hs3],Lib.hid (by rw[AW3.out];exact store2_world w blk off dk3 (n+3) (m+1) (m) _ _ (by omega) (by omega))⟩
   case measure=>simp[RowKit.intOf];omega
  ·have hc8:nd=0∨nd=1∨nd=2∨nd=3∨nd=4∨nd=5∨nd=6∨nd=7:=by omega
   rcases hc8 with rfl|rfl|rfl|rfl|rfl|rfl|rfl|rfl
   ·go_wp2
    go_end0
    exact⟨rfl,n,dk0,hs0,AW0.out⟩
   ·go_wp2
    go_end0
    exact⟨rfl,n,dk0.setIfInBounds 0 (UInt8.ofNat (48+v % 4294967296)),by simp[hs0],by rw[AW0.out];exact store1_world0 w blk off dk0 n _ (v % 4294967296) (by omega) (by omega)⟩
   ·go_wp2
    go_name_slot 16 x0 hx0
    have hlo0:0≤x0:=by omega
    have hhi0:x0≤198:=by omega
    obtain⟨y0,hy0⟩: ∃y:Nat,x0=y:=⟨x0.toNat,by omega⟩
    clear hx0
    have hXa0: ∀w,(Instr.index 9 (.string Lib.smalls) (.int .u32 (x0+1))).run Tryz.prog w=.ok (.int .u8 ((sm (y0+1)).toNat:Int)) w:=idx_smalls 9 Tryz.underlying9 .u32 _ _ (by omega) (by omega)
    have hXb0: ∀w,(Instr.index 9 (.string Lib.smalls) (.int .u32 x0)).run Tryz.prog w=.ok (.int .u8 ((sm y0).toNat:Int)) w:=idx_smalls 9 Tryz.underlying9 .u32 _ _ (by omega) (by omega)
    clear hy0
    go_region_o
    go_wp2
    go_end0
    exact⟨rfl,n+0+1,(dk0.setIfInBounds (0+1) (sm (y0+1))).setIfInBounds (0) (sm y0),by simp[hs0],by rw[AW0.out];exact store2_world w blk off dk0 (n+0) (0+1) (0) _ _ (by omega) (by omega)⟩
   ·go_wp2
    go_name_slot 16 x0 hx0
    have hlo0:0≤x0:=by omega
    have hhi0:x0≤198:=by omega
    obtain⟨y0,hy0⟩: ∃y:Nat,x0=y:=⟨x0.toNat,by omega⟩
    clear hx0
    have hXa0: ∀w,(Instr.index 9 (.string Lib.smalls) (.int .u32 (x0+1))).run Tryz.prog w=.ok (.int .u8 ((sm (y0+1)).toNat:Int)) w:=idx_smalls 9 Tryz.underlying9 .u32 _ _ (by omega) (by omega)
    have hXb0: ∀w,(Instr.index 9 (.string Lib.smalls) (.int .u32 x0)).run Tryz.prog w=.ok (.int .u8 ((sm y0).toNat:Int)) w:=idx_smalls 9 Tryz.underlying9 .u32 _ _ (by omega) (by omega)
    clear hy0
    go_region_o
    go_wp2
    go_end0
    exact⟨rfl,n+0+1,((dk0.setIfInBounds (1+1) (sm (y0+1))).setIfInBounds (1) (sm y0)).setIfInBounds 0 (UInt8.ofNat (48+v % 4294967296/100)),by simp[hs0],by rw[AW0.out];exact store21_world w blk off dk0 (n+0) (1+1) (1) _ _ _ (v % 4294967296/100) (by first|omega|(have e1:((v % 4294967296/10000:Nat):Int)=(v:Int) % 4294967296/10000:=(by omega);have e2:((v % 4294967296/10000/100:Nat):Int)=(v:Int) % 4294967296/10000/100:=(by rw[←e1];omega);rw[←e2];generalize v % 4294967296/10000/100=c9;omega)) (by omega) (by omega)⟩
   ·go_wp2
    go_name_slot 15 x0 hx0
    have hlo0:0≤x0:=by omega
    have hhi0:x0≤198:=by omega
    obtain⟨y0,hy0⟩: ∃y:Nat,x0=y:=⟨x0.toNat,by omega⟩
    clear hx0
    have hXa0: ∀w,(Instr.index 9 (.string Lib.smalls) (.int .u32 (x0+1))).run Tryz.prog w=.ok (.int .u8 ((sm (y0+1)).toNat:Int)) w:=idx_smalls 9 Tryz.underlying9 .u32 _ _ (by omega) (by omega)
    have hXb0: ∀w,(Instr.index 9 (.string Lib.smalls) (.int .u32 x0)).run Tryz.prog w=.ok (.int .u8 ((sm y0).toNat:Int)) w:=idx_smalls 9 Tryz.underlying9 .u32 _ _ (by omega) (by omega)
    clear hy0
    go_region_o
    go_wp2
    go_name_world W1 hW1
    have hw1:W1=(putRow (fun(b:UInt8)=>Value.int .u8 (b.toNat:Int)) w blk off ((dk0.setIfInBounds (2+1) (sm (y0+1))).setIfInBounds (2) (sm y0))).drewN (n+0+1):=by rw[←hW1];exact(by rw[AW0.out];exact store2_world w blk off dk0 (n+0) (2+1) (2) _ _ (by omega) (by omega))
    have hs1:((dk0.setIfInBounds (2+1) (sm (y0+1))).setIfInBounds (2) (sm y0)).size=d.size:=by simp[hs0]
    generalize ((dk0.setIfInBounds (2+1) (sm (y0+1))).setIfInBounds (2) (sm y0))=dk1 at hw1 hs1
    have AW1:=Lib.hid hw1
    clear hW1 hw1 hc0 hf0 AW0 hXa0 hXb0 hs0
    have hH1:Holds (fun(b:UInt8)=>Value.int .u8 (b.toNat:Int)) W1 blk off dk1:=by rw[AW1.out];exact holds_putRow _ w blk off d dk1 AH.out hs1
    obtain⟨G1,hG1⟩: ∃G:Nat→Int,∀t,G t=(dk1[t]!.toNat:Int):=⟨_,fun _=>rfl⟩
    have hc1: ∀t,t<d.size→W1.cell? ⟨blk,off+t,none⟩=some (.int .u8 (G1 t)):=fun t ht=>by rw[hG1];exact(hH1 t (by omega)).1
    have hf1: ∀t,t<d.size→W1.frozen? ⟨blk,off+t,none⟩=false:=fun t ht=>(hH1 t (by omega)).2
    clear hG1 hH1
    go_name_slot 14 x1 hx1
    have hlo1:0≤x1:=by omega
    have hhi1:x1≤198:=by omega
    obtain⟨y1,hy1⟩: ∃y:Nat,x1=y:=⟨x1.toNat,by omega⟩
    clear hx1
    have hXa1: ∀w,(Instr.index 9 (.string Lib.smalls) (.int .u32 (x1+1))).run Tryz.prog w=.ok (.int .u8 ((sm (y1+1)).toNat:Int)) w:=idx_smalls 9 Tryz.underlying9 .u32 _ _ (by omega) (by omega)
    have hXb1: ∀w,(Instr.index 9 (.string Lib.smalls) (.int .u32 x1)).run Tryz.prog w=.ok (.int .u8 ((sm y1).toNat:Int)) w:=idx_smalls 9 Tryz.underlying9 .u32 _ _ (by omega) (by omega)
    clear hy1
    go_region_o
    go_wp2
    go_end0
    exact⟨rfl,n+1+1,(dk1.setIfInBounds (0+1) (sm (y1+1))).setIfInBounds (0) (sm y1),by simp[hs1],by rw[AW1.out];exact store2_world w blk off dk1 (n+1) (0+1) (0) _ _ (by omega) (by omega)⟩
   ·go_wp2
    go_name_slot 15 x0 hx0
    have hlo0:0≤x0:=by omega
    have hhi0:x0≤198:=by omega
    obtain⟨y0,hy0⟩: ∃y:Nat,x0=y:=⟨x0.toNat,by omega⟩
    clear hx0
    have hXa0: ∀w,(Instr.index 9 (.string Lib.smalls) (.int .u32 (x0+1))).run Tryz.prog w=.ok (.int .u8 ((sm (y0+1)).toNat:Int)) w:=idx_smalls 9 Tryz.underlying9 .u32 _ _ (by omega) (by omega)
    have hXb0: ∀w,(Instr.index 9 (.string Lib.smalls) (.int .u32 x0)).run Tryz.prog w=.ok (.int .u8 ((sm y0).toNat:Int)) w:=idx_smalls 9 Tryz.underlying9 .u32 _ _ (by omega) (by omega)
    clear hy0
    go_region_o
    go_wp2
    go_name_world W1 hW1
    have hw1:W1=(putRow (fun(b:UInt8)=>Value.int .u8 (b.toNat:Int)) w blk off ((dk0.setIfInBounds (3+1) (sm (y0+1))).setIfInBounds (3) (sm y0))).drewN (n+0+1):=by rw[←hW1];exact(by rw[AW0.out];exact store2_world w blk off dk0 (n+0) (3+1) (3) _ _ (by omega) (by omega))
    have hs1:((dk0.setIfInBounds (3+1) (sm (y0+1))).setIfInBounds (3) (sm y0)).size=d.size:=by simp[hs0]
    generalize ((dk0.setIfInBounds (3+1) (sm (y0+1))).setIfInBounds (3) (sm y0))=dk1 at hw1 hs1
    have AW1:=Lib.hid hw1
    clear hW1 hw1 hc0 hf0 AW0 hXa0 hXb0 hs0
    have hH1:Holds (fun(b:UInt8)=>Value.int .u8 (b.toNat:Int)) W1 blk off dk1:=by rw[AW1.out];exact holds_putRow _ w blk off d dk1 AH.out hs1
    obtain⟨G1,hG1⟩: ∃G:Nat→Int,∀t,G t=(dk1[t]!.toNat:Int):=⟨_,fun _=>rfl⟩
    have hc1: ∀t,t<d.size→W1.cell? ⟨blk,off+t,none⟩=some (.int .u8 (G1 t)):=fun t ht=>by rw[hG1];exact(hH1 t (by omega)).1
    have hf1: ∀t,t<d.size→W1.frozen? ⟨blk,off+t,none⟩=false:=fun t ht=>(hH1 t (by omega)).2
    clear hG1 hH1
    go_name_slot 14 x1 hx1
    have hlo1:0≤x1:=by omega
    have hhi1:x1≤198:=by omega
    obtain⟨y1,hy1⟩: ∃y:Nat,x1=y:=⟨x1.toNat,by omega⟩
    clear hx1
    have hXa1: ∀w,(Instr.index 9 (.string Lib.smalls) (.int .u32 (x1+1))).run Tryz.prog w=.ok (.int .u8 ((sm (y1+1)).toNat:Int)) w:=idx_smalls 9 Tryz.underlying9 .u32 _ _ (by omega) (by omega)
    have hXb1: ∀w,(Instr.index 9 (.string Lib.smalls) (.int .u32 x1)).run Tryz.prog w=.ok (.int .u8 ((sm y1).toNat:Int)) w:=idx_smalls 9 Tryz.underlying9 .u32 _ _ (by omega) (by omega)
    clear hy1
    go_region_o
    go_wp2
    go_end0
    exact⟨rfl,n+1+1,((dk1.setIfInBounds (1+1) (sm (y1+1))).setIfInBounds (1) (sm y1)).setIfInBounds 0 (UInt8.ofNat (48+v % 4294967296/10000)),by simp[hs1],by rw[AW1.out];exact store21_world w blk off dk1 (n+1) (1+1) (1) _ _ _ (v % 4294967296/10000) (by first|omega|(have e1:((v % 4294967296/10000:Nat):Int)=(v:Int) % 4294967296/10000:=(by omega);have e2:((v % 4294967296/10000/100:Nat):Int)=(v:Int) % 4294967296/10000/100:=(by rw[←e1];omega);rw[←e2];generalize v % 4294967296/10000/100=c9;omega)) (by omega) (by omega)⟩
   ·go_wp2
    go_name_slot 15 x0 hx0
    have hlo0:0≤x0:=by omega
    have hhi0:x0≤198:=by omega
    obtain⟨y0,hy0⟩: ∃y:Nat,x0=y:=⟨x0.toNat,by omega⟩
    clear hx0
    have hXa0: ∀w,(Instr.index 9 (.string Lib.smalls) (.int .u32 (x0+1))).run Tryz.prog w=.ok (.int .u8 ((sm (y0+1)).toNat:Int)) w:=idx_smalls 9 Tryz.underlying9 .u32 _ _ (by omega) (by omega)
    have hXb0: ∀w,(Instr.index 9 (.string Lib.smalls) (.int .u32 x0)).run Tryz.prog w=.ok (.int .u8 ((sm y0).toNat:Int)) w:=idx_smalls 9 Tryz.underlying9 .u32 _ _ (by omega) (by omega)
    clear hy0
    go_region_o
    go_wp2
    go_name_world W1 hW1
    have hw1:W1=(putRow (fun(b:UInt8)=>Value.int .u8 (b.toNat:Int)) w blk off ((dk0.setIfInBounds (4+1) (sm (y0+1))).setIfInBounds (4) (sm y0))).drewN (n+0+1):=by rw[←hW1];exact(by rw[AW0.out];exact store2_world w blk off dk0 (n+0) (4+1) (4) _ _ (by omega) (by omega))
    have hs1:((dk0.setIfInBounds (4+1) (sm (y0+1))).setIfInBounds (4) (sm y0)).size=d.size:=by simp[hs0]
    generalize ((dk0.setIfInBounds (4+1) (sm (y0+1))).setIfInBounds (4) (sm y0))=dk1 at hw1 hs1
    have AW1:=Lib.hid hw1
    clear hW1 hw1 hc0 hf0 AW0 hXa0 hXb0 hs0
    have hH1:Holds (fun(b:UInt8)=>Value.int .u8 (b.toNat:Int)) W1 blk off dk1:=by rw[AW1.out];exact holds_putRow _ w blk off d dk1 AH.out hs1
    obtain⟨G1,hG1⟩: ∃G:Nat→Int,∀t,G t=(dk1[t]!.toNat:Int):=⟨_,fun _=>rfl⟩
    have hc1: ∀t,t<d.size→W1.cell? ⟨blk,off+t,none⟩=some (.int .u8 (G1 t)):=fun t ht=>by rw[hG1];exact(hH1 t (by omega)).1
    have hf1: ∀t,t<d.size→W1.frozen? ⟨blk,off+t,none⟩=false:=fun t ht=>(hH1 t (by omega)).2
    clear hG1 hH1
    go_name_slot 14 x1 hx1
    have hlo1:0≤x1:=by omega
    have hhi1:x1≤198:=by omega
    obtain⟨y1,hy1⟩: ∃y:Nat,x1=y:=⟨x1.toNat,by omega⟩
    clear hx1
    have hXa1: ∀w,(Instr.index 9 (.string Lib.smalls) (.int .u32 (x1+1))).run Tryz.prog w=.ok (.int .u8 ((sm (y1+1)).toNat:Int)) w:=idx_smalls 9 Tryz.underlying9 .u32 _ _ (by omega) (by omega)
    have hXb1: ∀w,(Instr.index 9 (.string Lib.smalls) (.int .u32 x1)).run Tryz.prog w=.ok (.int .u8 ((sm y1).toNat:Int)) w:=idx_smalls 9 Tryz.underlying9 .u32 _ _ (by omega) (by omega)
    clear hy1
    go_region_o
    go_wp2
    go_name_world W2 hW2
    have hw2:W2=(putRow (fun(b:UInt8)=>Value.int .u8 (b.toNat:Int)) w blk off ((dk1.setIfInBounds (2+1) (sm (y1+1))).setIfInBounds (2) (sm y1))).drewN (n+1+1):=by rw[←hW2];exact(by rw[AW1.out];exact store2_world w blk off dk1 (n+1) (2+1) (2) _ _ (by omega) (by omega))
    have hs2:((dk1.setIfInBounds (2+1) (sm (y1+1))).setIfInBounds (2) (sm y1)).size=d.size:=by simp[hs1]
    generalize ((dk1.setIfInBounds (2+1) (sm (y1+1))).setIfInBounds (2) (sm y1))=dk2 at hw2 hs2
    have AW2:=Lib.hid hw2
    clear hW2 hw2 hc1 hf1 AW1 hXa1 hXb1 hs1
    have hH2:Holds (fun(b:UInt8)=>Value.int .u8 (b.toNat:Int)) W2 blk off dk2:=by rw[AW2.out];exact holds_putRow _ w blk off d dk2 AH.out hs2
    obtain⟨G2,hG2⟩: ∃G:Nat→Int,∀t,G t=(dk2[t]!.toNat:Int):=⟨_,fun _=>rfl⟩
    have hc2: ∀t,t<d.size→W2.cell? ⟨blk,off+t,none⟩=some (.int .u8 (G2 t)):=fun t ht=>by rw[hG2];exact(hH2 t (by omega)).1
    have hf2: ∀t,t<d.size→W2.frozen? ⟨blk,off+t,none⟩=false:=fun t ht=>(hH2 t (by omega)).2
    clear hG2 hH2
    go_name_slot 16 x2 hx2
    have hlo2:0≤x2:=by omega
    have hhi2:x2≤198:=by omega
    obtain⟨y2,hy2⟩: ∃y:Nat,x2=y:=⟨x2.toNat,by omega⟩
    clear hx2
    have hXa2: ∀w,(Instr.index 9 (.string Lib.smalls) (.int .u32 (x2+1))).run Tryz.prog w=.ok (.int .u8 ((sm (y2+1)).toNat:Int)) w:=idx_smalls 9 Tryz.underlying9 .u32 _ _ (by omega) (by omega)
    have hXb2: ∀w,(Instr.index 9 (.string Lib.smalls) (.int .u32 x2)).run Tryz.prog w=.ok (.int .u8 ((sm y2).toNat:Int)) w:=idx_smalls 9 Tryz.underlying9 .u32 _ _ (by omega) (by omega)
    clear hy2
    go_region_o
    go_wp2
    go_end0
    exact⟨rfl,n+2+1,(dk2.setIfInBounds (0+1) (sm (y2+1))).setIfInBounds (0) (sm y2),by simp[hs2],by rw[AW2.out];exact store2_world w blk off dk2 (n+2) (0+1) (0) _ _ (by omega) (by omega)⟩
   ·go_wp2
    go_name_slot 15 x0 hx0
    have hlo0:0≤x0:=by omega
    have hhi0:x0≤198:=by omega
    obtain⟨y0,hy0⟩: ∃y:Nat,x0=y:=⟨x0.toNat,by omega⟩
    clear hx0
    have hXa0: ∀w,(Instr.index 9 (.string Lib.smalls) (.int .u32 (x0+1))).run Tryz.prog w=.ok (.int .u8 ((sm (y0+1)).toNat:Int)) w:=idx_smalls 9 Tryz.underlying9 .u32 _ _ (by omega) (by omega)
    have hXb0: ∀w,(Instr.index 9 (.string Lib.smalls) (.int .u32 x0)).run Tryz.prog w=.ok (.int .u8 ((sm y0).toNat:Int)) w:=idx_smalls 9 Tryz.underlying9 .u32 _ _ (by omega) (by omega)
    clear hy0
    go_region_o
    go_wp2
    go_name_world W1 hW1
    have hw1:W1=(putRow (fun(b:UInt8)=>Value.int .u8 (b.toNat:Int)) w blk off ((dk0.setIfInBounds (5+1) (sm (y0+1))).setIfInBounds (5) (sm y0))).drewN (n+0+1):=by rw[←hW1];exact(by rw[AW0.out];exact store2_world w blk off dk0 (n+0) (5+1) (5) _ _ (by omega) (by omega))
    have hs1:((dk0.setIfInBounds (5+1) (sm (y0+1))).setIfInBounds (5) (sm y0)).size=d.size:=by simp[hs0]
    generalize ((dk0.setIfInBounds (5+1) (sm (y0+1))).setIfInBounds (5) (sm y0))=dk1 at hw1 hs1
    have AW1:=Lib.hid hw1
    clear hW1 hw1 hc0 hf0 AW0 hXa0 hXb0 hs0
    have hH1:Holds (fun(b:UInt8)=>Value.int .u8 (b.toNat:Int)) W1 blk off dk1:=by rw[AW1.out];exact holds_putRow _ w blk off d dk1 AH.out hs1
    obtain⟨G1,hG1⟩: ∃G:Nat→Int,∀t,G t=(dk1[t]!.toNat:Int):=⟨_,fun _=>rfl⟩
    have hc1: ∀t,t<d.size→W1.cell? ⟨blk,off+t,none⟩=some (.int .u8 (G1 t)):=fun t ht=>by rw[hG1];exact(hH1 t (by omega)).1
    have hf1: ∀t,t<d.size→W1.frozen? ⟨blk,off+t,none⟩=false:=fun t ht=>(hH1 t (by omega)).2
    clear hG1 hH1
    go_name_slot 14 x1 hx1
    have hlo1:0≤x1:=by omega
    have hhi1:x1≤198:=by omega
    obtain⟨y1,hy1⟩: ∃y:Nat,x1=y:=⟨x1.toNat,by omega⟩
    clear hx1
    have hXa1: ∀w,(Instr.index 9 (.string Lib.smalls) (.int .u32 (x1+1))).run Tryz.prog w=.ok (.int .u8 ((sm (y1+1)).toNat:Int)) w:=idx_smalls 9 Tryz.underlying9 .u32 _ _ (by omega) (by omega)
    have hXb1: ∀w,(Instr.index 9 (.string Lib.smalls) (.int .u32 x1)).run Tryz.prog w=.ok (.int .u8 ((sm y1).toNat:Int)) w:=idx_smalls 9 Tryz.underlying9 .u32 _ _ (by omega) (by omega)
    clear hy1
    go_region_o
    go_wp2
    go_name_world W2 hW2
    have hw2:W2=(putRow (fun(b:UInt8)=>Value.int .u8 (b.toNat:Int)) w blk off ((dk1.setIfInBounds (3+1) (sm (y1+1))).setIfInBounds (3) (sm y1))).drewN (n+1+1):=by rw[←hW2];exact(by rw[AW1.out];exact store2_world w blk off dk1 (n+1) (3+1) (3) _ _ (by omega) (by omega))
    have hs2:((dk1.setIfInBounds (3+1) (sm (y1+1))).setIfInBounds (3) (sm y1)).size=d.size:=by simp[hs1]
    generalize ((dk1.setIfInBounds (3+1) (sm (y1+1))).setIfInBounds (3) (sm y1))=dk2 at hw2 hs2
    have AW2:=Lib.hid hw2
    clear hW2 hw2 hc1 hf1 AW1 hXa1 hXb1 hs1
    have hH2:Holds (fun(b:UInt8)=>Value.int .u8 (b.toNat:Int)) W2 blk off dk2:=by rw[AW2.out];exact holds_putRow _ w blk off d dk2 AH.out hs2
    obtain⟨G2,hG2⟩: ∃G:Nat→Int,∀t,G t=(dk2[t]!.toNat:Int):=⟨_,fun _=>rfl⟩
    have hc2: ∀t,t<d.size→W2.cell? ⟨blk,off+t,none⟩=some (.int .u8 (G2 t)):=fun t ht=>by rw[hG2];exact(hH2 t (by omega)).1
    have hf2: ∀t,t<d.size→W2.frozen? ⟨blk,off+t,none⟩=false:=fun t ht=>(hH2 t (by omega)).2
    clear hG2 hH2
    go_name_slot 16 x2 hx2
    have hlo2:0≤x2:=by omega
    have hhi2:x2≤198:=by omega
    obtain⟨y2,hy2⟩: ∃y:Nat,x2=y:=⟨x2.toNat,by omega⟩
    clear hx2
    have hXa2: ∀w,(Instr.index 9 (.string Lib.smalls) (.int .u32 (x2+1))).run Tryz.prog w=.ok (.int .u8 ((sm (y2+1)).toNat:Int)) w:=idx_smalls 9 Tryz.underlying9 .u32 _ _ (by omega) (by omega)
    have hXb2: ∀w,(Instr.index 9 (.string Lib.smalls) (.int .u32 x2)).run Tryz.prog w=.ok (.int .u8 ((sm y2).toNat:Int)) w:=idx_smalls 9 Tryz.underlying9 .u32 _ _ (by omega) (by omega)
    clear hy2
    go_region_o
    go_wp2
    go_end0
    exact⟨rfl,n+2+1,((dk2.setIfInBounds (1+1) (sm (y2+1))).setIfInBounds (1) (sm y2)).setIfInBounds 0 (UInt8.ofNat (48+v % 4294967296/10000/100)),by simp[hs2],by rw[AW2.out];exact store21_world w blk off dk2 (n+2) (1+1) (1) _ _ _ (v % 4294967296/10000/100) (by first|omega|(have e1:((v % 4294967296/10000:Nat):Int)=(v:Int) % 4294967296/10000:=(by omega);have e2:((v % 4294967296/10000/100:Nat):Int)=(v:Int) % 4294967296/10000/100:=(by rw[←e1];omega);rw[←e2];generalize v % 4294967296/10000/100=c9;omega)) (by omega) (by omega)⟩
end Go.Proofs
set_option maxRecDepth 100000
set_option maxHeartbeats 8000000
namespace Go.Proofs
open Go.Shelf Go.RowKit Go.Sort Go.Lib
def nK (w:World):Prop:= ∀i,i<20→ ∃z:Int,w.cell? ⟨5,i,none⟩=some (.int .u64 z)
theorem nK.later {w w':World} (h:nK w) (hb:Below w.heap.size w w'):nK w':=fun i hi=>by
 obtain⟨z,hz⟩:=h i hi
 have hlt:5<w.heap.size:=World.block_lt_of_cell? _ _ hz
 exact⟨z,(hb.cell (p:=⟨5,i,none⟩) hlt).trans hz⟩
theorem ziR (u q:Nat) (h2:u<18446744073709551616) (hq:Lib.l10 (Lib.bitLen u)=q) (h20:q<20) (z:Int) (w:World) (hcell:w.cell? ⟨5,q,none⟩=some (.int .u64 z)):
  Calls Tryz.prog 235 #[.int .u64 u] w fun e w'=>e=.returned (.int .i64 ((q+(if z≤(u:Int) then 1 else 0):Nat):Int))∧w'=w:=by
 have L:=Tryz.laysItoa
 have hL:Lib.bitLen u≤64:=Lib.bitLen_le u 64 (Nat.le_refl _) h2
 have hto:((u:Int)).toNat=u:=by omega
 have e144: ∀args w,(callFunc 144 args).run Tryz.prog w=.ok (.enter 144 args) w:=enters_of Tryz.func144 (by kernel_rfl) rfl
 have e238: ∀args w,(callFunc 238 args).run Tryz.prog w=.ok (.enter 238 args) w:=enters_of Tryz.func238 (by kernel_rfl) rfl
 have e239: ∀args w,(callFunc 239 args).run Tryz.prog w=.ok (.enter 239 args) w:=enters_of Tryz.func239 (by kernel_rfl) rfl
 have k144: ∀W,Calls Tryz.prog 144 #[.int .u64 u] W fun e w'=>e=.returned (.int .i64 (Lib.bitLen u))∧w'=W:=fun W=>by
  have h:=Any.bits_Len64 (P:=Tryz.prog) (ρ:=Tryz.laysItoa_ren) {L with} (u:Int) W (by omega) (by omega)
  rw[hto] at h
  exact h
 have k238: ∀W,Calls Tryz.prog 238 #[.int .i64 (Lib.bitLen u)] W fun e w'=>e=.returned (.int .i64 q)∧w'=W:=fun W=>by
  have h:=Any.internal_strconv_log10Pow2 (P:=Tryz.prog) (ρ:=Tryz.laysItoa_ren) {L with} (Lib.bitLen u) hL W
  rw[hq] at h
  exact h
 have k239: ∀b W,Calls Tryz.prog 239 #[.bool b] W fun e w'=>e=.returned (.int .i64 (if b then 1 else 0))∧w'=W:=fun b W=>
  Any.internal_strconv_bool2_int (P:=Tryz.prog) (ρ:=Tryz.laysItoa_ren) {L with} b W
 clear hL hto hq
 generalize Lib.bitLen u=bl at k144 k238
 by_cases hz:z≤(u:Int)
 ·rw[if_pos hz]
  go_enter Tryz.func235,Tryz.ntmps235
  go_wp2_with (first|(go_at_fn 144;refine(k144 _).mono ?_;rintro e w' ⟨rfl,rfl⟩)|(go_at_fn 238;refine(k238 _).mono ?_;rintro e w' ⟨rfl,rfl⟩)|(go_at_fn 239;refine(k239 _ _).mono ?_;rintro e w' ⟨rfl,rfl⟩))
  all_goals go_ret
  all_goals exact⟨by first|rfl|(congr 2;omega),rfl⟩
 ·rw[if_neg hz]
  go_enter Tryz.func235,Tryz.ntmps235
  go_wp2_with (first|(go_at_fn 144;refine(k144 _).mono ?_;rintro e w' ⟨rfl,rfl⟩)|(go_at_fn 238;refine(k238 _).mono ?_;rintro e w' ⟨rfl,rfl⟩)|(go_at_fn 239;refine(k239 _ _).mono ?_;rintro e w' ⟨rfl,rfl⟩))
  all_goals go_ret
  all_goals exact⟨by first|rfl|(congr 2;omega),rfl⟩
theorem ziS (w:World) (k:Nat) (os:Array Obj):Below w.heap.size w (grow (w.drewN k) os):=by
 have h1:Below w.heap.size w (w.drewN k):=by
  have: ∀k,Below w.heap.size w (w.drewN k):=fun k=>⟨by simp[World.drewN],by simp[World.drewN],by simp[World.drewN],by simp[World.drewN],fun _ _=>by simp[World.drewN]⟩
  exact this k
 refine h1.trans ⟨rfl,rfl,rfl,by simp[grow],fun i hi=>?_⟩
 show((w.drewN k).heap++os)[i]?=_
 exact Array.getElem?_append_left (by have:=h1.size;omega)
abbrev byF:UInt8→Value:=fun b=>Value.int .u8 (b.toNat:Int)
theorem ziT (dk:Array UInt8) (i:Nat) (h:i<dk.toList.length):dk.toList[i]=dk[i]! :=by
 have h2:i<dk.size:=by simpa using h
 rw[getElem!_pos dk i h2,Array.getElem_toList]
theorem zoj (n:Int) (h0: -9223372036854775808≤n) (h1:n≤9223372036854775807) (w:World) (ht:nK w):
  Calls Tryz.prog 233 #[.int .i64 n,.int .i64 10] w fun e w'=> ∃s:List UInt8,s.length≤21∧e=.returned (.string ⟨s.toArray⟩)∧Below w.heap.size w w':=by
 have L:=Tryz.laysItoa
 have e235: ∀args w,(callFunc 235 args).run Tryz.prog w=.ok (.enter 235 args) w:=enters_of Tryz.func235 (by kernel_rfl) rfl
 have e236: ∀args w,(callFunc 236 args).run Tryz.prog w=.ok (.enter 236 args) w:=enters_of Tryz.func236 (by kernel_rfl) rfl
 by_cases hs:0≤n∧n<100
 ·obtain⟨i,rfl⟩: ∃i:Nat,n=i:=⟨n.toNat,by omega⟩
  refine(Any.internal_strconv_FormatInt_10_small (P:=Tryz.prog) (ρ:=Tryz.laysItoa_ren) {L with} i (by omega) w).mono ?_
  rintro e w' ⟨rfl,rfl⟩
  have hl:=itoa_length_le (i:Int) (by omega) (by omega)
  rw[Lib.itoa_nonneg] at hl
  exact⟨Lib.decDigits i,by omega,rfl,Below.refl _ _⟩
 ·have hal:Tryz.prog.arrayLen 262=24:=by simp[Program.arrayLen,Tryz.underlying262]
  have hbA:=(Below.refl w.heap.size w).alloc (Nat.le_refl _) (.cells Lib.zeros24 262)
  by_cases hneg:n<0
  ·obtain⟨u,rfl⟩: ∃u:Nat,n= -(u:Int):=⟨n.natAbs,by omega⟩
   have hu1:1≤u:=by omega
   have hu64:u<18446744073709551616:=by omega
   obtain⟨q,hq⟩: ∃q,Lib.l10 (Lib.bitLen u)=q:=⟨_,rfl⟩
   have h19:q≤19:=by have:=(Lib.numDigits_eq u hu1 hu64).2;omega
   obtain⟨z,hz⟩:=(ht.later hbA) q (by omega)
   have knd:=ziR u q hu64 hq (by omega) z _ hz
   obtain⟨nd,hnd⟩: ∃nd,q+(if z≤(u:Int) then 1 else 0)=nd:=⟨_,rfl⟩
   have hnd20:nd≤20:=by rw[←hnd];split<;>omega
   rw[hnd] at knd
   clear hnd hz hq
   have hwr:IntKind.u64.wrap (-IntKind.u64.wrap (-(u:Int)))=(u:Int):=by rw[IntKind.wrap_u64,IntKind.wrap_u64];omega
   have hsl1: ∀W,(Instr.sliceAt 262 (.pointer (some ⟨w.heap.size,0,none⟩)) (some (.int .i64 1)) (some (.int .i64 (1+(nd:Int)))) none).run Tryz.prog W=.ok (.slice (some ⟨w.heap.size,1,none⟩) nd 23) W:=fun W=>by
    rw[run_sliceAt_array_lh W 262 ⟨w.heap.size,0,none⟩ (by simp[Program.arrayLen,Program.elem,Tryz.underlying262]) .i64 .i64 1 (1+(nd:Int)) (by omega) (by omega) (by rw[hal];omega)]
    go_simp
    omega
   have hsl2: ∀W,(Instr.sliceAt 262 (.pointer (some ⟨w.heap.size,0,none⟩)) none (some (.int .i64 (1+(nd:Int)))) none).run Tryz.prog W=.ok (.slice (some ⟨w.heap.size,0,none⟩) (1+nd) 24) W:=fun W=>by
    rw[run_sliceAt_array_h W 262 ⟨w.heap.size,0,none⟩ (by simp[Program.arrayLen,Program.elem,Tryz.underlying262]) .i64 (1+(nd:Int)) (by omega) (by rw[hal];omega)]
    go_simp
    omega
   have hH0:=Lib.holds_zero w 262 nd (by omega)
   have hfmt:=ziQ w.heap.size 1 23 u (Array.replicate nd 0) (w.alloc (.cells Lib.zeros24 262)) hH0 hu64 (by rw[Array.size_replicate];omega)
   rw[Array.size_replicate] at hfmt
   have HH0:=Lib.hid hH0
   have HB:=Lib.hid hbA
   have HT:=Lib.hid ht
   clear hH0 hal hbA ht
   go_enter Tryz.func233,Tryz.ntmps233
   go_wp2_with (first|(go_at_fn 235;refine knd.mono ?_;rintro e w' ⟨rfl,rfl⟩))
   go_at_fn 236
   refine hfmt.mono ?_
   rintro e w' ⟨rfl,k,dk,hdk,rfl⟩
   have hc0:((putRow byF (w.alloc (.cells Lib.zeros24 262)) w.heap.size 1 dk).drewN k).cell? ⟨w.heap.size,0,none⟩=some (.int .u8 0):=by
    rw[World.cell?_drewN,cell?_putRow_other _ _ _ _ _ _ (Or.inr (Or.inl (Nat.zero_lt_one))),World.cell?_alloc_new]
    exact Lib.zeros24_at 0 (by omega)
   have hf0:((putRow byF (w.alloc (.cells Lib.zeros24 262)) w.heap.size 1 dk).drewN k).frozen? ⟨w.heap.size,0,none⟩=false:=by
    rw[World.frozen?_drewN,frozen?_putRow]
    exact World.frozen?_alloc_new _ _ _ _
   have hcv:(convert 186 9 (.slice (some ⟨w.heap.size,0,none⟩) (1+nd) 24)).run Tryz.prog (((putRow byF (w.alloc (.cells Lib.zeros24 262)) w.heap.size 1 dk).drewN k).setCell ⟨w.heap.size,0,none⟩ (.int .u8 45))=.ok (.string ⟨(45::dk.toList).toArray⟩) (((putRow byF (w.alloc (.cells Lib.zeros24 262)) w.heap.size 1 dk).drewN k).setCell ⟨w.heap.size,0,none⟩ (.int .u8 45)):=by
    have h:=run_convert_bytes_back (P:=Tryz.prog) (((putRow byF (w.alloc (.cells Lib.zeros24 262)) w.heap.size 1 dk).drewN k).setCell ⟨w.heap.size,0,none⟩ (.int .u8 45)) 186 9 5 ⟨w.heap.size,0,none⟩ 24 (45::dk.toList) Tryz.underlying186 Tryz.underlying5 Tryz.underlying9 (fun j hj=>by
     rw[Lib.add_plain]
     cases j with
     |zero=>exact World.cell?_setCell_same _ _ _ hc0
     |succ i=>
      have hi:i<dk.toList.length:=by simpa using hj
      rw[World.cell?_setCell_other _ _ _ _ (by simp),List.getElem_cons_succ,ziT dk i hi,World.cell?_drewN,show 0+(i+1)=1+i by omega]
      exact cell?_putRow byF _ w.heap.size 1 _ dk HH0.out (by rw[hdk,Array.size_replicate]) i (by simpa using hi))
    rw[List.length_cons,Array.length_toList,hdk,Nat.add_comm] at h
    exact h
   go_wp2
   go_ret
   obtain⟨os,eo⟩:=Lib.fin_neg w (.cells Lib.zeros24 262) dk k (.int .u8 45)
   exact⟨45::dk.toList,by rw[List.length_cons,Array.length_toList,hdk];omega,rfl,by rw[eo];exact ziS w k os⟩
  ·obtain⟨u,rfl⟩: ∃u:Nat,n=u:=⟨n.toNat,by omega⟩
   have hu1:1≤u:=by omega
   have hu64:u<18446744073709551616:=by omega
   obtain⟨q,hq⟩: ∃q,Lib.l10 (Lib.bitLen u)=q:=⟨_,rfl⟩
   have h19:q≤19:=by have:=(Lib.numDigits_eq u hu1 hu64).2;omega
   obtain⟨z,hz⟩:=(ht.later hbA) q (by omega)
   have knd:=ziR u q hu64 hq (by omega) z _ hz
   obtain⟨nd,hnd⟩: ∃nd,q+(if z≤(u:Int) then 1 else 0)=nd:=⟨_,rfl⟩
   have hnd20:nd≤20:=by rw[←hnd];split<;>omega
   rw[hnd] at knd
   clear hnd hz hq
   have hsl1: ∀W,(Instr.sliceAt 262 (.pointer (some ⟨w.heap.size,0,none⟩)) (some (.int .i64 1)) (some (.int .i64 (1+(nd:Int)))) none).run Tryz.prog W=.ok (.slice (some ⟨w.heap.size,1,none⟩) nd 23) W:=fun W=>by
    rw[run_sliceAt_array_lh W 262 ⟨w.heap.size,0,none⟩ (by simp[Program.arrayLen,Program.elem,Tryz.underlying262]) .i64 .i64 1 (1+(nd:Int)) (by omega) (by omega) (by rw[hal];omega)]
    go_simp
    omega
   have hH0:=Lib.holds_zero w 262 nd (by omega)
   have hfmt:=ziQ w.heap.size 1 23 u (Array.replicate nd 0) (w.alloc (.cells Lib.zeros24 262)) hH0 hu64 (by rw[Array.size_replicate];omega)
   rw[Array.size_replicate] at hfmt
   have HH0:=Lib.hid hH0
   have HB:=Lib.hid hbA
   have HT:=Lib.hid ht
   clear hH0 hal hbA ht
   go_enter Tryz.func233,Tryz.ntmps233
   go_wp2_with (first|(go_at_fn 235;refine knd.mono ?_;rintro e w' ⟨rfl,rfl⟩))
   go_at_fn 236
   refine hfmt.mono ?_
   rintro e w' ⟨rfl,k,dk,hdk,rfl⟩
   have hcv:(convert 186 9 (.slice (some ⟨w.heap.size,1,none⟩) nd 23)).run Tryz.prog ((putRow byF (w.alloc (.cells Lib.zeros24 262)) w.heap.size 1 dk).drewN k)=.ok (.string ⟨dk.toList.toArray⟩) ((putRow byF (w.alloc (.cells Lib.zeros24 262)) w.heap.size 1 dk).drewN k):=by
    have h:=run_convert_bytes_back (P:=Tryz.prog) ((putRow byF (w.alloc (.cells Lib.zeros24 262)) w.heap.size 1 dk).drewN k) 186 9 5 ⟨w.heap.size,1,none⟩ 23 dk.toList Tryz.underlying186 Tryz.underlying5 Tryz.underlying9 (fun j hj=>by
     rw[ziT dk j hj,Lib.add_plain,World.cell?_drewN]
     exact cell?_putRow byF _ w.heap.size 1 _ dk HH0.out (by rw[hdk,Array.size_replicate]) j (by simpa using hj))
    rw[Array.length_toList,hdk] at h
    exact h
   go_wp2
   go_ret
   obtain⟨os,eo⟩:=Lib.fin_pos w (.cells Lib.zeros24 262) dk k
   exact⟨dk.toList,by rw[Array.length_toList,hdk];omega,rfl,by rw[eo];exact ziS w k os⟩
theorem ziU (n:Int) (h0: -9223372036854775808≤n) (h1:n≤9223372036854775807) (w:World) (ht:nK w):
  Calls Tryz.prog 231 #[.int .i64 n] w fun e w'=> ∃s:List UInt8,s.length≤21∧e=.returned (.string ⟨s.toArray⟩)∧Below w.heap.size w w':=by
 have e232: ∀args w,(callFunc 232 args).run Tryz.prog w=.ok (.enter 232 args) w:=enters_of Tryz.func232 (by kernel_rfl) rfl
 have e233: ∀args w,(callFunc 233 args).run Tryz.prog w=.ok (.enter 233 args) w:=enters_of Tryz.func233 (by kernel_rfl) rfl
 have k232: ∀W,nK W→Calls Tryz.prog 232 #[.int .i64 n] W fun e w'=> ∃s:List UInt8,s.length≤21∧e=.returned (.string ⟨s.toArray⟩)∧Below W.heap.size W w':=fun W hT=>by
  have HT:=Lib.hid (zoj n h0 h1 W hT)
  clear hT ht
  go_enter Tryz.func232,Tryz.ntmps232
  go_wp2_with (go_at_fn 233;refine HT.out.mono ?_;rintro e w' ⟨s,hs,rfl,hb⟩)
  go_ret
  exact⟨s,hs,rfl,hb⟩
 have HT:=Lib.hid (k232 w ht)
 clear k232 ht
 go_enter Tryz.func231,Tryz.ntmps231
 go_wp2_with (go_at_fn 232;refine HT.out.mono ?_;rintro e w' ⟨s,hs,rfl,hb⟩)
 go_ret
 exact⟨s,hs,rfl,hb⟩
end Go.Proofs
set_option maxRecDepth 100000
set_option maxHeartbeats 8000000
namespace Go.Proofs
open Go.RowKit Go.Abs Go.Wd Go.Wire Go.Ex
theorem ziV {w:World} (hG:yP (base w)):nK w:=fun i hi=>by
 obtain⟨_,b,hb,hp⟩:=hG.2 5 _ rfl
 have hb':w.heap[5]?=some b:=hb
 cases b with
 |cells cs t f=>
  obtain⟨z,hz⟩:=hp i hi
  exact⟨z,by simp only[World.cell?,hb'];exact hz⟩
 |_=>exact hp.elim
abbrev wW (w:World) (Bx:Nat) (d f:Txt) (lo hi:Int) (sum:Bool) (W:World):Prop:=
 W.cell? ⟨Bx,0,none⟩=some (tV d)∧W.cell? ⟨Bx,1,none⟩=some (tV f)∧W.cell? ⟨Bx,2,none⟩=some (.int .i64 lo)∧W.cell? ⟨Bx,3,none⟩=some (.int .i64 hi)∧W.cell? ⟨Bx,4,none⟩=some (.bool sum)∧Below w.heap.size w W
theorem wW.later {w W W':World} {Bx:Nat} {d f:Txt} {lo hi:Int} {sum:Bool} (h:wW w Bx d f lo hi sum W) (hb:Below W.heap.size W W'):wW w Bx d f lo hi sum W':=by
 obtain⟨h0,h1,h2,h3,h4,h8⟩:=h
 have hlt:Bx<W.heap.size:=World.block_lt_of_cell? _ _ h0
 have k: ∀j,W'.cell? ⟨Bx,j,none⟩=W.cell? ⟨Bx,j,none⟩:=fun j=>hb.cell (p:=⟨Bx,j,none⟩) hlt
 exact⟨(k 0).trans h0,(k 1).trans h1,(k 2).trans h2,(k 3).trans h3,(k 4).trans h4,h8.trans (hb.mono h8.size)⟩
theorem ziW {w W:World} {Bx:Nat} {d f:Txt} {lo hi:Int} {sum:Bool} (h:W.heap[Bx]?=some (.cells #[tV d,tV f,.int .i64 lo,.int .i64 hi,.bool sum] 171 (0,0))) (hb:Below w.heap.size w W):wW w Bx d f lo hi sum W:=by
 refine⟨?_,?_,?_,?_,?_,hb⟩<;>simp[World.cell?,h]
theorem ziX (d f:Txt) (lo hi:Int) (sum:Bool) (hd:d.length≤1000000) (hf:f.length≤1000000) (h1: -9223372036854775808≤lo) (h2:lo≤9223372036854775807) (h3: -9223372036854775808≤hi) (h4:hi≤9223372036854775807) (w:World) (hG:yP (base w)):
  Calls Tryz.prog 229 #[.agg #[tV d,tV f,.int .i64 lo,.int .i64 hi,.bool sum]] w fun e w'=> ∃s:Txt,s.length≤d.length+f.length+100∧e=.returned (.string ⟨s.toArray⟩)∧Below w.heap.size w w':=by
 have hg: ∀{W},Below w.heap.size w W→yP (base W):=fun hb=>hG.later (xU hb)
 have k202: ∀W,Below w.heap.size w W→Calls Tryz.prog 202 #[.agg #[tV d,tV f]] W fun e W'=>e=.returned (.string ⟨(d++wH++f).toArray⟩)∧Below W.heap.size W W':=fun W hb=>(gM d f hd hf).strC (hg hb) (Z:=zX W) (fun _ h=>h) (vT (r:=[.str d,.str f]) (by simp[C.sc]) (xX _ _))
 have kI1: ∀W,Below w.heap.size w W→Calls Tryz.prog 231 #[.int .i64 lo] W fun e W'=> ∃s:List UInt8,s.length≤21∧e=.returned (.string ⟨s.toArray⟩)∧Below W.heap.size W W':=fun W hb=>ziU lo h1 h2 W (ziV (hg hb))
 have kI2: ∀W,Below w.heap.size w W→Calls Tryz.prog 231 #[.int .i64 hi] W fun e W'=> ∃s:List UInt8,s.length≤21∧e=.returned (.string ⟨s.toArray⟩)∧Below W.heap.size W W':=fun W hb=>ziU hi h3 h4 W (ziV (hg hb))
 obtain⟨x,hx⟩: ∃x,d++wH++f=x:=⟨_,rfl⟩
 have hxl:Aside (x.length≤d.length+f.length+3):=show x.length≤d.length+f.length+3 from by
  have e:wH.length=3:=by decide
  rw[←hx,List.length_append,List.length_append,e];omega
 have hx2:x.length≤2000003:=by have:=hxl.out;omega
 rw[hx] at k202
 clear hx hg hG h1 h2 h3 h4
 have hdA:Aside (d.length≤1000000∧f.length≤1000000):=⟨hd,hf⟩
 clear hd hf
 have mixed:Tryz.prog.follows Departure.mixedOrders=true:=by kernel_rfl
 cases sum with
 |false=>
  go_enter Tryz.func229,Tryz.ntmps229
  go_wp2
  have hS1:wW w w.heap.size d f lo hi false (w.alloc (.cells #[tV d,tV f,.int .i64 lo,.int .i64 hi,.bool false] 171)).drew:=by
   exact ziW (World.alloc_heap_new w _) (((Below.refl _ w).alloc (Nat.le_refl _) _).trans ((vC _).mono (by simp)))
  go_region_held3 (fun W=>wW w w.heap.size d f lo hi false W) (first|exact hS1|exact wW.later hq3 hbO|exact wW.later hq2 hbN|exact wW.later hS1 hbM) (first|(go_at_call 202;refine(k202 _ (by simp[*])).mono ?_;rintro ex w2 ⟨rfl,hbM⟩;have hq2:=wW.later hS1 hbM)|(go_at_call 231;first|(refine(kI1 _ (by simp[*])).mono ?_;rintro ex w3 ⟨s1,hs1,rfl,hbN⟩;have hq3:=wW.later hq2 hbN)|(refine(kI2 _ (by simp[*])).mono ?_;rintro ex w4 ⟨s2,hs2,rfl,hbO⟩)))
  all_goals go_wp2
  all_goals go_ret
  all_goals refine⟨vY++x++tU++s1++tW++s2++wI,?_,?_,(wW.later hq3 hbO).2.2.2.2.2⟩
  all_goals first
   |rfl
   |(congr 1;done)
   |(have:=hxl.out;simp only[vY,tU,tW,wI,List.length_append,List.length_cons,List.length_nil];omega)
   |(congr 2;apply ByteArray.ext;simp[vY,tU,tW,wI];done)
   |(simp[vY,tU,tW,wI];done)
   |(congr 1;congr 1;apply ByteArray.ext;simp[vY,tU,tW,wI])
 |true=>
  go_enter Tryz.func229,Tryz.ntmps229
  go_wp2
  have hS1:wW w w.heap.size d f lo hi true (w.alloc (.cells #[tV d,tV f,.int .i64 lo,.int .i64 hi,.bool true] 171)).drew:=by
   exact ziW (World.alloc_heap_new w _) (((Below.refl _ w).alloc (Nat.le_refl _) _).trans ((vC _).mono (by simp)))
  go_region_held3 (fun W=>wW w w.heap.size d f lo hi true W) (first|exact hS1|exact wW.later hq3 hbO|exact wW.later hq2 hbN|exact wW.later hS1 hbM) (first|(go_at_call 202;refine(k202 _ (by simp[*])).mono ?_;rintro ex w2 ⟨rfl,hbM⟩;have hq2:=wW.later hS1 hbM)|(go_at_call 231;first|(refine(kI1 _ (by simp[*])).mono ?_;rintro ex w3 ⟨s1,hs1,rfl,hbN⟩;have hq3:=wW.later hq2 hbN)|(refine(kI2 _ (by simp[*])).mono ?_;rintro ex w4 ⟨s2,hs2,rfl,hbO⟩)))
  all_goals go_wp2
  all_goals go_ret
  all_goals refine⟨pS++x++tU++s1++tW++s2++wI,?_,?_,(wW.later hq3 hbO).2.2.2.2.2⟩
  all_goals first
   |rfl
   |(congr 1;done)
   |(have:=hxl.out;simp only[pS,tU,tW,wI,List.length_append,List.length_cons,List.length_nil];omega)
   |(congr 2;apply ByteArray.ext;simp[pS,tU,tW,wI];done)
   |(simp[pS,tU,tW,wI];done)
   |(congr 1;congr 1;apply ByteArray.ext;simp[pS,tU,tW,wI])
def dmV (m:Dmd):Array Value:=((zP m).map wG).toArray
structure ClsAt (w:World) (m:Dmd) (T:TypeId) (us:Array Value) (fd fn fw:FuncId):Prop where
 ed: ∀args W,(callFunc fd args).run Tryz.prog W=.ok (.enter fd args) W
 en: ∀args W,(callFunc fn args).run Tryz.prog W=.ok (.enter fn args) W
 ew: ∀args W,(callFunc fw args).run Tryz.prog W=.ok (.enter fw args) W
 md: ∀W,(method 369 T (.agg us) "allonge/require.demand").run Tryz.prog W=.ok (fd,.agg us) W
 mn: ∀W,(method 369 T (.agg us) "allonge/require.named").run Tryz.prog W=.ok (fn,.agg us) W
 mw: ∀W,(method 369 T (.agg us) "allonge/require.words").run Tryz.prog W=.ok (fw,.agg us) W
 kd: ∀W,Below w.heap.size w W→Calls Tryz.prog fd #[.agg us] W fun e W'=>e=.returned (.agg (dmV (fC m)))∧Below W.heap.size W W'
 kn: ∀W,Below w.heap.size w W→Calls Tryz.prog fn #[.agg us] W fun e W'=>e=.returned (.bool (kS m))∧Below W.heap.size W W'
 kw: ∀W,Below w.heap.size w W→Calls Tryz.prog fw #[.agg us] W fun e W'=> ∃s:Txt,(uL m=true→s.length≤1000)∧e=.returned (.string ⟨s.toArray⟩)∧Below W.heap.size W W'
theorem ziY {m:Dmd} (h:uL m=true) (ho:m.op=2∨m.op=4):m.doc.length≤20∧m.fld.length≤20:=by
 unfold uL at h
 simp only[Bool.and_eq_true] at h
 have h2:=h.2.2
 unfold kS at h2
 rw[if_neg (by omega),if_neg (by omega),if_neg (by omega)] at h2
 simp only[Bool.and_eq_true] at h2
 exact⟨rD h2.1.1,rD h2.1.2⟩
theorem zok (m:Dmd) (hm:DmdS m) (ho:okD m.op=true) (w:World) (hG:yP (base w)): ∃T us fd fn fw,clV m.op m.doc m.fld m.oth m.sec m.txt m.lo m.hi=.iface T (.agg us)∧ClsAt w m T us fd fn fw:=by
 have hg: ∀{W},Below w.heap.size w W→yP (base W):=fun hb=>hG.later (xU hb)
 obtain⟨op,d,f,o,s,t,lo,hi⟩:=m
 have hms:=hm
 obtain⟨hd,hf,hoo,hss,ht,l1,l2,h1,h2⟩:=hm
 simp only[] at hd hf hoo hss ht l1 l2 h1 h2 ho⊢
 by_cases q0:op=0
 ·subst q0
  refine⟨165,#[tV d],203,205,206,rfl,enters_of Tryz.func203 (by kernel_rfl) rfl,enters_of Tryz.func205 (by kernel_rfl) rfl,enters_of Tryz.func206 (by kernel_rfl) rfl,Tryz.m165demand _,Tryz.m165named _,Tryz.m165words _,fun W hb=>?_,fun W hb=>?_,fun W hb=>?_⟩
  ·exact(zmE d).aggC (by simp[zP,C.sc]) (hg hb) (Z:=zX W) (fun _ h=>h) (vT (r:=[.str d]) (by simp[C.sc]) (xX _ _))
  ·exact(zmD d hd).boolC (hg hb) (Z:=zX W) (fun _ h=>h) (vT (r:=[.str d]) (by simp[C.sc]) (xX _ _))
  ·refine Calls.mono ((zn6 d hd).strC (hg hb) (Z:=zX W) (fun _ h=>h) (vT (r:=[.str d]) (by simp[C.sc]) (xX _ _))) ?_
   rintro e W' ⟨he,hb2⟩
   exact⟨kT _,fun h=>zae hms h,he,hb2⟩
 by_cases q1:op=1
 ·subst q1
  refine⟨167,#[tV d,tV f,tV t],211,213,214,rfl,enters_of Tryz.func211 (by kernel_rfl) rfl,enters_of Tryz.func213 (by kernel_rfl) rfl,enters_of Tryz.func214 (by kernel_rfl) rfl,Tryz.m167demand _,Tryz.m167named _,Tryz.m167words _,fun W hb=>?_,fun W hb=>?_,fun W hb=>?_⟩
  ·exact(zmF d f t).aggC (by simp[zP,C.sc]) (hg hb) (Z:=zX W) (fun _ h=>h) (vT (r:=[.str d,.str f,.str t]) (by simp[C.sc]) (xX _ _))
  ·exact(zog d f t hd hf ht).boolC (hg hb) (Z:=zX W) (fun _ h=>h) (vT (r:=[.str d,.str f,.str t]) (by simp[C.sc]) (xX _ _))
  ·refine Calls.mono ((zoh d f t hd hf ht).strC (hg hb) (Z:=zX W) (fun _ h=>h) (vT (r:=[.str d,.str f,.str t]) (by simp[C.sc]) (xX _ _))) ?_
   rintro e W' ⟨he,hb2⟩
   exact⟨kT _,fun h=>zae hms h,he,hb2⟩
 by_cases q3:op=3
 ·subst q3
  refine⟨169,#[tV d,tV f,tV o,tV s],221,223,224,rfl,enters_of Tryz.func221 (by kernel_rfl) rfl,enters_of Tryz.func223 (by kernel_rfl) rfl,enters_of Tryz.func224 (by kernel_rfl) rfl,Tryz.m169demand _,Tryz.m169named _,Tryz.m169words _,fun W hb=>?_,fun W hb=>?_,fun W hb=>?_⟩
  ·exact(zmG d f o s).aggC (by simp[zP,C.sc]) (hg hb) (Z:=zX W) (fun _ h=>h) (vT (r:=[.str d,.str f,.str o,.str s]) (by simp[C.sc]) (xX _ _))
  ·exact(zmH d f o s hd hf hoo hss).boolC (hg hb) (Z:=zX W) (fun _ h=>h) (vT (r:=[.str d,.str f,.str o,.str s]) (by simp[C.sc]) (xX _ _))
  ·refine Calls.mono ((zn7 d f o s hd hf hoo hss).strC (hg hb) (Z:=zX W) (fun _ h=>h) (vT (r:=[.str d,.str f,.str o,.str s]) (by simp[C.sc]) (xX _ _))) ?_
   rintro e W' ⟨he,hb2⟩
   exact⟨kT _,fun h=>zae hms h,he,hb2⟩
 have ar: ∀(W:World) (b:Bool),wK W (zX W) [.agg [.str d,.str f,.int .i64 lo,.int .i64 hi,.bool b]] (#[.agg #[tV d,tV f,.int .i64 lo,.int .i64 hi,.bool b]]:Array Value).toList:=fun W b=>vT (r:=[.str d,.str f,.int .i64 lo,.int .i64 hi,.bool b]) (by simp[C.sc]) (xX _ _)
 by_cases q2:op=2
 ·subst q2
  refine⟨171,#[tV d,tV f,.int .i64 lo,.int .i64 hi,.bool false],226,228,229,rfl,enters_of Tryz.func226 (by kernel_rfl) rfl,enters_of Tryz.func228 (by kernel_rfl) rfl,enters_of Tryz.func229 (by kernel_rfl) rfl,Tryz.m171demand _,Tryz.m171named _,Tryz.m171words _,fun W hb=>?_,fun W hb=>?_,fun W hb=>?_⟩
  ·exact(zhN d f lo hi false).aggC (by simp[zP,C.sc]) (hg hb) (Z:=zX W) (fun _ h=>h) (ar W false)
  ·exact(zhO d f lo hi false hd hf).boolC (hg hb) (Z:=zX W) (fun _ h=>h) (ar W false)
  ·refine(ziX d f lo hi false hd hf l1 l2 h1 h2 W (hg hb)).mono ?_
   rintro e W' ⟨s1,hs1,he,hb2⟩
   refine⟨s1,fun h=>?_,he,hb2⟩
   have:=ziY h (by simp)
   simp only[] at this
   omega
 by_cases q4:op=4
 ·subst q4
  refine⟨171,#[tV d,tV f,.int .i64 lo,.int .i64 hi,.bool true],226,228,229,rfl,enters_of Tryz.func226 (by kernel_rfl) rfl,enters_of Tryz.func228 (by kernel_rfl) rfl,enters_of Tryz.func229 (by kernel_rfl) rfl,Tryz.m171demand _,Tryz.m171named _,Tryz.m171words _,fun W hb=>?_,fun W hb=>?_,fun W hb=>?_⟩
  ·exact(zhN d f lo hi true).aggC (by simp[zP,C.sc]) (hg hb) (Z:=zX W) (fun _ h=>h) (ar W true)
  ·exact(zhO d f lo hi true hd hf).boolC (hg hb) (Z:=zX W) (fun _ h=>h) (ar W true)
  ·refine(ziX d f lo hi true hd hf l1 l2 h1 h2 W (hg hb)).mono ?_
   rintro e W' ⟨s1,hs1,he,hb2⟩
   refine⟨s1,fun h=>?_,he,hb2⟩
   have:=ziY h (by simp)
   simp only[] at this
   omega
 ·exfalso
  simp[okD,q0,q1,q2,q3,q4] at ho
def kU (w:World) (L:List Dmd) (p:Option Addr) (b o:Nat):Prop:=(0<L.length→p=some ⟨b,o,none⟩∧b<w.heap.size)∧ ∀k,k<L.length→ ∀j u,(dmV (L.getD k yL))[j]?=some u→w.cell? ⟨b,o+k*8+j,none⟩=some u
theorem kU.at {w:World} {L:List Dmd} {p:Option Addr} {b o:Nat} (h:kU w L p b o) {k:Nat} (hk:k<L.length) {W:World} (hb:Below w.heap.size w W) (m:Dmd) (e:L.getD k yL=m):
  W.cell? ⟨b,o+k*8,none⟩=some (.int .i64 m.op)∧W.cell? ⟨b,o+k*8+1,none⟩=some (.string ⟨m.doc.toArray⟩)∧W.cell? ⟨b,o+k*8+2,none⟩=some (.string ⟨m.fld.toArray⟩)∧W.cell? ⟨b,o+k*8+3,none⟩=some (.string ⟨m.oth.toArray⟩)∧
  W.cell? ⟨b,o+k*8+4,none⟩=some (.string ⟨m.sec.toArray⟩)∧W.cell? ⟨b,o+k*8+5,none⟩=some (.string ⟨m.txt.toArray⟩)∧W.cell? ⟨b,o+k*8+6,none⟩=some (.int .i64 m.lo)∧W.cell? ⟨b,o+k*8+7,none⟩=some (.int .i64 m.hi):=by
 subst e
 have hlt:=(h.1 (by omega)).2
 have key: ∀j u,(dmV (L.getD k yL))[j]?=some u→W.cell? ⟨b,o+k*8+j,none⟩=some u:=fun j u hu=>(hb.cell (p:=⟨b,o+k*8+j,none⟩) hlt).trans (h.2 k hk j u hu)
 exact⟨key 0 _ rfl,key 1 _ rfl,key 2 _ rfl,key 3 _ rfl,key 4 _ rfl,key 5 _ rfl,key 6 _ rfl,key 7 _ rfl⟩
theorem zol (a b:Txt):((⟨a.toArray⟩:ByteArray).toList==(⟨b.toArray⟩:ByteArray).toList)=decide (a=b):=by
 rw[ByteArray.toList_eq,ByteArray.toList_eq,Bool.eq_iff_iff,beq_iff_eq,decide_eq_true_eq]
theorem zom (m m2:Dmd) (w:World):Sem.run Tryz.prog (binOp .neq 46 (.agg (dmV m)) (.agg (dmV m2))) w=.ok (.bool (!decide (m=m2))) w:=by
 rw[run_neq_struct,run_equalIn_agg (P:=Tryz.prog) w 9999 46 _ _ (by kernel_rfl) (by kernel_rfl)]
 obtain⟨op,d,f,ot,s,t,lo,hi⟩:=m
 obtain⟨op2,d2,f2,ot2,s2,t2,lo2,hi2⟩:=m2
 simp only[Dmd.mk.injEq]
 simp[go_sem,dmV,zP,wG,zol]
 by_cases h1:op=op2<;>simp[h1]
 by_cases h2:d=d2<;>simp[h2]
 by_cases h3:f=f2<;>simp[h3]
 by_cases h4:ot=ot2<;>simp[h4]
 by_cases h5:s=s2<;>simp[h5]
 by_cases h6:t=t2<;>simp[h6]
 by_cases h7:lo=lo2<;>simp[h7]
 by_cases h8:hi=hi2<;>simp[h8]
theorem zon (o:BinOp) (a b:Operand) (m m2:Dmd) (w:World):Sem.run Tryz.prog (eqGuard o 46 a b (.agg (dmV m)) (.agg (dmV m2))) w=.ok () w:=run_eqGuard_agg _ _ _ _ _ _ _ (by kernel_rfl)
theorem zaf {L:List Dmd} {m:Dmd} (hm:m∈L) (h: ¬L.length≤20∨uL m=false):uS L=false:=by
  unfold uS
  rw[Bool.or_eq_false_iff]
  refine⟨decide_eq_false (by rintro rfl;cases hm),?_⟩
  rw[Bool.and_eq_false_iff]
  rcases h with h|h
  ·exact .inl (decide_eq_false h)
  ·right
   rw[List.all_eq_false]
   exact⟨m,hm,by rw[h];simp⟩
abbrev wC (w:World) (Bx:Nat) (op:Int) (d f ot s t:Txt) (lo hi:Int) (W:World):Prop:=
 W.cell? ⟨Bx,0,none⟩=some (.int .i64 op)∧W.cell? ⟨Bx,1,none⟩=some (.string ⟨d.toArray⟩)∧W.cell? ⟨Bx,2,none⟩=some (.string ⟨f.toArray⟩)∧W.cell? ⟨Bx,3,none⟩=some (.string ⟨ot.toArray⟩)∧
 W.cell? ⟨Bx,4,none⟩=some (.string ⟨s.toArray⟩)∧W.cell? ⟨Bx,5,none⟩=some (.string ⟨t.toArray⟩)∧W.cell? ⟨Bx,6,none⟩=some (.int .i64 lo)∧W.cell? ⟨Bx,7,none⟩=some (.int .i64 hi)∧Below w.heap.size w W
theorem zag {w W:World} {Bx:Nat} {op:Int} {d f ot s t:Txt} {lo hi:Int} (h:W.heap[Bx]?=some (.cells #[.int .i64 op,.string ⟨d.toArray⟩,.string ⟨f.toArray⟩,.string ⟨ot.toArray⟩,.string ⟨s.toArray⟩,.string ⟨t.toArray⟩,.int .i64 lo,.int .i64 hi] 46 (0,0))) (hb:Below w.heap.size w W):wC w Bx op d f ot s t lo hi W:=by
 refine⟨?_,?_,?_,?_,?_,?_,?_,?_,hb⟩<;>simp[World.cell?,h]
theorem wC.later {w W W':World} {Bx:Nat} {op:Int} {d f ot s t:Txt} {lo hi:Int} (h:wC w Bx op d f ot s t lo hi W) (hb:Below W.heap.size W W'):wC w Bx op d f ot s t lo hi W':=by
 obtain⟨h0,h1,h2,h3,h4,h5,h6,h7,h8⟩:=h
 have hlt:Bx<W.heap.size:=World.block_lt_of_cell? _ _ h0
 have k: ∀j,W'.cell? ⟨Bx,j,none⟩=W.cell? ⟨Bx,j,none⟩:=fun j=>hb.cell (p:=⟨Bx,j,none⟩) hlt
 exact⟨(k 0).trans h0,(k 1).trans h1,(k 2).trans h2,(k 3).trans h3,(k 4).trans h4,(k 5).trans h5,(k 6).trans h6,(k 7).trans h7,h8.trans (hb.mono h8.size)⟩
theorem zah {W W':World} {base e k:Nat} {v:Value} {xs:List Value} (h:W.ownsRow base e 1 v k xs) {B:World} (_:Below B.heap.size B W) (hb:Below W.heap.size W W'):W'.ownsRow base e 1 v k xs:=
 h.kept (mK hb) (by cases v.ownBlock<;>simp)
theorem ziZ: ∀(l:List Txt),(∀s∈l,s.length≤1000)→xF l≤l.length*1000
 |[],_=>by simp[xF]
 |m::l,h=>by
  have:=ziZ l fun x hx=>h x (List.mem_cons_of_mem _ hx)
  have h2:=h m (by simp)
  simp only[xF,List.length_cons];omega
theorem zoo (base:Nat) (v:Value) (l:List Txt) (W:World) (h:W.ownsRow base 9 1 v l.length (l.map tV)) (hn:l.length≤1000) (hs:xF l≤1000000):
  Calls Tryz.prog 101 #[v,.string ⟨#[32]⟩] W fun e w'=>e=.returned (.string ⟨(joinS [32] l).toArray⟩)∧Below W.heap.size W w':=by
 rcases h with⟨_,⟨hv,h0⟩|⟨g,cap,cur,hv,hg,hh,h5,h6,h7,h8⟩⟩
 ·obtain rfl:=List.eq_nil_of_length_eq_zero h0
  subst hv
  exact aH 0 none _ W
 ·subst hv
  have hc: ∀j,j<l.length→W.cell? ⟨g,j,none⟩=some (.string ⟨(l.getD j []).toArray⟩):=by
   intro j hj
   have h9:=congrArg (fun x:List Value=>x[j]?) h8
   simp only[Nat.mul_one,List.getElem?_take_of_lt hj,List.getElem?_map,List.getElem?_eq_getElem hj,Option.map_some] at h9
   rw[Array.getElem?_toList] at h9
   simp only[World.cell?,hh]
   simp only[Option.isSome_none,Bool.false_eq_true,if_false]
   rw[h9,List.getD_eq_getElem?_getD,List.getElem?_eq_getElem hj];rfl
  rcases Nat.lt_or_ge l.length 2 with h2|h2
  ·rcases Nat.lt_or_ge l.length 1 with h1|h1
   ·obtain rfl:=List.eq_nil_of_length_eq_zero (by omega:l.length=0)
    exact aH cap _ _ W
   ·obtain⟨t,rfl⟩:=List.length_eq_one_iff.1 (by omega:l.length=1)
    exact zhV cap g 0 _ _ W (hc 0 (by simp)) h5
  ·exact zhU l [32] cap g 0 W (Array.getElem?_eq_some_iff.1 hh).1 (fun k hk=>by rw[Nat.zero_add];exact hc k hk) h2 hn h5 (by decide) (by decide) hs
theorem zop (L:List Dmd) (hL:L.length≤8) (hm: ∀m∈L,DmdS m) (w:World) (hG:yP (base w)) (p:Option Addr) (cap b o:Nat) (hD:kU w L p b o):
  Calls Tryz.prog 63 #[.slice p L.length cap] w fun e w'=> ∃X:Txt,e=.returned (.tuple #[.string ⟨X.toArray⟩,.bool (uS L)])∧Below w.heap.size w w':=by
 obtain⟨n,hN⟩: ∃n,L.length=n:=⟨_,rfl⟩
 have hN':Aside (L.length=n):=hN
 rw[hN] at hL⊢
 have hp:0<n→p=some ⟨b,o,none⟩:=fun h=>(hD.1 (by omega)).1
 have HD:Aside (kU w L p b o):=hD
 clear hN hD
 obtain⟨i0,hif,hz0,hz1,hz2⟩:=info_parts (show(Tryz.prog.info? 9).map (fun i=>(i.zero,i.size,i.bytes))=some (some (.string ⟨#[]⟩),1,16) by kernel_rfl)
 have mixed:Tryz.prog.follows Departure.mixedOrders=true:=by kernel_rfl
 go_enter Tryz.func63,Tryz.ntmps63
 go_wp2
 go_loopg [4,12] n (fun g v i wr=> ∃k:Nat,k≤n∧n-k=g∧i=.int .i64 k∧(k=0∨n≤20)∧(L.take k).all uL=true∧(∃Ws:List Txt,Ws.length=k∧(∀s∈Ws,s.length≤1000)∧wr.ownsRow w.heap.size 9 1 v k (Ws.map tV))∧Below w.heap.size w wr)
 case atStart=>exact⟨0,Nat.zero_le _,rfl,rfl,.inl rfl,rfl,⟨[],rfl,by simp,World.ownsRow_nil _ _ _ _⟩,Below.refl _ _⟩
 case round=>
  obtain⟨k,hkn,rfl,rfl,hk0,hall,⟨Ws,hWl0,hWb0,hown⟩,hb⟩:=hrel
  have hWl:Aside (Ws.length=k):=hWl0
  have hWb:Aside (∀s∈Ws,s.length≤1000):=hWb0
  clear hWl0 hWb0
  by_cases hlt:k<n
  ·have hkl:(k:Int)<n:=by omega
   obtain⟨m,hmk⟩: ∃m,L.getD k yL=m:=⟨_,rfl⟩
   have hmem:m∈L:=by
    rw[←hmk,List.getD_eq_getElem?_getD,List.getElem?_eq_getElem (by rw[hN'.out];exact hlt)]
    exact List.getElem_mem _
   obtain⟨c0,c1,c2,c3,c4,c5,c6,c7⟩:=HD.out.at (by rw[hN'.out];exact hlt) hb m hmk
   have hs:=hm m hmem
   obtain rfl:=hp (by omega)
   obtain⟨op,d,f,ot,s,t,lo,hi⟩:=m
   simp only[] at c0 c1 c2 c3 c4 c5 c6 c7
   have hB2: ∀o1,Below w.heap.size w (wr.alloc o1):=fun o1=>hb.alloc hb.size _
   have k79:=zhF op d f ot s t lo hi
   simp only[tV] at k79
   rw[show okO op=okD op from rfl] at k79
   cases hok:okD op with
   |false=>
    have hpr:Aside (uS L=false):=zaf hmem (.inr (by unfold uL;simp only[];rw[hok];rfl))
    rw[hok] at k79
    go_wp2_with (go_at_call 79;refine(k79 _).mono ?_;rintro ex w1 ⟨rfl,hb1⟩)
    go_ret2
    rw[hpr.out]
    exact⟨[],rfl,(hB2 _).trans (hb1.mono (hB2 _).size)⟩
   |true=>
    rw[hok] at k79
    by_cases h20:n≤20
    ·have h20': ¬(n:Int)>20:=by omega
     obtain⟨T,us,fd,fn,fw,hcl,hC⟩:=zok ⟨op,d,f,ot,s,t,lo,hi⟩ hs hok w hG
     simp only[tV] at hcl
     rw[hcl] at k79
     clear hcl
     have ed:=hC.ed
     have en:=hC.en
     have md:=hC.md
     have mn:=hC.mn
     have kd:=hC.kd
     have kn:=hC.kn
     obtain⟨dm,hdm⟩: ∃dm,fC ⟨op,d,f,ot,s,t,lo,hi⟩=dm:=⟨_,rfl⟩
     rw[hdm] at kd
     have HDM:Aside (fC ⟨op,d,f,ot,s,t,lo,hi⟩=dm):=hdm
     clear hdm
     have hne:=zom ⟨op,d,f,ot,s,t,lo,hi⟩ dm
     have hgd:=fun o a b=>zon o a b ⟨op,d,f,ot,s,t,lo,hi⟩ dm
     obtain⟨op2,d2,f2,ot2,s2,t2,lo2,hi2⟩:=dm
     have ev: ∀op d f ot s t lo hi,dmV ⟨op,d,f,ot,s,t,lo,hi⟩= #[.int .i64 op,.string ⟨d.toArray⟩,.string ⟨f.toArray⟩,.string ⟨ot.toArray⟩,.string ⟨s.toArray⟩,.string ⟨t.toArray⟩,.int .i64 lo,.int .i64 hi]:=fun _ _ _ _ _ _ _ _=>rfl
     rw[ev] at kd
     rw[ev,ev] at hne
     rw[ev,ev] at hgd
     clear ev
     have hQ1: ∀o1 w1,(Below (wr.alloc o1).heap.size (wr.alloc o1) w1)→w1.heap[wr.heap.size]?=some o1∧Below w.heap.size w w1:=fun o1 w1 hb1=>⟨(hb1.block _ (by simp)).trans (World.alloc_heap_new _ _),(hB2 _).trans (hb1.mono (hB2 _).size)⟩
     have hQ1b: ∀o1 w1,(Below (wr.alloc o1).heap.size (wr.alloc o1) w1)→Below wr.heap.size wr w1:=fun o1 w1 hb1=>((Below.refl _ wr).alloc (Nat.le_refl _) o1).trans (hb1.mono (by simp))
     by_cases heq:(⟨op,d,f,ot,s,t,lo,hi⟩:Dmd)=⟨op2,d2,f2,ot2,s2,t2,lo2,hi2⟩
     ·have hdec:decide ((⟨op,d,f,ot,s,t,lo,hi⟩:Dmd)=⟨op2,d2,f2,ot2,s2,t2,lo2,hi2⟩)=true:=decide_eq_true heq
      rw[hdec,Bool.not_true] at hne
      have HEQ:Aside ((⟨op,d,f,ot,s,t,lo,hi⟩:Dmd)=⟨op2,d2,f2,ot2,s2,t2,lo2,hi2⟩):=heq
      clear hdec heq
      cases hnm:kS ⟨op,d,f,ot,s,t,lo,hi⟩ with
      |false=>
       have hpr:Aside (uS L=false):=zaf hmem (.inr (by unfold uL;rw[hnm,Bool.and_false,Bool.and_false]))
       rw[hnm] at kn
       go_wp2_with (go_at_call 79;refine(k79 _).mono ?_;rintro ex w1 ⟨rfl,hb1⟩)
       obtain⟨hq1,hb2⟩:=hQ1 _ _ hb1
       have hfin:Aside (∀w',Below w1.drew.heap.size w1.drew w'→Below w.heap.size w w'):=fun w' h=>hb2.trans (((vC w1).trans h).mono hb2.size)
       have hS1:wC w wr.heap.size op d f ot s t lo hi w1.drew:=(zag hq1 hb2).later (vC w1)
       go_region_held3 (fun W=>wC w wr.heap.size op d f ot s t lo hi W) (first|exact hS1|exact wC.later (by assumption) hbN|exact wC.later (by assumption) hbM) (first|(go_at_fn fd;refine(kd _ (by simp[*])).mono ?_;rintro ex w2 ⟨rfl,hbM⟩)|(go_at_fn fn;refine(kn _ (by simp[*])).mono ?_;rintro ex w3 ⟨rfl,hbN⟩))
       go_wp2
       go_ret2
       rw[hpr.out]
       exact⟨[],rfl,hfin.out _ (hbM.trans (hbN.mono hbM.size))⟩
      |true=>
       have hfine:uL ⟨op,d,f,ot,s,t,lo,hi⟩=true:=by
        unfold uL
        rw[HDM.out,hnm,hok,Bool.true_and,Bool.and_true]
        exact decide_eq_true HEQ.out
       have htk:L.take (k+1)=L.take k++[⟨op,d,f,ot,s,t,lo,hi⟩]:=by
        have hkL:k<L.length:=by rw[hN'.out];exact hlt
        rw[List.take_succ_eq_append_getElem hkL]
        rw[List.getD_eq_getElem?_getD,List.getElem?_eq_getElem hkL] at hmk
        rw[←hmk];rfl
       have HFN:Aside (uL ⟨op,d,f,ot,s,t,lo,hi⟩=true):=hfine
       have HA:Aside ((L.take (k+1)).all uL=true):=show _=_ by rw[htk,List.all_append,hall];simp[hfine]
       clear htk hfine
       rw[hnm] at kn
       have kw:=hC.kw
       have ew:=hC.ew
       have mw:=hC.mw
       go_wp2_with (go_at_call 79;refine(k79 _).mono ?_;rintro ex w1 ⟨rfl,hb1⟩)
       obtain⟨hq1,hb2⟩:=hQ1 _ _ hb1
       have hfin:Aside (∀w',Below w1.drew.heap.size w1.drew w'→Below w.heap.size w w'):=fun w' h=>hb2.trans (((vC w1).trans h).mono hb2.size)
       have hS1:wC w wr.heap.size op d f ot s t lo hi w1.drew:=(zag hq1 hb2).later (vC w1)
       go_region_held3 (fun W=>wC w wr.heap.size op d f ot s t lo hi W) (first|exact hS1|exact wC.later (by assumption) hbN|exact wC.later (by assumption) hbM) (first|(go_at_fn fd;refine(kd _ (by simp[*])).mono ?_;rintro ex w2 ⟨rfl,hbM⟩)|(go_at_fn fn;refine(kn _ (by simp[*])).mono ?_;rintro ex w3 ⟨rfl,hbN⟩))
       have hB3:=hfin.out _ (hbM.trans (hbN.mono hbM.size))
       have hown3:=(zah (zah hown hb (hQ1b _ _ hb1)) hb2 ((vC w1).trans (hbM.trans (hbN.mono hbM.size))))
       go_wp2_with (first|(go_at_fn fw;refine(kw _ hB3).mono ?_;rintro ex w4 ⟨sw,hsw0,rfl,hb4⟩;have hsw:Aside (sw.length≤1000):=hsw0 HFN.out;clear hsw0;have hown4:=zah hown3 hB3 hb4)|(at_builtin;refine wpList_append_own_at _ rfl _ _ 51 rfl w.heap.size 9 i0 (.string ⟨#[]⟩) 1 16 Tryz.underlying51 hif hz0 hz1 hz2 rfl (by decide) _ _ _ rfl (hown4.alloc _) ⟨w4.heap.size,0,none⟩ 1 1 [tV sw] rfl rfl (cell_one_new _ _ _) (by intro u hu;rw[List.mem_singleton.1 hu];rfl) (by unfold maxLen;omega) (by omega) (Nat.le_trans (hB3.trans (hb4.mono hB3.size)).size (by simp)) ?_;intro v6 w6 hr6 hg6 hnil6 hat6;clear hnil6))
       have hB4:=hB3.trans (hb4.mono hB3.size)
       have hB5:=hB4.alloc hB4.size (.cells #[tV sw] 9)
       have hB6:Below w.heap.size w w6:=hB5.grown hg6 hB5.size (fun j hj=>(hown4.lt j hj).1)
       go_roundg (n-(k+1))
       case measure=>omega
       case rel=>exact⟨k+1,by omega,rfl,by go_num,.inr h20,HA.out,⟨Ws++[sw],by rw[List.length_append,hWl.out];rfl,fun s hs=>(List.mem_append.1 hs).elim (hWb.out s) (fun q=>by rw[List.mem_singleton.1 q];exact hsw.out),by rw[List.map_append];exact hr6⟩,hB6⟩
     ·have hdec:decide ((⟨op,d,f,ot,s,t,lo,hi⟩:Dmd)=⟨op2,d2,f2,ot2,s2,t2,lo2,hi2⟩)=false:=decide_eq_false heq
      have hpr:Aside (uS L=false):=zaf hmem (.inr (by unfold uL;rw[HDM.out,hdec,Bool.false_and,Bool.and_false]))
      rw[hdec,Bool.not_false] at hne
      clear hdec heq
      go_wp2_with (go_at_call 79;refine(k79 _).mono ?_;rintro ex w1 ⟨rfl,hb1⟩)
      obtain⟨hq1,hb2⟩:=hQ1 _ _ hb1
      have hfin:Aside (∀w',Below w1.drew.heap.size w1.drew w'→Below w.heap.size w w'):=fun w' h=>hb2.trans (((vC w1).trans h).mono hb2.size)
      have hS1:wC w wr.heap.size op d f ot s t lo hi w1.drew:=(zag hq1 hb2).later (vC w1)
      refine wp_region_held (S:=fun W=>wC w wr.heap.size op d f ot s t lo hi W) mixed ?_
      show wpAnyH _ _ _ _ _ 9 _ _ _
      refine wpAnyH_take (S:=fun W=>wC w wr.heap.size op d f ot s t lo hi W) (i:=0) (v:=.agg #[.int .i64 op,.string ⟨d.toArray⟩,.string ⟨f.toArray⟩,.string ⟨ot.toArray⟩,.string ⟨s.toArray⟩,.string ⟨t.toArray⟩,.int .i64 lo,.int .i64 hi]) rfl (by kernel_rfl) (by kernel_rfl) (by kernel_rfl) (fun c a w h=>h) (.inl ⟨rfl,fun W hS=>?_⟩) hS1 ?_
      ·obtain⟨z0,z1,z2,z3,z4,z5,z6,z7,_⟩:=hS
       go_simp
      simp only[Act.put,List.setIfInBounds_toArray,List.set_cons_zero,List.set_cons_succ]
      refine wpAnyH_take (S:=fun W=>wC w wr.heap.size op d f ot s t lo hi W) (i:=1) (v:=.iface T (.agg us)) rfl (by kernel_rfl) (by kernel_rfl) (by kernel_rfl) (fun c a w h=>h) (.inl ⟨rfl,fun W hS=>?_⟩) hS1 ?_
      ·obtain⟨z0,z1,z2,z3,z4,z5,z6,z7,_⟩:=hS
       go_simp
      simp only[Act.put,List.setIfInBounds_toArray,List.set_cons_zero,List.set_cons_succ]
      refine wpAnyH_all (rs:=[2]) (by kernel_rfl) (by simp) fun i hiq=>?_
      obtain rfl:=List.mem_singleton.1 hiq
      refine Or.inl (?_:Oper.wp Tryz.prog _ _ _ _ _)
      go_wp2_with (go_at_fn fd;refine(kd _ hS1.2.2.2.2.2.2.2.2).mono ?_;rintro ex w2 ⟨rfl,hbM⟩)
      have hS2:wC w wr.heap.size op d f ot s t lo hi w2:=hS1.later hbM
      refine⟨hS2,?_⟩
      refine wpAnyH_take (S:=fun W=>wC w wr.heap.size op d f ot s t lo hi W) (i:=3) (v:=.bool true) rfl (by kernel_rfl) (by kernel_rfl) (by kernel_rfl) (fun c a w h=>h) (.inl ⟨rfl,fun W hS=>?_⟩) hS2 ?_
      ·obtain⟨z0,z1,z2,z3,z4,z5,z6,z7,_⟩:=hS
       go_simp
      simp only[Act.put,List.setIfInBounds_toArray,List.set_cons_zero,List.set_cons_succ]
      refine wpAnyH_take (S:=fun W=>wC w wr.heap.size op d f ot s t lo hi W) (i:=4) (v:=.bool true) rfl (by kernel_rfl) (by kernel_rfl) (by kernel_rfl) (fun c a w h=>h) (.inl ⟨rfl,fun W hS=>?_⟩) hS2 ?_
      ·obtain⟨z0,z1,z2,z3,z4,z5,z6,z7,_⟩:=hS
       go_simp
      simp only[Act.put,List.setIfInBounds_toArray,List.set_cons_zero,List.set_cons_succ]
      refine wpAnyH_take (S:=fun W=>wC w wr.heap.size op d f ot s t lo hi W) (i:=5) (v:=undef) rfl (by kernel_rfl) (by kernel_rfl) (by kernel_rfl) (fun c a w h=>h) (.inr ⟨rfl,rfl⟩) hS2 ?_
      simp only[Act.put,List.setIfInBounds_toArray,List.set_cons_zero,List.set_cons_succ]
      refine wpAnyH_take (S:=fun W=>wC w wr.heap.size op d f ot s t lo hi W) (i:=6) (v:=undef) rfl (by kernel_rfl) (by kernel_rfl) (by kernel_rfl) (fun c a w h=>h) (.inr ⟨rfl,rfl⟩) hS2 ?_
      simp only[Act.put,List.setIfInBounds_toArray,List.set_cons_zero,List.set_cons_succ]
      refine wpAnyH_take (S:=fun W=>wC w wr.heap.size op d f ot s t lo hi W) (i:=7) (v:=undef) rfl (by kernel_rfl) (by kernel_rfl) (by kernel_rfl) (fun c a w h=>h) (.inr ⟨rfl,rfl⟩) hS2 ?_
      simp only[Act.put,List.setIfInBounds_toArray,List.set_cons_zero,List.set_cons_succ]
      refine wpAnyH_take (S:=fun W=>wC w wr.heap.size op d f ot s t lo hi W) (i:=8) (v:=.bool true) rfl (by kernel_rfl) (by kernel_rfl) (by kernel_rfl) (fun c a w h=>h) (.inl ⟨rfl,fun W hS=>?_⟩) hS2 ?_
      ·obtain⟨z0,z1,z2,z3,z4,z5,z6,z7,_⟩:=hS
       go_simp
      simp only[Act.put,List.setIfInBounds_toArray,List.set_cons_zero,List.set_cons_succ]
      refine wpAnyH_done (S:=fun W=>wC w wr.heap.size op d f ot s t lo hi W) (by kernel_rfl) ?_ _
      go_wp2
      go_ret2
      rw[hpr.out]
      exact⟨[],rfl,hfin.out _ hbM⟩
    ·exact absurd (show n≤20 by omega) h20
  ·obtain rfl:k=n:=by omega
   have hkl: ¬(k:Int)<k:=by omega
   have htk:L.take k=L:=List.take_of_length_le (by rw[hN'.out];exact Nat.le_refl _)
   rw[htk] at hall
   have hfl:uS L=true:=by
    unfold uS
    rw[Bool.or_eq_true,Bool.and_eq_true,decide_eq_true_eq,decide_eq_true_eq]
    rcases hk0 with h|h
    ·exact .inl (List.eq_nil_of_length_eq_zero (by rw[hN'.out];exact h))
    ·exact .inr ⟨by rw[hN'.out];exact h,hall⟩
   have hsum:xF Ws≤Ws.length*1000:=ziZ Ws hWb.out
   have hk20:k≤8:=hL
   have hWk:=hWl.out
   have hJ:Aside (Calls Tryz.prog 101 #[u4,.string ⟨#[32]⟩] wr fun e w'=>e=.returned (.string ⟨(joinS [32] Ws).toArray⟩)∧Below wr.heap.size wr w'):=by
    show Calls _ _ _ _ _
    refine zoo w.heap.size u4 Ws wr (by rw[hWk];exact hown) (by omega) (by omega)
   have hXl:=gN [32] Ws
   simp only[List.length_cons,List.length_nil] at hXl
   obtain⟨X,hX⟩: ∃X,joinS [32] Ws=X:=⟨_,rfl⟩
   rw[hX] at hJ hXl
   have hle:X.length≤20000:=by omega
   have hsz:(⟨X.toArray⟩:ByteArray).size=X.length:=by show X.toArray.size=_;simp
   have HFL:Aside (uS L=true):=hfl
   clear hown hall htk hfl hsum hX hm hk0 hkn hk20 hp HD hN' hif hz0 hz1 hz2 hG hXl hWk hWl hWb
   have hle': ¬(X.length:Int)>20000:=by omega
   go_wp2_with (go_at_call 101;refine Calls.mono hJ.out ?_;rintro e w' ⟨rfl,hb2⟩)
   go_ret2
   rw[HFL.out]
   exact⟨X,rfl,hb.trans (hb2.mono hb.size)⟩
end Go.Proofs
set_option maxRecDepth 100000
set_option maxHeartbeats 8000000
namespace Go.Proofs
open Go.RowKit Go.Shelf Go.Abs Go.Wd Go.Wire Go.Ex
attribute [local go_sem] Oper.semAt_some
abbrev U8:Type:={x:Nat//x<256}
def zai (x:U8):Array Value:= #[.int .u64 (x.1:Int)]
structure FailAt (L:List Dmd) (D:List Dcm) (b1 b2 b3 b4:Nat) (vl vd vc:Value) (W:World):Prop where
 c1:W.cell? ⟨b1,0,none⟩=some (.int .i64 (yJ D:Nat))
 c2:W.cell? ⟨b2,0,none⟩=some vl
 c3:W.cell? ⟨b3,0,none⟩=some vd
 c4:W.cell? ⟨b4,0,none⟩=some vc
 pl:PRep W (zX W) (zC 8 (L.map zP)) vl
 pd:PRep W (zX W) (zC 2 (D.map zR)) vd
 pc:PRep W (zX W) (zC 1 (zK (cnts D).1)) vc
 gl:yP (base W)
theorem FailAt.later {L:List Dmd} {D:List Dcm} {b1 b2 b3 b4:Nat} {vl vd vc:Value} {W W':World} (h:FailAt L D b1 b2 b3 b4 vl vd vc W) (hb:Below W.heap.size W W'):FailAt L D b1 b2 b3 b4 vl vd vc W':=by
 have k: ∀(b:Nat) v,W.cell? ⟨b,0,none⟩=some v→W'.cell? ⟨b,0,none⟩=some v:=fun b v h0=>(hb.cell (p:=⟨b,0,none⟩) (World.block_lt_of_cell? _ _ h0)).trans h0
 exact⟨k _ _ h.c1,k _ _ h.c2,k _ _ h.c3,k _ _ h.c4,uF h.pl hb,uF h.pd hb,uF h.pc hb,h.gl.later (xU hb)⟩
theorem zoq {l:List Nat} {j:Nat} (h:j<l.length):wM (l.take (j+1))=wM (l.take j)|||(1<<<l[j]):=by
 unfold wM
 rw[List.take_succ_eq_append_getElem h,List.foldl_append];rfl
theorem zi0 {s t:Nat} (hs:s<256) (ht:t<256):IntKind.u64.wrap ((BitVec.ofInt IntKind.u64.bits (s:Int)|||BitVec.ofInt IntKind.u64.bits (t:Int)).toNat:Int)=((s|||t:Nat):Int):=by
 show IntKind.u64.wrap ((BitVec.ofInt 64 (s:Int)|||BitVec.ofInt 64 (t:Int)).toNat:Int)=_
 rw[mR,mR,BitVec.toNat_or,BitVec.toNat_ofNat,BitVec.toNat_ofNat,Nat.mod_eq_of_lt (by omega),Nat.mod_eq_of_lt (by omega)]
 exact nH (Nat.lt_of_lt_of_le (Nat.or_lt_two_pow (n:=8) hs ht) (by decide))
theorem orK (s x:Nat) (hs:s<2 ^ 8) (hx:x<8):Value.int IntKind.u64 (bits BinOp.or IntKind.u64 (s:Int) (IntKind.u64.wrap (2 ^ x)))=Value.int IntKind.u64 ((s|||1<<<x:Nat):Int):=by
 have h1:=zac x (by omega)
 have e:min x IntKind.u64.bits=x:=Nat.min_eq_left (show x≤64 by omega)
 rw[e,Int.one_mul] at h1
 rw[h1]
 have h2:1<<<x<256:=by rw[Nat.one_shiftLeft];exact(Nat.pow_lt_pow_right (by decide) hx:2 ^ x<2 ^ 8)
 rw[←zi0 hs h2]
 rfl
abbrev SF (L:List Dmd) (D:List Dcm) (b1 b2 b3 b4:Nat) (vl vd vc:Value) (w wr:World) (Kp:World→World→Prop) (W:World):Prop:=
 W.cell? ⟨b2,0,none⟩=some vl∧W.cell? ⟨b3,0,none⟩=some vd∧W.cell? ⟨b4,0,none⟩=some vc∧FailAt L D b1 b2 b3 b4 vl vd vc W∧Kp w W∧Below wr.heap.size wr W
theorem zor (n:Nat) (hn:3≤n) (L:List Dmd) (D:List Dcm) (hL:L.length≤8) (hD:sX D) (hok:CntOk D) (hp: ∀i,i<yJ D→vA (rdsD D i)) (b1 b2 b3 b4:Nat) (vl vd vc:Value) (w:World)
  (Kp:World→World→Prop) (hKr:Kp w w) (hKt: ∀A B C,Kp A B→Kp B C→Kp A C) (hKb: ∀A B,Kp w A→Below A.heap.size A B→Kp w B) (hW: ∀W,Kp w W→FailAt L D b1 b2 b3 b4 vl vd vc W):
  bZ Fence.wide n Tryz.prog 102 #[.pointer (some ⟨b1,0,none⟩),.pointer (some ⟨b2,0,none⟩),.pointer (some ⟨b3,0,none⟩),.pointer (some ⟨b4,0,none⟩)] zai Kp (fun xs=>xs.map (fun x=>x.1)=yH L D) (yJ D) w:=by
 intro l J W hKW hJ hY h0
 have h1n:1≤n:=by omega
 have mixed:Tryz.prog.follows Departure.mixedOrders=true:=by kernel_rfl
 have hle:=hok.le
 have hlen:(yH L D).length=yJ D:=by simp[yH]
 obtain⟨N,hN⟩: ∃N,yJ D=N:=⟨_,rfl⟩
 have hF0:=hW W hKW
 have c1:=hF0.c1
 rw[hN] at c1 hle hlen hp hY
 have k38: ∀(k:Nat) W',k<N→FailAt L D b1 b2 b3 b4 vl vd vc W'→Calls Tryz.prog 38 #[vd,vc,.int .i64 k] W' fun e W''=> ∃v,e=.returned v∧Below W'.heap.size W' W''∧PRep W'' (zX W'') (zC 3 (xQ (rdsD D k))) v:=fun k W' hk h=>
  (c38 D hD hok k (by omega)).listC h.gl (Z:=zX W') (fun _ h=>h) (vN h.pd (vN h.pc (vN (.int .i64 (k:Int)) (xX _ _))))
 have k15: ∀(k:Nat) W' v,k<N→FailAt L D b1 b2 b3 b4 vl vd vc W'→PRep W' (zX W') (zC 3 (xQ (rdsD D k))) v→Calls Tryz.prog 15 #[vl,v] W' fun e W''=> ∃p b o cap,e=.returned (.slice p (tP L (rdsD D k)).length cap)∧Below W'.heap.size W' W''∧mS W'' p b o (natI (tP L (rdsD D k))):=fun k W' v hk h hv=>by
  refine((c15 L (rdsD D k) (by omega) (hp k hk)).listC h.gl (Z:=zX W') (fun _ h=>h) (vN h.pl (vN hv (xX _ _)))).mono ?_
  rintro e W'' ⟨v2,rfl,hb,hp2⟩
  obtain⟨p,b,o,cap,rfl,hi⟩:=aY hp2
  rw[vL] at*
  exact⟨p,b,o,cap,rfl,hb,hi⟩
 refine callsIn_of_wp Tryz.func102 rfl trivial ?_ rfl
 simp only[Tryz.ntmps102,List.size_toArray,List.length_cons,List.length_nil,Nat.reduceAdd,Nat.reduceSub,Array.replicate_succ,Array.replicate_zero,List.push_toArray,List.append_toArray,List.nil_append,List.cons_append]
 gi_wp2
 gi_loopw [11] (fun q wr=> ∃(k:Nat) (pre:List U8),k≤N∧q=.int .i64 k∧pre.map (fun x=>x.1)=(yH L D).take k∧pre.length=k∧J pre wr∧Kp w wr)
  (fun q wr=>match q with| .int _ z=>N-z.toNat|_=>0)
 case atStart=>exact⟨0,[],Nat.zero_le _,rfl,rfl,rfl,h0,hKW⟩
 case round=>
  obtain⟨k,pre,hk,rfl,hpre,hpl,hJw,hKp⟩:=hrel
  by_cases hlt:k<N
  ·have hlti:(k:Int)<N:=by omega
   have hF:=hW wr hKp
   have hS0:SF L D b1 b2 b3 b4 vl vd vc w wr Kp wr.drew:=⟨hF.c2,hF.c3,hF.c4,hF.later (vC wr),hKb _ _ hKp (vC wr),vC wr⟩
   have hSl: ∀A B,SF L D b1 b2 b3 b4 vl vd vc w wr Kp A→Below A.heap.size A B→SF L D b1 b2 b3 b4 vl vd vc w wr Kp B:=fun A B hA hb=>⟨(hA.2.2.2.1.later hb).c2,(hA.2.2.2.1.later hb).c3,(hA.2.2.2.1.later hb).c4,hA.2.2.2.1.later hb,hKb _ _ hA.2.2.2.2.1 hb,hA.2.2.2.2.2.trans (hb.mono hA.2.2.2.2.2.size)⟩
   clear hF
   have A0:Aside _:=hF0
   have A1:Aside _:=hY
   have A2:Aside _:=hJ
   have A3:Aside _:=hJw
   clear hF0 hY hJ hJw h0 hW
   gi_wp2
   refine wpIn_wide.2 ?_
   go_region_held3 (fun W=>SF L D b1 b2 b3 b4 vl vd vc w wr Kp W) (first|exact hS0|exact hSl _ _ (by assumption) hb3|exact hSl _ _ (by assumption) hb2) (first|(go_at_call 15;refine(k15 k _ v18 hlt (by simp[*]) hp2).mono ?_;rintro e w3 ⟨p,b,o,cap,rfl,hb3,hi3⟩)|(go_at_call 38;refine(k38 k _ hlt (by simp[*])).mono ?_;rintro e w2 ⟨v18,rfl,hb2,hp2⟩))
   have hS3:SF L D b1 b2 b3 b4 vl vd vc w wr Kp w3:=by assumption
   have hx8: ∀x∈tP L (rdsD D k),x<8:=fun x hx=>Nat.lt_of_lt_of_le (gQ.1 hx).1 hL
   have hm8:(tP L (rdsD D k)).length≤8:=Nat.le_trans (List.length_filter_le _ _) (by simpa using hL)
   have HX:Aside ((yH L D).take (k+1)=(yH L D).take k++[wM (tP L (rdsD D k))]):=show _=_ by
    rw[List.take_succ_eq_append_getElem (by rw[hlen];exact hlt)]
    simp[yH]
   obtain⟨hi4,hi5⟩:=hi3
   rw[vL] at hi4 hi5
   have B3:Aside _:=hS3.2.2.2.2.1
   have B4:Aside _:=hS3.2.2.2.2.2
   obtain⟨F,hFe⟩: ∃F,tP L (rdsD D k)=F:=⟨_,rfl⟩
   rw[hFe] at hx8 hm8 HX hi4 hi5
   rw[hFe]
   have HI:Aside (∀j,j<F.length→w3.cell? ⟨b,o+j,none⟩=some (.int .i64 ((natI F).getD j 0))):=hi5
   obtain⟨m,hm⟩: ∃m,F.length=m:=⟨_,rfl⟩
   have HM:Aside (F.length=m):=hm
   rw[hm] at hm8 hi4⊢
   clear hi5 hS3 hp2 hFe hm k15 k38 hS0 hSl
   gi_wp2
   gi_loopw [7,21] (fun s q w5=> ∃j:Nat,j≤m∧q=.int .i64 j∧s=.int .u64 (wM (F.take j):Nat)∧w5=w3)
    (fun s q w5=>match q with| .int _ z=>m-z.toNat|_=>0)
   case atStart=>exact⟨0,Nat.zero_le _,rfl,rfl,rfl⟩
   case round=>
    obtain⟨j,hj,rfl,rfl,rfl⟩:=hrel
    by_cases hjm:j<m
    ·have hjF:j<F.length:=by rw[HM.out];exact hjm
     have hcj:=HI.out j hjF
     have hgd:(natI F).getD j 0=(F[j]:Int):=by simp[natI,List.getD,hjF]
     rw[hgd] at hcj
     obtain rfl:=hi4 (by omega)
     have hjmi:(j:Int)<m:=by omega
     have HT:Aside (wM (F.take (j+1))=wM (F.take j)|||(1<<<F[j])):=zoq hjF
     have hxj:=hx8 _ (List.getElem_mem hjF)
     have hs8:wM (F.take j)<2 ^ 8:=gR fun q hq=>hx8 q (List.mem_of_mem_take hq)
     obtain⟨x,hx⟩: ∃x,F[j]=x:=⟨_,rfl⟩
     obtain⟨s,hs⟩: ∃s,wM (F.take j)=s:=⟨_,rfl⟩
     rw[hx] at hcj HT hxj
     rw[hs] at HT hs8⊢
     clear hx hs hgd hjF hx8
     gi_wp2
     refine⟨⟨j+1,hjm,by rw[Int.natCast_add];rfl,?_,trivial⟩,by simp only[];omega⟩
     rw[HT.out,orK s x hs8 hxj]
    ·obtain rfl:j=m:=by omega
     have htk:F.take j=F:=List.take_of_length_le (by rw[HM.out];exact Nat.le_refl _)
     rw[htk]
     have hjj: ¬(j:Int)<j:=by omega
     have hF8:wM F<256:=gR (m:=8) fun q hq=>hx8 q hq
     obtain⟨fn,tmps,assign,body,hy,hR⟩:=A1.out pre ⟨wM F,hF8⟩ wr (A2.out _ _ _ A3.out B4.out) (by rw[hpl];exact hlt)
     simp only[zai] at hy
     clear hx8
     gi_wp2
     refine hR.mono ?_
     rintro e W3 ⟨rfl,hJ3,hk3⟩
     gi_wp2
     refine⟨⟨k+1,pre++[⟨wM F,hF8⟩],hlt,by rw[Int.natCast_add];rfl,by rw[HX.out,List.map_append,hpre];rfl,by rw[List.length_append,hpl];rfl,hJ3,hKt _ _ _ B3.out hk3⟩,by simp only[];omega⟩
  ·obtain rfl:k=N:=by omega
   have hkk: ¬(k:Int)<k:=by omega
   have hall:pre.map (fun x=>x.1)=yH L D:=by rw[hpre,List.take_of_length_le (by omega)]
   clear k38 k15 hW hY hJ
   gi_wp2
   go_end0
   exact⟨⟨_,rfl⟩,pre,hall,hJw⟩
end Go.Proofs
set_option maxRecDepth 100000
set_option maxHeartbeats 8000000
namespace Go.Ex
theorem zi1 (x:Nat): ∀(F acc:List Nat),yU (F++[x]) acc=if x∈yU F acc then yU F acc else yU F acc++[x]
 |[],acc=>rfl
 |f::F,acc=>by rw[List.cons_append,yU,yU,zi1 x F]
theorem zaj (F acc:List Nat):(yU F acc).length≤F.length+acc.length:=by
 induction F generalizing acc with
 |nil=>simp[yU]
 |cons f F ih=>
  rw[yU]
  refine Nat.le_trans (ih _) ?_
  split<;>simp<;>omega
end Go.Ex
namespace Go.Proofs
open Go.RowKit Go.Shelf Go.Abs Go.Wd Go.Wire Go.Ex Go.Maps Go.ChangeMaps
def wX (W:World) (mb:Nat) (S:List Nat) (m:Nat):Prop:= ∃D:DataW Unit,W.ownsMap Tryz.prog 71 (plainElem Tryz.prog 4) mb m D∧IsMap D∧ ∀x:Nat,x<256→D.atKey (.int .u64 (x:Int)) (.lit (.bool false))=.lit (.bool (decide (x∈S)))
theorem zi2:Keyed Tryz.prog 71:=int_keyed Tryz.underlying71
theorem wfU (x:Nat) (h:x<256):(Lit.int .u64 (x:Int)).wf=true:=by
 have:IntKind.u64.wrap (x:Int)=x:=nH (by omega)
 have e1:IntKind.u64.min=0:=by decide
 have e2:IntKind.u64.max=18446744073709551615:=by decide
 simp[Lit.wf,this]
 rw[e1,e2]
 omega
theorem zi3 (x:Nat) (h:x<256):keyOf Tryz.prog 71 (.int .u64 (x:Int))=some (.int .u64 (x:Int)):=keyOf_int_mk Tryz.underlying71 (wfU x h)
theorem wX.made (w:World):wX (w.alloc (.map #[] 0)) w.heap.size [] 0:=⟨.map [],World.ownsMap_made _ _ _ _,⟨[],rfl⟩,fun x _=>by simp;rfl⟩
theorem wX.kept {W W':World} {mb m:Nat} {S:List Nat} {row:Option Nat} (h:wX W mb S m) (hg:W.grownBy W' row) (hne:some mb≠row):wX W' mb S m:=by
 obtain⟨D,h1,h2,h3⟩:=h
 exact⟨D,h1.kept hg hne,h2,h3⟩
theorem wX.setCell {W:World} {mb m:Nat} {S:List Nat} (h:wX W mb S m) {a:Addr} (ha:mb≠a.block) (u:Value):wX (W.setCell a u) mb S m:=by
 obtain⟨D,h1,h2,h3⟩:=h
 exact⟨D,h1.setCell ha u,h2,h3⟩
theorem wX.lt {W:World} {mb m:Nat} {S:List Nat} (h:wX W mb S m):mb<W.heap.size:=by
 obtain⟨D,h1,_⟩:=h
 exact h1.lt
theorem wX.look {W:World} {mb m:Nat} {S:List Nat} (h:wX W mb S m) {x:Nat} (hx:x<256):(Instr.lookup 115 (.map (some mb)) (.int .u64 (x:Int)) false).run Tryz.prog W=.ok (.bool (decide (x∈S))) W:=by
 obtain⟨D,h1,h2,h3⟩:=h
 have hz:(zeroValue 4).run Tryz.prog W=.ok (.bool false) W:=by kernel_rfl
 obtain⟨v,ps,hr,hv⟩:=h1.lookup zi2 Tryz.underlying115 hz (plainElem_bool Tryz.underlying4 false) (zi3 x hx)
 rw[h3 x hx] at hv
 unfold plainElem at hv
 rw[Tryz.underlying4] at hv
 cases v<;>simp at hv
 rw[hr,hv.1]
theorem wX.put {W:World} {mb m:Nat} {S:List Nat} (h:wX W mb S m) (hm:m<maxLen) {x:Nat} (hx:x<256): ∃W',(Instr.mapUpdate 115 (.map (some mb)) (.int .u64 (x:Int)) (.bool true)).run Tryz.prog W=.ok () W'∧wX W' mb (S++[x]) (m+1)∧W.grownBy W' (some mb):=by
 obtain⟨D,h1,h2,h3⟩:=h
 obtain⟨W',hr,ho,hg⟩:=h1.update zi2 Tryz.underlying115 hm (zi3 x hx) (plainElem_bool Tryz.underlying4 true)
 refine⟨W',hr,⟨_,ho,h2.put _ _,fun y hy=>?_⟩,hg⟩
 by_cases e:y=x
 ·subst e
  rw[atKey_put_same h2 (show WideAt.IsKeyLit (.int .u64 (y:Int)) from trivial)]
  simp
 ·rw[atKey_put_other (fun q=>e (by injection q with _ q;omega)),h3 y hy]
  simp[e]
structure LkI (n0:Nat) (w W0:World) (N bv bs bm mb:Nat) (pre:List U8) (W:World):Prop where
 v: ∃vs:Value,W.heap[bv]?=some (.cells #[vs,.int .u64 ((pre.map fun x=>x.1).foldl (· &&& ·) n0:Nat),.int .u64 0] 73 (0,0))∧W.ownsRow N 71 1 vs (yU (pre.map fun x=>x.1) []).length ((yU (pre.map fun x=>x.1) []).map fun(s:Nat)=>Value.int .u64 (s:Int))
 s:W.heap[bs]?=some (.cells #[.int .u64 ((pre.map fun x=>x.1).foldl (· ||| ·) 0:Nat)] 71 (0,0))
 m:W.heap[bm]?=some (.cells #[.map (some mb)] 115 (0,0))
 mp:wX W mb (yU (pre.map fun x=>x.1) []) pre.length
 kp:KpR N bv bs mb W0 W
 bl:Below w.heap.size w W
theorem zi4 {W:World} {base e k:Nat} {v:Value} {xs:List Value} (h:W.ownsRow base e 1 v k xs) {g:Nat} (hg:v.ownBlock=some g): ∃cur,W.heap[g]?=some (.cells cur e (0,0))∧base≤g:=by
 rcases h with⟨_,⟨hv,_⟩|⟨g2,cap,cur,hv,hb,hh,_⟩⟩
 ·subst hv;simp[Value.ownBlock] at hg
 ·subst hv
  simp[Value.ownBlock] at hg
  subst hg
  exact⟨cur,hh,hb⟩
theorem LkI.own {n0:Nat} {w W0:World} {N bv bs bm mb:Nat} (hv:bv<N) (hs:bs<N) (hm:bm<N) (hmb:mb<N) (hw:w.heap.size≤N) (hW:N≤W0.heap.size):OwnFrom N (LkI n0 w W0 N bv bs bm mb):=by
 rintro pre A B row ⟨⟨vs,k1,k2⟩,k3,k4,k5,k6,k7⟩ hg hr
 have hsz:N≤A.heap.size:=Nat.le_trans hW k6.1
 have hb: ∀j,j<N→B.heap[j]?=A.heap[j]?:=fun j hj=>hg.block j (by omega) (fun e=>by have:=(hr j e.symm).1;omega)
 refine⟨⟨vs,(hb _ hv).trans k1,k2.kept hg ?_⟩,(hb _ hs).trans k3,(hb _ hm).trans k4,k5.kept hg (fun e=>by have:=(hr mb e.symm).1;omega),k6.trans (KpR.grown hsz hg fun r e=>(hr r e).1),k7.grown hg (Nat.le_trans hw hsz) fun r e=>by have:=(hr r e).1;omega⟩
 cases q:vs.ownBlock with
 |none=>exact .inl rfl
 |some g=>
  right
  intro e
  obtain⟨cur,hc,_⟩:=zi4 k2 q
  obtain⟨_,o,ho,hno⟩:=hr g e.symm
  rw[hc] at ho
  cases ho
  cases hno
theorem zi5 {n0:Nat} {w W0:World} {N bv bs bm mb:Nat} {pre:List U8} {W W3:World} {vs:Value} {x:U8} (h:LkI n0 w W0 N bv bs bm mb pre W) (nv:bv<N) (ns:bs<N) (nm:mb<N) (nb:bm<N) (d1:bv≠bs) (d2:bv≠mb) (d3:bs≠mb) (d4:bm≠bv) (d5:bm≠bs) (gv:w.heap.size≤bv) (gs:w.heap.size≤bs) (hN:N≤W.heap.size)
  (hv:W3.heap[bv]?=some (.cells #[vs,.int .u64 ((pre.map fun x=>x.1).foldl (· &&& ·) n0:Nat),.int .u64 0] 73 (0,0))) (hs:W3.heap[bs]?=W.heap[bs]?) (hm:W3.heap[bm]?=W.heap[bm]?)
  (hr:W3.ownsRow N 71 1 vs (yU ((pre++[x]).map fun x=>x.1) []).length ((yU ((pre++[x]).map fun x=>x.1) []).map fun(s:Nat)=>Value.int .u64 (s:Int))) (hp:wX W3 mb (yU ((pre++[x]).map fun x=>x.1) []) (pre.length+1))
  (kp:KpR N bv bs mb W W3) (bl:Below w.heap.size w W3) (kf:KeepsFrom N W W3) (a b:Nat) (ha:a=((pre++[x]).map fun x=>x.1).foldl (· &&& ·) n0) (hb:b=((pre++[x]).map fun x=>x.1).foldl (· ||| ·) 0):
  KeepsFrom N W ((W3.setCell ⟨bv,1,none⟩ (.int .u64 (a:Int))).setCell ⟨bs,0,none⟩ (.int .u64 (b:Int)))∧KpR N bv bs mb W ((W3.setCell ⟨bv,1,none⟩ (.int .u64 (a:Int))).setCell ⟨bs,0,none⟩ (.int .u64 (b:Int)))∧LkI n0 w W0 N bv bs bm mb (pre++[x]) ((W3.setCell ⟨bv,1,none⟩ (.int .u64 (a:Int))).setCell ⟨bs,0,none⟩ (.int .u64 (b:Int))):=by
 subst ha hb
 have e1:=vX W3 bv 1 _ 73 (0,0) (.int .u64 (((pre++[x]).map fun x=>x.1).foldl (· &&& ·) n0:Nat)) hv
 obtain⟨X,hX⟩: ∃X,W3.setCell ⟨bv,1,none⟩ (.int .u64 (((pre++[x]).map fun x=>x.1).foldl (· &&& ·) n0:Nat))=X:=⟨_,rfl⟩
 have oX: ∀j,j≠bv→X.heap[j]?=W3.heap[j]?:=fun j hj=>by rw[←hX];exact uJ _ _ _ _ hj
 have szX:X.heap.size=W3.heap.size:=by rw[←hX];simp
 have rX:X.ownsRow N 71 1 vs (yU ((pre++[x]).map fun x=>x.1) []).length ((yU ((pre++[x]).map fun x=>x.1) []).map fun(s:Nat)=>Value.int .u64 (s:Int)):=by rw[←hX];exact ownsRow_setCell_below hr nv _
 have pX:wX X mb (yU ((pre++[x]).map fun x=>x.1) []) (pre.length+1):=by rw[←hX];exact hp.setCell (fun e=>d2 e.symm) _
 have bX:Below w.heap.size w X:=by rw[←hX];exact bl.setCell (p:=⟨bv,1,none⟩) gv _
 rw[hX] at e1⊢
 have hsX:X.heap[bs]?=some (.cells #[.int .u64 ((pre.map fun x=>x.1).foldl (· ||| ·) 0:Nat)] 71 (0,0)):=(oX bs (Ne.symm d1)).trans (hs.trans h.s)
 have e2:=vX X bs 0 _ 71 (0,0) (.int .u64 (((pre++[x]).map fun x=>x.1).foldl (· ||| ·) 0:Nat)) hsX
 have oY: ∀j,j≠bs→(X.setCell ⟨bs,0,none⟩ (.int .u64 (((pre++[x]).map fun x=>x.1).foldl (· ||| ·) 0:Nat))).heap[j]?=X.heap[j]?:=fun j hj=>uJ _ _ _ _ hj
 have rY:=ownsRow_setCell_below rX (a:=⟨bs,0,none⟩) ns (.int .u64 (((pre++[x]).map fun x=>x.1).foldl (· ||| ·) 0:Nat))
 have pY:=pX.setCell (a:=⟨bs,0,none⟩) (fun e=>d3 e.symm) (.int .u64 (((pre++[x]).map fun x=>x.1).foldl (· ||| ·) 0:Nat))
 have bY:=bX.setCell (p:=⟨bs,0,none⟩) gs (.int .u64 (((pre++[x]).map fun x=>x.1).foldl (· ||| ·) 0:Nat))
 have szY:(X.setCell ⟨bs,0,none⟩ (.int .u64 (((pre++[x]).map fun x=>x.1).foldl (· ||| ·) 0:Nat))).heap.size=W3.heap.size:=by simp[szX]
 generalize X.setCell ⟨bs,0,none⟩ (.int .u64 (((pre++[x]).map fun x=>x.1).foldl (· ||| ·) 0:Nat))=Y at e2 oY rY pY bY szY⊢
 have oW: ∀j,j≠bv→j≠bs→Y.heap[j]?=W3.heap[j]?:=fun j h1 h2=>(oY j h2).trans (oX j h1)
 have kY:KpR N bv bs mb W Y:=⟨by have:=kp.1;omega,fun j hj h1 h2 h3=>(oW j h1 h2).trans (kp.2 j hj h1 h2 h3)⟩
 refine⟨⟨by have:=kf.size;omega,fun j o hj ho hc=>(oW j (by omega) (by omega)).trans (kf.same j o hj ho hc)⟩,kY,⟨⟨vs,(oY bv d1).trans e1,rY⟩,e2,((oW bm d4 d5).trans hm).trans h.m,by rw[List.length_append];exact pY,h.kp.trans kY,bY⟩⟩
end Go.Proofs
set_option maxRecDepth 100000
set_option maxHeartbeats 8000000
namespace Go.Abs
open Go.Proofs Go.RowKit Go.Lib Go.Wd Go.Wire Go.Ex
theorem Spec.list2C {P:Program} {f:FuncId} {xs:List V} {c:C} {k k':IntKind} {n m:Int} (h:Spec P f xs (fun r'=>r'=.tup [.k (.c c),.int k n,.int k' m])) {W:World} (hG:yP (base W)) {Z:Bk→Prop} (hz: ∀b,Z b→b.2<W.heap.size) {vs:Array Value} (ha:wK W Z xs vs.toList):
  Calls P f vs W fun e W'=> ∃v,e=.returned (.tuple #[v,.int k n,.int k' m])∧Below W.heap.size W W'∧PRep W' (zX W') c v:=by
 refine(h.2 W Z vs hG hz ha).mono ?_
 rintro e w' ⟨v,r',rfl,rfl,_,hrep⟩
 obtain⟨κ,hi⟩:=hrep 0
 have h0:=hi.tmps 0
 obtain⟨us,hu,hl,hv⟩:=h0
 have hu':v=.tuple us:=hu
 subst hu'
 obtain⟨l⟩:=us
 match l,hl,hv with
 |[x,y,z],_,hv=>
  have h1:=vH hv.2.1.2
  have h2:=vH hv.2.2.1.2
  subst h1 h2
  exact⟨x,rfl,gE hi.kept,(show PRep w' _ c x from hv.1.2).mono (fun _ _=>rfl) fun b hb=>hb.2.1⟩
theorem zi6 (L:List Dmd):Plain 8 (L.map zP):=by
 refine⟨by decide,fun r hr=>?_,fun r hr c hc=>?_⟩
 ·obtain⟨m,_,rfl⟩:=List.mem_map.1 hr;rfl
 ·obtain⟨m,_,rfl⟩:=List.mem_map.1 hr
  exact zim m c hc
end Go.Abs
namespace Go.Proofs
open Go.RowKit Go.Shelf Go.Abs Go.Wd Go.Wire Go.Ex Go.Maps Go.ChangeMaps
theorem zi7 {w:World} {Z:Bk→Prop} {L:List Dmd} {v:Value} (h:PRep w Z (zC 8 (L.map zP)) v): ∃p b o cap,v=.slice p L.length cap∧kU w L p b o:=by
 obtain⟨p,cap,rfl,hq,_⟩:=(zi6 L).slice h
 rw[List.length_map] at hq
 by_cases h0:L.length=0
 ·refine⟨p,0,0,cap,by rw[List.length_map],fun hk=>absurd h0 (by omega),fun k hk=>absurd hk (by omega)⟩
 ·obtain⟨b,o,rfl,hc⟩:=hq (by omega)
  have hcell: ∀k,k<L.length→ ∀j u,(dmV (L.getD k yL))[j]?=some u→w.cell? ⟨b,o+k*8+j,none⟩=some u:=by
   intro k hk j u hu
   have hr:(L.map zP)[k]?=some (zP L[k]):=by simp[hk]
   have hg:L.getD k yL=L[k]:=by rw[List.getD_eq_getElem?_getD,List.getElem?_eq_getElem hk];rfl
   rw[hg] at hu
   unfold dmV at hu
   rw[List.getElem?_toArray,List.getElem?_map] at hu
   obtain⟨c,hc1,rfl⟩:=Option.map_eq_some_iff.1 hu
   have:=((zi6 L).at hr hc1).1
   have:=hc _ _ this
   rwa [←Nat.add_assoc] at this
  refine⟨_,b,o,cap,by rw[List.length_map],fun _=>⟨rfl,?_⟩,hcell⟩
  exact World.block_lt_of_cell? _ _ (hcell 0 (by omega) 0 _ rfl)
theorem zos (L:List Dmd) (hL:L.length≤8) (hm: ∀m∈L,DmdS m) (w:World) (hG:yP (base w)) (v:Value) {Z:Bk→Prop} (h:PRep w Z (zC 8 (L.map zP)) v):
  Calls Tryz.prog 63 #[v] w fun e w'=> ∃X:Txt,e=.returned (.tuple #[.string ⟨X.toArray⟩,.bool (uS L)])∧Below w.heap.size w w':=by
 obtain⟨p,b,o,cap,rfl,hD⟩:=zi7 h
 exact zop L hL hm w hG p cap b o hD
theorem zot (vl vd vc:Value) (n:Int) (w:World) (h1:vl.oneCell'=true) (h2:vd.oneCell'=true) (h3:vc.oneCell'=true):Calls Tryz.prog 64 #[vl,vd,vc,.int .i64 n] w fun e w'=>e=.returned (.func (.func 102) #[] #[.pointer (some ⟨w.heap.size+1+1+1,0,none⟩),.pointer (some ⟨w.heap.size,0,none⟩),.pointer (some ⟨w.heap.size+1,0,none⟩),.pointer (some ⟨w.heap.size+1+1,0,none⟩)])∧
   w'=(((w.alloc (.cells #[vl] 22)).alloc (.cells #[vd] 23)).alloc (.cells #[vc] 30)).alloc (.cells #[.int .i64 n] 3):=by
 go_enter Tryz.func64,Tryz.ntmps64
 go_wp2
 go_ret
 exact⟨rfl,rfl⟩
theorem zou {s t:Nat} (hs:s<256) (ht:t<256):bits BinOp.and IntKind.u64 (s:Int) (t:Int)=((s&&&t:Nat):Int):=kQ (s:=s) (t:=t) (by omega) (by omega)
theorem zov {s t:Nat} (hs:s<256) (ht:t<256):bits BinOp.or IntKind.u64 (s:Int) (t:Int)=((s|||t:Nat):Int):=zi0 hs ht
theorem zow {s t:Nat} (hs:s<256):bits BinOp.andNot IntKind.u64 (s:Int) (t:Int)=((andN s t:Nat):Int):=ziM (s:=s) (t:=t) (by omega)
end Go.Proofs
namespace Go.Ex
open Go.Lib Go.Wd Go.Wire Go.Abs
def lookE (L:List Dmd) (D:List Dcm):Int:=if uS L=true then(cnts D).2.2 else 2
end Go.Ex
namespace Go.Proofs
open Go.RowKit Go.Shelf Go.Abs Go.Wd Go.Wire Go.Ex Go.Maps Go.ChangeMaps
attribute [local go_sem] Oper.semAt_some
theorem zak {W:World} {b t:Nat} {x y z:Value} (h:W.heap[b]?=some (.cells #[x,y,z] t (0,0))) (a c d:Value):(((W.setCell ⟨b,0,none⟩ a).setCell ⟨b,1,none⟩ c).setCell ⟨b,2,none⟩ d).heap[b]?=some (.cells #[a,c,d] t (0,0)):=
 vX _ b 2 _ t (0,0) d (vX _ b 1 _ t (0,0) c (vX W b 0 _ t (0,0) a h))
theorem zox {n:Nat} (hn:n≤8):IntKind.u64.wrap (IntKind.u64.wrap (2 ^ n)-1)=((2 ^ n-1:Nat):Int):=by
 have key: ∀n:Fin 9,IntKind.u64.wrap (IntKind.u64.wrap (2 ^ n.1)-1)=((2 ^ n.1-1:Nat):Int):=by decide
 exact key ⟨n,by omega⟩
theorem zi8 {W:World} {j:Nat} {o:Obj} (h:W.heap[j]?=some o):j<W.heap.size:=(Array.getElem?_eq_some_iff.1 h).1
theorem zoy (w:World) (o0 o1 o2 o3 o4 o5 o6 o7:Obj):((((((((w.alloc o0).alloc o1).alloc o2).alloc o3).alloc o4).alloc o5).alloc o6).alloc o7).heap.size=w.heap.size+8∧Below w.heap.size w ((((((((w.alloc o0).alloc o1).alloc o2).alloc o3).alloc o4).alloc o5).alloc o6).alloc o7)∧
  ((((((((w.alloc o0).alloc o1).alloc o2).alloc o3).alloc o4).alloc o5).alloc o6).alloc o7).heap[w.heap.size]?=some o0∧((((((((w.alloc o0).alloc o1).alloc o2).alloc o3).alloc o4).alloc o5).alloc o6).alloc o7).heap[w.heap.size+1]?=some o1∧((((((((w.alloc o0).alloc o1).alloc o2).alloc o3).alloc o4).alloc o5).alloc o6).alloc o7).heap[w.heap.size+1+1]?=some o2∧((((((((w.alloc o0).alloc o1).alloc o2).alloc o3).alloc o4).alloc o5).alloc o6).alloc o7).heap[w.heap.size+1+1+1]?=some o3∧
  ((((((((w.alloc o0).alloc o1).alloc o2).alloc o3).alloc o4).alloc o5).alloc o6).alloc o7).heap[w.heap.size+1+1+1+1]?=some o4∧((((((((w.alloc o0).alloc o1).alloc o2).alloc o3).alloc o4).alloc o5).alloc o6).alloc o7).heap[w.heap.size+1+1+1+1+1]?=some o5∧((((((((w.alloc o0).alloc o1).alloc o2).alloc o3).alloc o4).alloc o5).alloc o6).alloc o7).heap[w.heap.size+1+1+1+1+1+1]?=some o6∧((((((((w.alloc o0).alloc o1).alloc o2).alloc o3).alloc o4).alloc o5).alloc o6).alloc o7).heap[w.heap.size+1+1+1+1+1+1+1]?=some o7:=by
 have h:((((((((w.alloc o0).alloc o1).alloc o2).alloc o3).alloc o4).alloc o5).alloc o6).alloc o7).heap=(((((((w.heap.push o0).push o1).push o2).push o3).push o4).push o5).push o6).push o7:=rfl
 have hs:(((((((w.heap.push o0).push o1).push o2).push o3).push o4).push o5).push o6).push o7=w.heap++ #[o0,o1,o2,o3,o4,o5,o6,o7]:=by
  apply Array.ext'
  simp only[Array.toList_push,Array.toList_append,List.append_assoc,List.cons_append,List.nil_append]
 rw[h,hs]
 refine⟨by simp,⟨rfl,rfl,rfl,by rw[h,hs,Array.size_append];exact Nat.le_add_right _ _,fun k hk=>by rw[h,hs,Array.getElem?_append_left hk]⟩,?_,?_,?_,?_,?_,?_,?_,?_⟩
 all_goals (rw[Array.getElem?_append_right (by omega)];simp[Nat.add_assoc])
theorem zoz {w W:World} (h:yP (base w)) (h1:w.heap.size≤W.heap.size) (h2: ∀j,j<w.heap.size→W.heap[j]?=w.heap[j]?):yP (base W):=by
 refine⟨fun g l hg=>?_,fun g p hg=>?_⟩
 ·obtain⟨h3,h4⟩:=h.1 g l hg
  refine⟨Nat.lt_of_lt_of_le h3 h1,fun j hj=>?_⟩
  show W.cell? _=_
  rw[World.cell?_of_block (w:=w) (a:=⟨g,j,none⟩) (h2 g h3)]
  exact h4 j hj
 ·obtain⟨h3,b,h4,h5⟩:=h.2 g p hg
  exact⟨Nat.lt_of_lt_of_le h3 h1,b,(h2 g h3).trans h4,h5⟩
theorem zoA (L:List Dmd) (D:List Dcm) (hL:L.length≤8) (hm: ∀m∈L,DmdS m) (hD:sX D) (hp:(cnts D).2.2=0→ ∀i,i<yJ D→vA (rdsD D i)) (w:World) (hG:yP (base w)) (vl vd:Value) (hl:PRep w (zX w) (zC 8 (L.map zP)) vl) (hd:PRep w (zX w) (zC 2 (D.map zR)) vd):
  Calls Tryz.prog 32 #[vl,vd] w fun e w'=>(lookE L D≠0∧e=.returned (.tuple #[.agg #[.slice none 0 0,.int .u64 0,.int .u64 0],.int .i64 (lookE L D)])∧Below w.heap.size w w')∨
   (lookE L D=0∧ ∃vs,e=.returned (.tuple #[.agg #[vs,.int .u64 ((viewD L D).never:Nat),.int .u64 ((viewD L D).doubt:Nat)],.int .i64 0])∧Below w.heap.size w w'∧w'.ownsRow w.heap.size 71 1 vs (viewD L D).sets.length ((viewD L D).sets.map fun(s:Nat)=>Value.int .u64 (s:Int))):=by
 refine(callsIn_wide (n:=8)).1 ?_
 have hn1:1≤8:=by decide
 have ol:=hl.oneCell
 have od:=hd.oneCell
 obtain⟨p,_,_,cap,rfl,_⟩:=zi7 hl
 obtain⟨n,hN⟩: ∃n,L.length=n:=⟨_,rfl⟩
 have hN':Aside (L.length=n):=hN
 rw[hN] at hL hl ol⊢
 have k63: ∀W,Below w.heap.size w W→Calls Tryz.prog 63 #[.slice p n cap] W fun e W'=> ∃X:Txt,e=.returned (.tuple #[.string ⟨X.toArray⟩,.bool (uS L)])∧Below W.heap.size W W':=fun W hb=>zos L (by rw[hN];omega) hm W (hG.later (xU hb)) _ (uF hl hb)
 have k37: ∀W,Below w.heap.size w W→Calls Tryz.prog 37 #[vd] W fun e W'=> ∃v,e=.returned (.tuple #[v,.int .i64 (cnts D).2.1,.int .i64 (cnts D).2.2])∧Below W.heap.size W W'∧PRep W' (zX W') (zC 1 (zK (cnts D).1)) v:=fun W hb=>(c37 D hD).list2C (hG.later (xU hb)) (Z:=zX W) (fun _ h=>h) (vN (uF hd hb) (xX _ _))
 have hB0: ∀a,Below w.heap.size w (w.alloc a):=fun a=>(Below.refl _ w).alloc (Nat.le_refl _) _
 have hE:lookE L D=if uS L=true then(cnts D).2.2 else 2:=rfl
 obtain⟨x2,hX⟩: ∃X,uS L=X:=⟨_,rfl⟩
 clear hN
 have A1:Aside _:=hl
 have A2:Aside _:=hd
 have A3:Aside _:=hp
 have A4:Aside (yP (base w)):=hG
 clear hl hd hp hG hm
 rw[hX] at k63 hE
 cases x2 with
 |false=>
  rw[if_neg (by simp)] at hE
  rw[hE]
  refine callsIn_of_wp_marks Tryz.func32 rfl trivial ?_
  simp only[Tryz.ntmps32,List.size_toArray,List.length_cons,List.length_nil,Nat.reduceAdd,Nat.reduceSub,Array.replicate_succ,Array.replicate_zero,List.push_toArray,List.append_toArray,List.nil_append,List.cons_append]
  gi_wp2_with (refine⟨trivial,?_⟩;gi_at_call 63;refine(callsIn_wide.2 (k63 _ (hB0 _))).mono ?_;rintro e w1 ⟨x1,rfl,hb1⟩;have q4:=(hb1.block w.heap.size (by simp only[World.size_alloc];omega)).trans (World.alloc_heap_new w _);obtain⟨c40,c41,c42⟩:=uK q4;have e7: ∀j,w1.frozen? ⟨w.heap.size,j,none⟩=false:=(fun j=>by simp[World.frozen?,q4]);have e8:=e7 0;have e9:=e7 1;have e10:=e7 2;have hB1:=(hB0 (.cells #[.slice none 0 0,.int .u64 0,.int .u64 0] 73)).trans (hb1.mono (hB0 _).size))
  refine⟨_,nE rfl _ _ rfl (zak q4 _ _ _) Tryz.underlying73 (by kernel_rfl),.inl ⟨by decide,rfl,((hB1.setCell (p:=⟨w.heap.size,0,none⟩) (Nat.le_refl _) _).setCell (p:=⟨w.heap.size,1,none⟩) (Nat.le_refl _) _).setCell (p:=⟨w.heap.size,2,none⟩) (Nat.le_refl _) _⟩⟩
 |true=>
  rw[if_pos rfl] at hE
  by_cases h0:(cnts D).2.2=0
  ·rw[h0] at hE k37
   rw[hE]
   have hok:=rB h0
   have hmm:=@run_makeMap Tryz.prog
   have hnn:=hok.n
   obtain⟨n0,hn0,hn0e⟩: ∃n0:Nat,IntKind.u64.wrap (IntKind.u64.wrap (2 ^ n)-1)=(n0:Int)∧Aside (n0=2 ^ n-1):=⟨2 ^ n-1,zox hL,rfl⟩
   obtain⟨M,hM⟩: ∃M,yJ D=M:=⟨_,rfl⟩
   have hM':Aside (yJ D=M):=hM
   rw[hM] at hnn
   rw[hnn] at k37
   have k64:=fun vc W h=>zot (.slice p n cap) vd vc (M:Int) W ol od h
   clear hnn hM
   refine callsIn_of_wp_marks Tryz.func32 rfl trivial ?_
   simp only[Tryz.ntmps32,List.size_toArray,List.length_cons,List.length_nil,Nat.reduceAdd,Nat.reduceSub,Array.replicate_succ,Array.replicate_zero,List.push_toArray,List.append_toArray,List.nil_append,List.cons_append]
   gi_wp2_with (first|(refine⟨trivial,?_⟩;gi_at_call 64;refine(callsIn_wide.2 (k64 vc _ hpc.oneCell)).mono ?_;rintro e w3 ⟨rfl,hw3⟩)|(refine⟨trivial,?_⟩;gi_at_call 63;refine(callsIn_wide.2 (k63 _ (hB0 _))).mono ?_;rintro e w1 ⟨x1,rfl,hb1⟩;have hB1:=(hB0 (.cells #[.slice none 0 0,.int .u64 0,.int .u64 0] 73)).trans (hb1.mono (hB0 _).size);have q4:=(hb1.block w.heap.size (by simp only[World.size_alloc];omega)).trans (World.alloc_heap_new w _))|(refine⟨trivial,?_⟩;gi_at_call 37;refine(callsIn_wide.2 (k37 _ hB1)).mono ?_;rintro e w2 ⟨vc,rfl,hb2,hpc⟩;have q5:=(hb2.block w.heap.size (xY q4)).trans q4;obtain⟨c40,c41,c42⟩:=uK q5;have e7: ∀j,w2.frozen? ⟨w.heap.size,j,none⟩=false:=(fun j=>by simp[World.frozen?,q5]);have e8:=e7 0;have e9:=e7 1;have e10:=e7 2;have hB2:=hB1.trans (hb2.mono hB1.size)))
   have hal:=zoy w2 (.cells #[.slice none 0 0,.int .u64 (n0:Int),.int .u64 0] 73) (.map #[] 0) (.cells #[.map (some (w2.heap.size+1))] 115) (.cells #[.int .u64 0] 71) (.cells #[.slice p n cap] 22) (.cells #[vd] 23) (.cells #[vc] 30) (.cells #[.int .i64 (M:Int)] 3)
   rw[←hw3] at hal⊢
   obtain⟨hsz,hb23,a0,a1,a2,a3,a4,a5,a6,a7⟩:=hal
   have hmp:wX w3 (w2.heap.size+1) [] 0:=by
    rw[hw3]
    have hmd:=wX.made (w2.alloc (.cells #[.slice none 0 0,.int .u64 (n0:Int),.int .u64 0] 73))
    rw[World.size_alloc] at hmd
    exact(((((hmd.kept (World.grownBy_alloc _ _ none) (by simp)).kept (World.grownBy_alloc _ _ none) (by simp)).kept (World.grownBy_alloc _ _ none) (by simp)).kept (World.grownBy_alloc _ _ none) (by simp)).kept (World.grownBy_alloc _ _ none) (by simp)).kept (World.grownBy_alloc _ _ none) (by simp)
   have hww:=hB2.size
   have hB3:Below w.heap.size w w3:=hB2.trans (hb23.mono hB2.size)
   clear hw3
   have hpl:PRep w2 (zX w2) (zC 8 (L.map zP)) (.slice p n cap):=uF A1.out hB2
   have hpd:PRep w2 (zX w2) (zC 2 (D.map zR)) vd:=uF A2.out hB2
   have hFA: ∀W,KpR w3.heap.size w2.heap.size (w2.heap.size+1+1+1) (w2.heap.size+1) w3 W→FailAt L D (w2.heap.size+1+1+1+1+1+1+1) (w2.heap.size+1+1+1+1) (w2.heap.size+1+1+1+1+1) (w2.heap.size+1+1+1+1+1+1) (.slice p n cap) vd vc W:=by
    intro W hK
    have hlow: ∀j,j<w2.heap.size→W.heap[j]?=w2.heap[j]?:=fun j hj=>(hK.2 j (by omega) (by omega) (by omega) (by omega)).trans (hb23.block j hj)
    have hwz:w2.heap.size≤W.heap.size:=by have:=hK.1;omega
    have rep: ∀c v,PRep w2 (zX w2) c v→PRep W (zX W) c v:=fun c v h=>h.mono (fun b hb=>hlow b.2 hb) fun b hb=>Nat.lt_of_lt_of_le hb hwz
    have box: ∀j v t,w2.heap.size+1+1+1<j→w3.heap[j]?=some (.cells #[v] t (0,0))→W.cell? ⟨j,0,none⟩=some v:=fun j v t h1 h2=>sZ ((hK.2 j (Array.getElem?_eq_some_iff.1 h2).1 (by omega) (by omega) (by omega)).trans h2)
    refine⟨?_,box _ _ _ (by omega) a4,box _ _ _ (by omega) a5,box _ _ _ (by omega) a6,rep _ _ hpl,rep _ _ hpd,rep _ _ hpc,zoz (A4.out.later (xU hB2)) hwz hlow⟩
    rw[hM'.out]
    exact box _ _ _ (by omega) a7
   obtain⟨Q0,hQ0⟩: ∃Q0:Prop,Q0:=⟨True,trivial⟩
   refine zhD (α:=U8) rfl (by decide) (gf:=102) (lb:= #[.pointer (some ⟨w2.heap.size+1+1+1+1+1+1+1,0,none⟩),.pointer (some ⟨w2.heap.size+1+1+1+1,0,none⟩),.pointer (some ⟨w2.heap.size+1+1+1+1+1,0,none⟩),.pointer (some ⟨w2.heap.size+1+1+1+1+1+1,0,none⟩)]) rfl trivial (enters_of Tryz.func102 (by kernel_rfl) rfl)
    (zor 7 (by decide) L D (by rw[hN'.out];exact hL) hD hok (A3.out h0) _ _ _ _ (.slice p n cap) vd vc w3 (KpR w3.heap.size w2.heap.size (w2.heap.size+1+1+1) (w2.heap.size+1)) ⟨Nat.le_refl _,fun _ _ _ _ _=>rfl⟩ (fun _ _ _=>KpR.trans) (fun A B hA hb=>hA.trans (KpR.grown hA.1 (mK hb) (fun r e=>by cases e))) hFA)
    (fun _ _ _=>KpR.trans) (fun A B row hs hg hr=>KpR.grown hs hg hr) (fun _=>rfl) (LkI n0 w w3 w3.heap.size w2.heap.size (w2.heap.size+1+1+1) (w2.heap.size+1+1) (w2.heap.size+1)) (LkI.own (by omega) (by omega) (by omega) (by omega) hB3.size (Nat.le_refl _)) ?h0
    (fun x a' W'=>a'={tmps:= #[.slice p n cap,vd,undef,undef,.pointer (some ⟨w.heap.size,0,none⟩),.int .i64 0,.string ⟨x1.toArray⟩,.bool true,vc,.int .i64 (M:Int),.int .i64 0,.pointer (some ⟨w2.heap.size,0,none⟩),.pointer (some ⟨w2.heap.size+1+1,0,none⟩),.pointer (some ⟨w2.heap.size+1+1+1,0,none⟩),.int .u64 (x.1:Int),.tuple #[.string ⟨x1.toArray⟩,.bool true],.slice p n cap,.tuple #[.string ⟨x1.toArray⟩,.bool true],.string ⟨x1.toArray⟩,.bool true,.bool true,.bool false,undef,.tuple #[vc,.int .i64 (M:Int),.int .i64 0],vd,.tuple #[vc,.int .i64 (M:Int),.int .i64 0],vc,.int .i64 (M:Int),.int .i64 0,.int .i64 0,.bool false,undef,undef,.slice p n cap,.int .i64 (n:Int),.int .u64 (IntKind.u64.wrap (2 ^ n)),.int .u64 (n0:Int),.agg #[.slice none 0 0,.int .u64 (n0:Int),.int .u64 0],.map (some (w2.heap.size+1)),.slice p n cap,vd,vc,.int .i64 (M:Int),.func (.func 102) #[] #[.pointer (some ⟨w2.heap.size+1+1+1+1+1+1+1,0,none⟩),.pointer (some ⟨w2.heap.size+1+1+1+1,0,none⟩),.pointer (some ⟨w2.heap.size+1+1+1+1+1,0,none⟩),.pointer (some ⟨w2.heap.size+1+1+1+1+1+1,0,none⟩)],.int .u64 (x.1:Int),undef,undef,undef,undef,undef,undef,undef,undef,undef,undef,undef,undef,undef,undef,undef,undef,undef,undef,undef,undef,undef,undef,undef,undef,undef,undef,undef,undef,undef,undef,undef],defers:=[]}) (fun x a' W' l ob ob' h _ _ _=>h) ?assign ?body ?done
   case h0=>
    exact⟨⟨.slice none 0 0,a0,World.ownsRow_nil _ _ _ _⟩,a3,a2,hmp,⟨Nat.le_refl _,fun _ _ _ _ _=>rfl⟩,hB3⟩
   case assign=>
    intro l pre x W' K hI hsz' hK
    simp only[zai]
    gi_wp2
    exact hK _ _ rfl hI (KeepsFrom.refl _ _) ⟨Nat.le_refl _,fun _ _ _ _ _=>rfl⟩ hsz'
   case body=>
    rintro l pre x a' W rfl hI hlen hsz2
    have I0:Aside (LkI n0 w w3 w3.heap.size w2.heap.size (w2.heap.size+1+1+1) (w2.heap.size+1+1) (w2.heap.size+1) pre W):=hI
    obtain⟨⟨vs,hv,hr⟩,hs,hbm,hmS,hkp,hbl⟩:=hI
    obtain⟨F,hF⟩: ∃F,pre.map (fun x:U8=>x.1)=F:=⟨_,rfl⟩
    have hF8: ∀f∈F,f<2 ^ 8:=by
     intro f hf
     rw[←hF] at hf
     obtain⟨y,_,rfl⟩:=List.mem_map.1 hf
     exact y.2
    have hx8:=x.2
    have hFx:Aside ((pre++[x]).map (fun x:U8=>x.1)=F++[x.1]):=show _=_ by rw[List.map_append,hF];rfl
    rw[hF] at hv hr hs hmS
    have hA8:F.foldl (· &&& ·) n0<2 ^ 8:=xK.2 fun k hk=>by
     rw[gO,Bool.and_eq_true] at hk
     exact xK.1 (Nat.lt_of_lt_of_le (show n0<2 ^ n by rw[hn0e.out];have:=Nat.two_pow_pos n;omega) (Nat.pow_le_pow_right (by decide) hL)) k hk.1
    have hO8:F.foldl (· ||| ·) 0<2 ^ 8:=xK.2 fun k hk=>by
     rw[kK,Nat.zero_testBit,Bool.false_or,List.any_eq_true] at hk
     obtain⟨f,hf,hk⟩:=hk
     exact xK.1 (hF8 f hf) k hk
    have hAe:Aside (F.foldl (· &&& ·) n0&&&x.1=((pre++[x]).map fun x:U8=>x.1).foldl (· &&& ·) n0):=show _=_ by rw[hFx.out,List.foldl_append];rfl
    have hOe:Aside (F.foldl (· ||| ·) 0|||x.1=((pre++[x]).map fun x:U8=>x.1).foldl (· ||| ·) 0):=show _=_ by rw[hFx.out,List.foldl_append];rfl
    have hon:=zi1 x.1 F []
    rw[←hFx.out] at hon
    have hol:=zaj F []
    have hpl2:F.length=pre.length:=by rw[←hF,List.length_map]
    obtain⟨AA,hAA⟩: ∃A,F.foldl (· &&& ·) n0=A:=⟨_,rfl⟩
    obtain⟨OO,hOO⟩: ∃O,F.foldl (· ||| ·) 0=O:=⟨_,rfl⟩
    obtain⟨SS,hSS⟩: ∃S,yU F []=S:=⟨_,rfl⟩
    rw[hAA] at hv hA8 hAe
    rw[hOO] at hs hO8 hOe
    rw[hSS] at hr hmS hon hol
    have hlk:=hmS.look hx8
    have hand:bits BinOp.and IntKind.u64 (AA:Int) (x.1:Int)=((AA&&&x.1:Nat):Int):=zou hA8 hx8
    have hor:bits BinOp.or IntKind.u64 (OO:Int) (x.1:Int)=((OO|||x.1:Nat):Int):=zov hO8 hx8
    obtain⟨e0,e1,e2⟩:=uK hv
    have e3:=sZ hs
    have e4:=sZ hbm
    have f0:W.frozen? ⟨w2.heap.size,0,none⟩=false:=by simp[World.frozen?,hv]
    have f1:W.frozen? ⟨w2.heap.size,1,none⟩=false:=by simp[World.frozen?,hv]
    have f3:W.frozen? ⟨w2.heap.size+1+1+1,0,none⟩=false:=by simp[World.frozen?,hs]
    by_cases hmem:x.1∈SS
    ·rw[decide_eq_true hmem] at hlk
     rw[if_pos hmem] at hon
     have hin:Aside (KeepsFrom w3.heap.size W ((W.setCell ⟨w2.heap.size,1,none⟩ (.int .u64 ((AA&&&x.1:Nat):Int))).setCell ⟨w2.heap.size+1+1+1,0,none⟩ (.int .u64 ((OO|||x.1:Nat):Int)))∧KpR w3.heap.size w2.heap.size (w2.heap.size+1+1+1) (w2.heap.size+1) W ((W.setCell ⟨w2.heap.size,1,none⟩ (.int .u64 ((AA&&&x.1:Nat):Int))).setCell ⟨w2.heap.size+1+1+1,0,none⟩ (.int .u64 ((OO|||x.1:Nat):Int)))∧LkI n0 w w3 w3.heap.size w2.heap.size (w2.heap.size+1+1+1) (w2.heap.size+1+1) (w2.heap.size+1) (pre++[x]) ((W.setCell ⟨w2.heap.size,1,none⟩ (.int .u64 ((AA&&&x.1:Nat):Int))).setCell ⟨w2.heap.size+1+1+1,0,none⟩ (.int .u64 ((OO|||x.1:Nat):Int)))):=by
      refine zi5 (vs:=vs) I0.out (by omega) (by omega) (by omega) (by omega) (by omega) (by omega) (by omega) (by omega) (by omega) (by omega) (by omega) (by omega) ?_ rfl rfl ?_ ?_ ⟨Nat.le_refl _,fun _ _ _ _ _=>rfl⟩ hbl (KeepsFrom.refl _ _) _ _ hAe.out hOe.out
      ·rw[hF,hAA];exact hv
      ·rw[hon];exact hr
      ·rw[hon]
       obtain⟨D1,m1,m2,m3⟩:=hmS
       exact⟨D1,m1.mono (Nat.le_succ _),m2,m3⟩
     clear hv hr hs hbm hmS hkp hF hF8 hAA hOO hSS hon hol hpl2 a0 a1 a2 a3 a4 a5 a6 a7 hFA q4 q5 hmp k63 k37 k64 hmm hpl hpd hpc
     gi_wp2
     exact hin.out
    ·rw[decide_eq_false hmem] at hlk
     rw[if_neg hmem] at hon
     have hlenM:pre.length<M:=by rw[←hM'.out];exact hlen
     have hM4:M≤4096:=by rw[←hM'.out];exact hok.le
     obtain⟨W1,hput,hm1,hg1⟩:=hmS.put (by unfold maxLen;omega) hx8
     have hmbW:=hmS.lt
     have hown: ∀g,vs.ownBlock=some g→w3.heap.size≤g∧ ∃cur,W.heap[g]?=some (.cells cur 71 (0,0)):=fun g hg=>by
      obtain⟨cur,hc,hb⟩:=zi4 hr hg
      exact⟨hb,cur,hc⟩
     have hr1:=hr.kept hg1 (by
      cases q:vs.ownBlock with
      |none=>exact .inl rfl
      |some g=>exact .inr fun e=>by cases e;have:=(hown _ q).1;omega)
     have old1: ∀j,j<W.heap.size→j≠w2.heap.size+1→W1.heap[j]?=W.heap[j]?:=fun j h1 h2=>hg1.block j h1 (fun e=>h2 (by cases e;rfl))
     have hsz1:=hg1.size
     have hv1:=(old1 _ (xY hv) (by omega)).trans hv
     have hs1:=(old1 _ (xY hs) (by omega)).trans hs
     obtain⟨e0',e1',e2'⟩:=uK hv1
     have e3':=sZ hs1
     have f0':W1.frozen? ⟨w2.heap.size,0,none⟩=false:=by simp[World.frozen?,hv1]
     have f1':W1.frozen? ⟨w2.heap.size,1,none⟩=false:=by simp[World.frozen?,hv1]
     have f3':W1.frozen? ⟨w2.heap.size+1+1+1,0,none⟩=false:=by simp[World.frozen?,hs1]
     have hrow2: ∀(W2:World),(W1.alloc (.cells #[.int .u64 (x.1:Int)] 71)).grownBy W2 vs.ownBlock→(∀j,j<W.heap.size→j≠w2.heap.size+1→vs.ownBlock≠some j→W2.heap[j]?=W.heap[j]?)∧W.heap.size≤W2.heap.size:=fun W2 hg2=>by
      have hsz2:=hg2.size
      rw[World.size_alloc] at hsz2
      refine⟨fun j h1 h2 h3=>?_,by omega⟩
      rw[hg2.block j (by rw[World.size_alloc];omega) (fun e=>h3 e.symm)]
      rw[Below.heap_alloc _ _ _ (by omega)]
      exact old1 j h1 h2
     have hNW:w3.heap.size≤W.heap.size:=hsz2
     have hfin:Aside (∀(W2:World) (v':Value),W2.ownsRow w3.heap.size 71 1 v' (SS.length+1) ((SS.map fun(s:Nat)=>Value.int .u64 (s:Int))++[.int .u64 (x.1:Int)])→(W1.alloc (.cells #[.int .u64 (x.1:Int)] 71)).grownBy W2 vs.ownBlock→(∀X,X=((W2.setCell ⟨w2.heap.size,0,none⟩ v').setCell ⟨w2.heap.size,1,none⟩ (.int .u64 ((AA&&&x.1:Nat):Int))).setCell ⟨w2.heap.size+1+1+1,0,none⟩ (.int .u64 ((OO|||x.1:Nat):Int))→KeepsFrom w3.heap.size W X∧KpR w3.heap.size w2.heap.size (w2.heap.size+1+1+1) (w2.heap.size+1) W X∧LkI n0 w w3 w3.heap.size w2.heap.size (w2.heap.size+1+1+1) (w2.heap.size+1+1) (w2.heap.size+1) (pre++[x]) X)):=by
      rintro W2 v' ho' hg2 X rfl
      obtain⟨hold,hsz⟩:=hrow2 W2 hg2
      have nlow: ∀j,j<w3.heap.size→vs.ownBlock≠some j:=fun j hj e=>by have:=(hown j e).1;omega
      have hv2:=(hold _ (xY hv) (by omega) (nlow _ (by omega))).trans hv
      have oX: ∀j,j≠w2.heap.size→(W2.setCell ⟨w2.heap.size,0,none⟩ v').heap[j]?=W2.heap[j]?:=fun j hj=>uJ _ _ _ _ hj
      have szX:(W2.setCell ⟨w2.heap.size,0,none⟩ v').heap.size=W2.heap.size:=by simp
      have keep: ∀j,j<W.heap.size→j≠w2.heap.size→j≠w2.heap.size+1→vs.ownBlock≠some j→(W2.setCell ⟨w2.heap.size,0,none⟩ v').heap[j]?=W.heap[j]?:=fun j h1 h2 h3 h4=>(oX j h2).trans (hold j h1 h3 h4)
      have hbl2:Below w.heap.size w W2:=((hbl.grown hg1 (by omega) (fun k e=>by cases e;omega)).alloc (by omega) _).grown hg2 (by rw[World.size_alloc];omega) (fun k e=>by have:=(hown k e).1;omega)
      refine zi5 (vs:=v') I0.out (by omega) (by omega) (by omega) (by omega) (by omega) (by omega) (by omega) (by omega) (by omega) (by omega) (by omega) (by omega) ?_ (keep _ (xY hs) (by omega) (by omega) (nlow _ (by omega))) (keep _ (xY hbm) (by omega) (by omega) (nlow _ (by omega))) ?_ ?_ ⟨by omega,fun j h1 h2 h3 h4=>keep j (by omega) h2 h4 (nlow j h1)⟩ (hbl2.setCell (p:=⟨w2.heap.size,0,none⟩) (by omega) _) ⟨by omega,fun j o h1 h2 h3=>(keep j (zi8 h2) (by omega) (by omega) (fun e=>by obtain⟨_,cur,hc⟩:=hown j e;rw[hc] at h2;cases h2;cases h3)).trans h2⟩ _ _ hAe.out hOe.out
      ·rw[hF,hAA];exact vX W2 _ 0 _ 73 (0,0) v' hv2
      ·rw[hon,List.length_append,List.map_append]
       exact ownsRow_setCell_below ho' (by show w2.heap.size<_;omega) _
      ·rw[hon]
       exact((hm1.kept (World.grownBy_alloc _ _ none) (by simp)).kept hg2 (fun e=>nlow _ (by omega) e.symm)).setCell (by show w2.heap.size+1≠w2.heap.size;omega) _
     have hfac:Aside (∀(W2:World),(W1.alloc (.cells #[.int .u64 (x.1:Int)] 71)).grownBy W2 vs.ownBlock→W2.heap[w2.heap.size]?=some (.cells #[vs,.int .u64 (AA:Int),.int .u64 0] 73 (0,0))∧W2.heap[w2.heap.size+1+1+1]?=some (.cells #[.int .u64 (OO:Int)] 71 (0,0))):=by
      intro W2 hg2
      obtain⟨hold,hsz⟩:=hrow2 W2 hg2
      have nlow: ∀j,j<w3.heap.size→vs.ownBlock≠some j:=fun j hj e=>by have:=(hown j e).1;omega
      exact⟨(hold _ (xY hv) (by omega) (nlow _ (by omega))).trans hv,(hold _ (xY hs) (by omega) (nlow _ (by omega))).trans hs⟩
     obtain⟨i0,hif,hz0,hz1,hz2⟩:=info_parts (show(Tryz.prog.info? 71).map (fun i=>(i.zero,i.size,i.bytes))=some (some (.int .u64 0),1,8) by kernel_rfl)
     have hSl:SS.length≤4096:=by rw[hpl2] at hol;simp at hol;omega
     have hW1s:w3.heap.size≤W1.heap.size:=by omega
     clear hv hr hs hbm hmS hkp hF hF8 hAA hOO hSS hon hol hpl2 a0 a1 a2 a3 a4 a5 a6 a7 hFA q4 q5 hmp k63 k37 k64 hmm hpl hpd hpc hrow2 hown old1 hv1 hs1 hm1 hg1 hmem
     gi_wp2_with (gi_at_builtin;refine wpListIn_append_own _ rfl _ _ 70 rfl w3.heap.size 71 i0 (.int .u64 0) 1 8 Tryz.underlying70 hif hz0 hz1 hz2 rfl (by decide) _ _ _ rfl (hr1.alloc _) ⟨W1.heap.size,0,none⟩ 1 1 [.int .u64 (x.1:Int)] rfl rfl (cell_one_new _ _ _) (by simp[Value.oneCell']) (by unfold maxLen;omega) (by omega) (by simp;omega) ?_;intro v' W2 hown' hgrow _;obtain⟨g',cap',rfl⟩:=ownsRow_succ hown';obtain⟨t1,t2⟩:=hfac.out W2 hgrow;obtain⟨u0,u1,u2⟩:=uK t1;have u3:=sZ t2;have v0:W2.frozen? ⟨w2.heap.size,0,none⟩=false:=(by simp[World.frozen?,t1]);have v1:W2.frozen? ⟨w2.heap.size,1,none⟩=false:=(by simp[World.frozen?,t1]);have v3:W2.frozen? ⟨w2.heap.size+1+1+1,0,none⟩=false:=(by simp[World.frozen?,t2]))
     exact hfin.out _ _ hown' hgrow _ rfl
   case done=>
    rintro D2 xs W3 hD2 hxs hI hK
    obtain⟨⟨vs,hv,hr⟩,hs,hbm,hmS,hkp,hbl⟩:=hI
    obtain⟨sa,sk,sc,rfl⟩: ∃a k c,vs=.slice a k c:=by
     rcases hr with⟨_,⟨hv,_⟩|⟨g2,cap,cur,hv,_⟩⟩
     ·exact⟨_,_,_,hv⟩
     ·exact⟨_,_,_,hv⟩
    have hxs':xs.map (fun x:U8=>x.1)=yH L D:=hxs
    rw[hxs'] at hv hr hs
    have hnv:(yH L D).foldl (· &&& ·) n0=(viewD L D).never:=by rw[hn0e.out,←hN'.out];rfl
    rw[hnv] at hv
    have hdb:andN ((yH L D).foldl (· ||| ·) 0) (viewD L D).never=(viewD L D).doubt:=rfl
    have hst:yU (yH L D) []=(viewD L D).sets:=rfl
    rw[hst] at hr
    have hd8:(viewD L D).doubt<256:=Nat.lt_of_lt_of_le (qM (rR L D)) (by rw[hN'.out];exact(Nat.pow_le_pow_right (by decide) hL:2 ^ n≤2 ^ 8))
    have hO8:(yH L D).foldl (· ||| ·) 0<2 ^ 8:=xK.2 fun k hk=>by
     rw[kK,Nat.zero_testBit,Bool.false_or,List.any_eq_true] at hk
     obtain⟨f,hf,hk⟩:=hk
     have h1:=rR L D f hf
     rw[hN'.out] at h1
     exact xK.1 (Nat.lt_of_lt_of_le h1 (Nat.pow_le_pow_right (by decide) hL)) k hk
    have hbn:=qP _ hd8
    have hin:bits BinOp.andNot IntKind.u64 ((((yH L D).foldl (· ||| ·) 0:Nat)):Int) ((viewD L D).never:Int)=((viewD L D).doubt:Int):=by rw[zow hO8,hdb]
    have q6:W3.heap[w.heap.size]?=some (.cells #[.slice none 0 0,.int .u64 0,.int .u64 0] 73 (0,0)):=(hkp.2 _ (by have:=xY q5;omega) (by have:=xY q5;omega) (by have:=xY q5;omega) (by have:=xY q5;omega)).trans ((hb23.block _ (xY q5)).trans q5)
    have hq5:=xY q5
    have c65: ∀W,Below w.heap.size w W→Calls Tryz.prog 65 #[.int .u64 ((viewD L D).doubt:Int)] W fun e W'=>e=.returned (.int .i64 ((bitsN (viewD L D).doubt).length:Int))∧Below W.heap.size W W':=fun W hb=>(Go.Abs.c65 (viewD L D).doubt hd8).intC (A4.out.later (xU hb)) (Z:=zX W) (fun _ h=>h) (vN (.int .u64 _) (xX _ _))
    obtain⟨OO,hOO⟩: ∃O,(yH L D).foldl (· ||| ·) 0=O:=⟨_,rfl⟩
    rw[hOO] at hs hin
    obtain⟨S,hS⟩: ∃S,(viewD L D).sets=S:=⟨_,rfl⟩
    obtain⟨NV,hNV⟩: ∃NV,(viewD L D).never=NV:=⟨_,rfl⟩
    obtain⟨DB,hDB⟩: ∃DB,(viewD L D).doubt=DB:=⟨_,rfl⟩
    have HQ:Aside ((viewD L D).sets=S∧(viewD L D).never=NV∧(viewD L D).doubt=DB):=⟨hS,hNV,hDB⟩
    rw[hS] at hr
    rw[hNV] at hv hin
    rw[hDB] at hin c65 hbn
    obtain⟨bl,hbl2⟩: ∃bl,(bitsN DB).length=bl:=⟨_,rfl⟩
    rw[hbl2] at c65 hbn
    have hb10: ¬(bl:Int)>10:=by omega
    obtain⟨e0,e1,e2⟩:=uK hv
    have e3:=sZ hs
    have f2:W3.frozen? ⟨w2.heap.size,2,none⟩=false:=by simp[World.frozen?,hv]
    have hbs:Below w.heap.size w (W3.setCell ⟨w2.heap.size,2,none⟩ (.int .u64 (DB:Int))):=hbl.setCell (p:=⟨w2.heap.size,2,none⟩) (by omega) _
    have hvX:=vX W3 w2.heap.size 2 _ 73 (0,0) (.int .u64 (DB:Int)) hv
    have oX: ∀j,j≠w2.heap.size→(W3.setCell ⟨w2.heap.size,2,none⟩ (.int .u64 (DB:Int))).heap[j]?=W3.heap[j]?:=fun j hj=>uJ _ _ _ _ hj
    have rX:=ownsRow_setCell_below hr (a:=⟨w2.heap.size,2,none⟩) (by show w2.heap.size<_;omega) (.int .u64 (DB:Int))
    have qX:=(oX w.heap.size (by omega)).trans q6
    have kX:=(oX D2 (by omega)).trans hK
    have hfacs:Aside (∀W4,Below (W3.setCell ⟨w2.heap.size,2,none⟩ (.int .u64 (DB:Int))).heap.size (W3.setCell ⟨w2.heap.size,2,none⟩ (.int .u64 (DB:Int))) W4→W4.heap[w2.heap.size]?=some (.cells #[.slice sa sk sc,.int .u64 (NV:Int),.int .u64 (DB:Int)] 73 (0,0))∧W4.heap[w.heap.size]?=some (.cells #[.slice none 0 0,.int .u64 0,.int .u64 0] 73 (0,0))∧W4.heap[D2]?=some (.deferred (some []))∧W4.ownsRow w3.heap.size 71 1 (.slice sa sk sc) S.length (S.map fun(s:Nat)=>Value.int .u64 (s:Int))∧Below w.heap.size w W4):=
     fun W4 h4=>⟨(h4.block _ (xY hvX)).trans hvX,(h4.block _ (xY qX)).trans qX,(h4.block _ (zi8 kX)).trans kX,rX.kept (mK h4) (by cases (Value.slice sa sk sc).ownBlock<;>simp),hbs.trans (h4.mono hbs.size)⟩
    refine(‹∀(a:Act) (w:World),Code.wpIn Fence.wide 8 Tryz.prog _ _ a w→_›) _ _ ?_
    clear hv hr hs hbm hmS hkp a0 a1 a2 a3 a4 a5 a6 a7 hFA q4 q5 hmp k63 k37 k64 hmm hpl hpd hpc hbl oX rX qX kX hvX hnv hdb hst hd8 hO8 hxs hxs' hK
    gi_wp2_with (refine⟨trivial,?_⟩;gi_at_call 65;refine(callsIn_wide.2 (c65 _ hbs)).mono ?_;rintro e W4 ⟨rfl,hb4⟩;obtain⟨t1,t2,t3,t4,t5⟩:=hfacs.out W4 hb4;obtain⟨u0,u1,u2⟩:=uK t1;obtain⟨u3,u4,u5⟩:=uK t2;have v0:W4.frozen? ⟨w.heap.size,0,none⟩=false:=(by simp[World.frozen?,t2]);have v1:W4.frozen? ⟨w.heap.size,1,none⟩=false:=(by simp[World.frozen?,t2]);have v2:W4.frozen? ⟨w.heap.size,2,none⟩=false:=(by simp[World.frozen?,t2]))
    have hY:=zak t2 (.slice sa sk sc) (.int .u64 (NV:Int)) (.int .u64 (DB:Int))
    have oY: ∀j,j≠w.heap.size→(((W4.setCell ⟨w.heap.size,0,none⟩ (.slice sa sk sc)).setCell ⟨w.heap.size,1,none⟩ (.int .u64 (NV:Int))).setCell ⟨w.heap.size,2,none⟩ (.int .u64 (DB:Int))).heap[j]?=W4.heap[j]?:=fun j hj=>((uJ _ _ _ _ hj).trans (uJ _ _ _ _ hj)).trans (uJ _ _ _ _ hj)
    have hBY:Below w.heap.size w (((W4.setCell ⟨w.heap.size,0,none⟩ (.slice sa sk sc)).setCell ⟨w.heap.size,1,none⟩ (.int .u64 (NV:Int))).setCell ⟨w.heap.size,2,none⟩ (.int .u64 (DB:Int))):=((t5.setCell (p:=⟨w.heap.size,0,none⟩) (Nat.le_refl _) _).setCell (p:=⟨w.heap.size,1,none⟩) (Nat.le_refl _) _).setCell (p:=⟨w.heap.size,2,none⟩) (Nat.le_refl _) _
    have hrY:=ownsRow_setCell_below (ownsRow_setCell_below (ownsRow_setCell_below t4 (a:=⟨w.heap.size,0,none⟩) (by show w.heap.size<_;omega) (.slice sa sk sc)) (a:=⟨w.heap.size,1,none⟩) (by show w.heap.size<_;omega) (.int .u64 (NV:Int))) (a:=⟨w.heap.size,2,none⟩) (by show w.heap.size<_;omega) (.int .u64 (DB:Int))
    have hKY:=(oY D2 (by omega)).trans t3
    generalize (((W4.setCell ⟨w.heap.size,0,none⟩ (.slice sa sk sc)).setCell ⟨w.heap.size,1,none⟩ (.int .u64 (NV:Int))).setCell ⟨w.heap.size,2,none⟩ (.int .u64 (DB:Int)))=Y at hY oY hBY hrY hKY⊢
    refine⟨by simp,.inl ⟨_,_,rfl,run_takeDeferred hKY,?_⟩⟩
    obtain⟨e5,e6,e7⟩:=HQ.out
    rw[e5,e6,e7]
    refine⟨_,nE rfl _ _ rfl ((World.putObj_heap_other (by omega)).trans hY) Tryz.underlying73 (by kernel_rfl),.inr ⟨trivial,_,rfl,hBY.grown (grownBy_putObj' _ D2 _) hBY.size (fun k e=>by cases e;omega),(ownsRow_putObj hrY _ hKY rfl).mono (by omega)⟩⟩
  ·obtain⟨er,her⟩: ∃er,(cnts D).2.2=er:=⟨_,rfl⟩
   rw[her] at hE k37 h0
   rw[hE]
   have h0':(er==0)=false:=by simp[h0]
   have h0n:Aside (er≠0):=h0
   clear h0 her
   refine callsIn_of_wp_marks Tryz.func32 rfl trivial ?_
   simp only[Tryz.ntmps32,List.size_toArray,List.length_cons,List.length_nil,Nat.reduceAdd,Nat.reduceSub,Array.replicate_succ,Array.replicate_zero,List.push_toArray,List.append_toArray,List.nil_append,List.cons_append]
   gi_wp2_with (first|(refine⟨trivial,?_⟩;gi_at_call 63;refine(callsIn_wide.2 (k63 _ (hB0 _))).mono ?_;rintro e w1 ⟨x1,rfl,hb1⟩;have hB1:=(hB0 (.cells #[.slice none 0 0,.int .u64 0,.int .u64 0] 73)).trans (hb1.mono (hB0 _).size);have q4:=(hb1.block w.heap.size (by simp only[World.size_alloc];omega)).trans (World.alloc_heap_new w _))|(refine⟨trivial,?_⟩;gi_at_call 37;refine(callsIn_wide.2 (k37 _ hB1)).mono ?_;rintro e w2 ⟨vc,rfl,hb2,hpc⟩;have q5:=(hb2.block w.heap.size (xY q4)).trans q4;obtain⟨c40,c41,c42⟩:=uK q5;have e7: ∀j,w2.frozen? ⟨w.heap.size,j,none⟩=false:=(fun j=>by simp[World.frozen?,q5]);have e8:=e7 0;have e9:=e7 1;have e10:=e7 2;have hB2:=hB1.trans (hb2.mono hB1.size)))
   refine⟨_,nE rfl _ _ rfl (zak q5 _ _ _) Tryz.underlying73 (by kernel_rfl),.inl ⟨h0n.out,rfl,((hB2.setCell (p:=⟨w.heap.size,0,none⟩) (Nat.le_refl _) _).setCell (p:=⟨w.heap.size,1,none⟩) (Nat.le_refl _) _).setCell (p:=⟨w.heap.size,2,none⟩) (Nat.le_refl _) _⟩⟩
end Go.Proofs
set_option maxRecDepth 100000
set_option maxHeartbeats 4000000
namespace Go.Ex
open Go.Lib Go.Wd Go.Wire Go.Abs
def nL (L:List Dmd) (D:List Dcm):Vw:=if lookE L D=0 then viewD L D else⟨[],0,0⟩
end Go.Ex
namespace Go.Abs
open Go.Proofs Go.RowKit Go.Lib Go.Wd Go.Wire Go.Ex
theorem zoB {W:World} {B:Nat} {l:List Nat} {v:Value} (h:W.ownsRow B 71 1 v l.length (l.map fun(s:Nat)=>Value.int .u64 (s:Int))):PRep W (fun b=>B≤b.2∧b.2<W.heap.size∧sG W b.2) (zC 1 (sets l)) v:=by
 rcases h with⟨_,⟨hv,h0⟩|⟨g,cap,cur,hv,hg,hh,h5,h6,h7,h8⟩⟩
 ·obtain rfl:=List.eq_nil_of_length_eq_zero h0
  subst hv
  exact .nil 0 none (by simp)
 ·subst hv
  by_cases h0:l=[]
  ·subst h0
   exact .list g 0 cap 0 none [] (fun _ _=>undef) (by simp) h5 h6 (fun h=>absurd rfl h) (by simp) (by simp) (by simp)
  ·have e:zC 1 (sets l)=.list 1 none (sets l):=by
    unfold zC;rw[if_neg];cases l with|nil=>exact absurd rfl h0|cons a L=>simp[sets]
   have hat: ∀(i j:Nat) r c,(sets l)[i]?=some r→r[j]?=some c→j=0∧ ∃s:Nat,l[i]?=some s∧c=.int .u64 (s:Int):=fun i j r c hr hc=>by
    rw[sets,List.getElem?_map] at hr
    cases hs:l[i]? with
    |none=>rw[hs] at hr;cases hr
    |some s=>
     rw[hs] at hr;cases hr
     cases j with
     |zero=>cases hc;exact⟨rfl,s,rfl,rfl⟩
     |succ j=>simp at hc
   have hcell: ∀j s,l[j]?=some s→W.cell? ⟨g,j,none⟩=some (.int .u64 ((s:Nat):Int)):=by
    intro j s hs
    have hj:=(List.getElem?_eq_some_iff.1 hs).1
    have h9:=congrArg (fun x:List Value=>x[j]?) h8
    simp only[Nat.mul_one,List.getElem?_take_of_lt hj,List.getElem?_map,hs,Option.map_some] at h9
    rw[Array.getElem?_toList] at h9
    simp only[World.cell?,hh]
    simp only[Option.isSome_none,Bool.false_eq_true,if_false]
    exact h9
   rw[e]
   have key:PRep W (fun b=>B≤b.2∧b.2<W.heap.size∧sG W b.2) (.list 1 none (sets l)) (.slice (some ⟨g,0,none⟩) (sets l).length cap):=by
    refine .list g 0 cap 1 none (sets l) (fun i _=> .int .u64 ((l.getD i 0:Nat):Int)) (by simp) (by rw[tH];exact h5) h6 (fun _=>⟨hg,(Array.getElem?_eq_some_iff.1 hh).1,fun c e f h=>by rw[hh] at h;cases h;rfl⟩) (fun r hr=>by obtain⟨s,_,rfl⟩:=List.mem_map.1 hr;rfl) (fun i j r c hr hcj=>?_) fun i j r c hr hcj=>?_
    ·obtain⟨rfl,s,hs,rfl⟩:=hat i j r c hr hcj
     rw[Nat.mul_one,Nat.add_zero,Nat.zero_add,hcell i s hs]
     simp[List.getD,hs]
    ·obtain⟨rfl,s,hs,rfl⟩:=hat i j r c hr hcj
     have:l.getD i 0=s:=by simp[List.getD,hs]
     rw[this]
     exact .int _ _
   rw[tH] at key
   exact key
theorem c32 (L:List Dmd) (D:List Dcm) (hL:L.length≤8) (hm: ∀m∈L,DmdS m) (hD:sX D) (hp:(cnts D).2.2=0→ ∀i,i<yJ D→vA (rdsD D i)):
  Spec Tryz.prog 32 [lst 8 (L.map zP),lst 2 (D.map zR)] (fun r=>r=.tup [.agg [zC 1 (sets (nL L D).sets),.int .u64 ((nL L D).never:Int),.int .u64 ((nL L D).doubt:Int)],.int .i64 (lookE L D)]):=by
 refine⟨rP (by kernel_rfl),fun w Z vs hG hz ha=>?_⟩
 obtain⟨vl⟩:=vs
 match vl,ha with
 |[],ha=>exact absurd ha.1 (by simp)
 |[_],ha=>exact absurd ha.1 (by simp)
 |_::_::_::_,ha=>exact absurd ha.1 (by simp)
 |[v,v2],ha=>
  have h1:PRep w Z (zC 8 (L.map zP)) v:=(ha.2 0 _ v rfl rfl).2.2
  have h2:PRep w Z (zC 2 (D.map zR)) v2:=(ha.2 1 _ v2 rfl rfl).2.2
  refine(zoA L D hL hm hD hp w hG v v2 (mL hz h1) (mL hz h2)).mono ?_
  rintro e w' (⟨h0,rfl,hb⟩|⟨h0,vs,rfl,hb,hr⟩)
  ·refine⟨_,_,rfl,rfl,fun _=>rfl,oS hG (xU hb) (fun _=>rfl) fun Z=>⟨_,rfl,rfl,⟨_,rfl,?_⟩,⟨rfl,.int _ _⟩,trivial⟩⟩
   unfold nL
   rw[if_neg h0]
   refine⟨rfl,fun j c v hc hv=>?_⟩
   match j with
   |0=>cases hc;cases hv;exact .nil 0 none (by simp)
   |1=>cases hc;cases hv;exact .int _ _
   |2=>cases hc;cases hv;exact .int _ _
   |j+3=>simp at hc
  ·refine⟨_,_,rfl,rfl,fun _=>rfl,zij hG (xU hb) (fun _=>rfl) ⟨_,rfl,rfl,⟨_,rfl,?_⟩,⟨rfl,by rw[h0];exact .int _ _⟩,trivial⟩ (fun _=>rfl)⟩
   unfold nL
   rw[if_pos h0]
   refine⟨rfl,fun j c v hc hv=>?_⟩
   match j with
   |0=>cases hc;cases hv;exact zoB hr
   |1=>cases hc;cases hv;exact .int _ _
   |2=>cases hc;cases hv;exact .int _ _
   |j+3=>simp at hc
end Go.Abs
set_option maxRecDepth 100000
set_option maxHeartbeats 8000000
namespace Go.Ex
open Go.Lib Go.Wd Go.Wire Go.Abs
structure AskS (L:List Dmd) (D:List Dcm):Prop where
 l8:L.length≤8
 dm: ∀m∈L,DmdS m
 dc:sX D
 rd:(cnts D).2.2=0→ ∀i,i<yJ D→vA (rdsD D i)
theorem zal {D:List Dcm} (hD:sX D) (h:(cnts D).2.2=0):0<yJ D:=by
 have hok:=rB h
 rw[hok.p]
 have key: ∀(l:List Dcm) (n:Nat),0<n→(∀d∈l,0<(cntD d).1.toNat)→0<l.foldl (fun a d=>a*(cntD d).1.toNat) n:=by
  intro l
  induction l with
  |nil=>intro n h _;exact h
  |cons d l ih=>intro n hn hd;exact ih _ (Nat.mul_pos hn (hd d (by simp))) fun x hx=>hd x (List.mem_cons_of_mem _ hx)
 exact key D 1 (by decide) fun d hd=>by
  have:=ziq (hD.2 d hd) (hok.e d hd)
  omega
def flawsE (L:List Dmd) (D:List Dcm):List Flw:=if lookE L D=0 then kO L D else[]
def stateE (L:List Dmd) (D:List Dcm):Int:=if lookE L D=0 then gS (viewD L D) else 0
end Go.Ex
namespace Go.Abs
open Go.Proofs Go.RowKit Go.Lib Go.Wd Go.Wire Go.Ex
theorem yM (m:Dmd):C.normRow (zP m)=zP m:=by simp only[zP,C.normRow,C.norm]
theorem c20 (L:List Dmd) (D:List Dcm) (h:AskS L D):Spec Tryz.prog 20 [lst 8 (L.map zP),lst 2 (D.map zR)] (fun r=>r=.int .i64 (lookE L D)):=by
 refine Spec.of_awlS hf20 okf20 (by simp) fun S hS=>?_
 have g:=c32 L D h.l8 h.dm h.dc h.rd
 simp only[Qs,Nat.reduceAdd,Nat.reduceBEq,uu f20.eq_1,vv f20r3.eq_1,uu f20b4.eq_1,vv f20r5.eq_1,uu f20b6.eq_1]
 refine yS g ?_ (ha:=by simp only[List.map_cons,List.map_nil,zB,V.norm,zL,zH yF,zH yM,C.norm]<;>rfl)
 simp only[Qs,if_true,List.append_nil,List.nodup_nil,Nat.reduceAdd,Nat.reduceMul,Nat.reduceBEq,vv f20r1.eq_1,uu f20b2.eq_1]
 exact hS
theorem c12 (L:List Dmd) (D:List Dcm) (h:AskS L D):Spec Tryz.prog 12 [lst 8 (L.map zP),lst 2 (D.map zR)] (fun r=>r=.tup [.int .i64 (stateE L D),.int .i64 (lookE L D)]):=by
 refine Spec.of_awlS hf12 okf12 (by simp) fun S hS=>?_
 have g:=c32 L D h.l8 h.dm h.dc h.rd
 unfold nL at g
 unfold stateE at hS
 have hle:=h.l8
 by_cases h0:lookE L D=0
 ·rw[if_pos h0,h0] at hS
  rw[if_pos h0,h0] at g
  have hcn:(cnts D).2.2=0:=by
   unfold lookE at h0
   split at h0
   ·exact h0
   ·cases h0
  have hok:=rB hcn
  have hsl:(viewD L D).sets.length≤4096:=by
   have:=zaj (yH L D) []
   have h2:(yH L D).length=yJ D:=by simp[yH]
   have h3:=hok.le
   show(yU (yH L D) []).length≤4096
   simp at this;omega
  have g2:=c36 (viewD L D).sets 0 (by omega)
  generalize viewD L D=v at g g2 hS hsl
  obtain⟨S1,nv,db⟩:=v
  simp only[] at g g2 hsl
  simp only[Qs,Nat.reduceAdd,Nat.reduceBEq,uu f12.eq_1,vv f12r21.eq_1,uu f12b22.eq_1,vv f12r23.eq_1,uu f12b24.eq_1]
  refine yS g ?_ (ha:=by simp only[List.map_cons,List.map_nil,zB,V.norm,zL,zH yF,zH yM,C.norm]<;>rfl)
  simp only[show((0:Int) !=0)=false from rfl,Qs,if_true,if_false,List.append_nil,Nat.reduceAdd,Nat.reduceMul,Nat.reduceLeDiff,Nat.reduceBEq,vv f12r11.eq_1,uu f12b12.eq_1,uu f12b13.eq_1,uu f12b14.eq_1,uu f12b17.eq_1,vv f12r18.eq_1,uu f12b19.eq_1,uu f12b20.eq_1]
  refine zD g2 ?_ (ha:=by simp only[List.map_cons,List.map_nil,zB,V.norm,zL,C.norm,nI]<;>rfl)
  unfold gS at hS
  simp only[] at hS
  by_cases hm:0∈S1
  ·rw[if_pos hm] at hS
   rw[decide_eq_true hm]
   by_cases h1:S1.length=1
   ·rw[if_pos h1] at hS
    have e1:((S1.length:Int)==1)=true:=by rw[h1];rfl
    simp only[e1,tH,Qs,if_true,if_false,List.append_nil,List.nodup_nil,Nat.reduceAdd,Nat.reduceLeDiff,Nat.reduceBEq,vv f12r5.eq_1,uu f12b6.eq_1,uu f12b7.eq_1,vv f12r8.eq_1,uu f12b9.eq_1,uu f12b10.eq_1]
    exact hS
   ·rw[if_neg h1] at hS
    have e1:((S1.length:Int)==1)=false:=by rw[beq_eq_false_iff_ne];omega
    simp only[e1,tH,Qs,if_true,if_false,List.append_nil,List.nodup_nil,Nat.reduceAdd,Nat.reduceLeDiff,Nat.reduceBEq,vv f12r1.eq_1,uu f12b2.eq_1,uu f12b7.eq_1,vv f12r8.eq_1,uu f12b9.eq_1,uu f12b10.eq_1]
    exact hS
  ·rw[if_neg hm] at hS
   rw[decide_eq_false hm]
   simp only[Qs,List.append_nil,List.nodup_nil,Nat.reduceBEq,vv f12r3.eq_1,uu f12b4.eq_1,uu f12b10.eq_1]
   exact hS
 ·rw[if_neg h0] at hS
  rw[if_neg h0] at g
  generalize lookE L D=er at hS g h0
  have e1:(er !=0)=true:=by rw[bne_iff_ne];exact h0
  simp only[Qs,Nat.reduceAdd,Nat.reduceBEq,uu f12.eq_1,vv f12r21.eq_1,uu f12b22.eq_1,vv f12r23.eq_1,uu f12b24.eq_1]
  refine yS g ?_ (ha:=by simp only[List.map_cons,List.map_nil,zB,V.norm,zL,zH yF,zH yM,C.norm]<;>rfl)
  simp only[e1,Qs,if_true,List.append_nil,List.nodup_nil,Nat.reduceAdd,Nat.reduceMul,Nat.reduceBEq,vv f12r15.eq_1,uu f12b16.eq_1,uu f12b17.eq_1,vv f12r18.eq_1,uu f12b19.eq_1,uu f12b20.eq_1]
  exact hS
def pT (x:Flw):List C:=[zC 1 (zK x.dem),zC 2 (pls x.pls),.bool x.sure]
def yN (l:List Flw):List (List C):=l.map pT
theorem vM (l:List Flw):(yN l).length=l.length:=by simp[yN]
theorem zoC (x:Flw):C.normRow (pT x)=pT x:=by simp only[pT,C.normRow,zL,wL,rU,C.norm]
theorem zi9 (l:List Flw):C.normRows (yN l)=yN l:=zH zoC l
def rZ (L:List Dmd) (p:List Pln) (k:Nat):List C:=[.list 1 (some false) (zK [(k:Int)]),zC 2 (pls (xL L [k] p)),.bool false]
theorem zoD (L:List Dmd) (p:List Pln) (k:Nat):C.normRow (rZ L p k)=pT ⟨[(k:Int)],xL L [k] p,false⟩:=by
 simp only[rZ,pT,C.normRow,zL,uD,wL,rU,C.norm]
 rfl
theorem zoE (a b:List (List C)):C.normRows (a++b)=C.normRows a++C.normRows b:=by
 induction a with
 |nil=>rfl
 |cons r a ih=>rw[List.cons_append,gB,gB,ih];rfl
theorem zja (L:List Dmd) (p:List Pln): ∀l:List Nat,C.normRows (l.map (rZ L p))=yN (l.map fun k:Nat=>⟨[(k:Int)],xL L [k] p,false⟩)
 |[]=>rfl
 |k::l=>by
  rw[List.map_cons,gB,zoD,zja L p l];rfl
theorem c10 (L:List Dmd) (D:List Dcm) (h:AskS L D):Spec Tryz.prog 10 [lst 8 (L.map zP),lst 2 (D.map zR)] (fun r=>r=.tup [lst 3 (yN (flawsE L D)),.int .i64 (lookE L D)]):=by
 refine Spec.of_awlP hf10 okf10 (by simp) fun S hS=>?_
 have g:=c32 L D h.l8 h.dm h.dc h.rd
 unfold nL at g
 unfold flawsE at hS
 have hle:=h.l8
 by_cases h0:lookE L D=0
 ·rw[if_pos h0,h0] at hS
  rw[if_pos h0,h0] at g
  have hcn:(cnts D).2.2=0:=by
   unfold lookE at h0
   split at h0
   ·exact h0
   ·cases h0
  have hok:=rB hcn
  have hpos:=zal h.dc hcn
  have g14:=c14 D h.dc 0
  have e14:readE D 0=0:=by
   unfold readE
   rw[if_neg (by simp[hcn]),if_neg (by rw[hok.n];omega)]
  have e14':readP' D 0=rdsD D 0:=by unfold readP';rw[if_pos e14];rfl
  rw[e14,e14'] at g14
  have hpl:=h.rd hcn 0 hpos
  have hfl:kO L D=rS L (viewD L D) (rdsD D 0):=rfl
  rw[hfl] at hS
  have hF:=rR L D
  have h256:2 ^ L.length≤256:=(Nat.pow_le_pow_right (by decide) hle:2 ^ L.length≤2 ^ 8)
  have hnv:(viewD L D).never<256:=Nat.lt_of_lt_of_le zmZ h256
  have hdb:(viewD L D).doubt<256:=Nat.lt_of_lt_of_le (qM hF) h256
  have hsl:(viewD L D).sets.length≤4096:=by
   have:=zaj (yH L D) []
   have h2:(yH L D).length=yJ D:=by simp[yH]
   have h3:=hok.le
   show(yU (yH L D) []).length≤4096
   simp at this;omega
  have hss: ∀s∈(viewD L D).sets,s<256:=fun s hs=>by
   rcases(mP _ _ s).1 hs with h|h
   ·exact Nat.lt_of_lt_of_le (hF s h) h256
   ·cases h
  have g33:=c33 (viewD L D) hnv hdb hss (by omega)
  have hF0:yH L D≠[]:=by
   intro e
   have:=congrArg List.length e
   simp[yH] at this
   omega
  have hcl: ∀c∈sortO ltC ((conflP (viewD L D)).map bitsN),c.length≤8∧ ∀k∈c,k<L.length:=by
   intro c hc
   obtain⟨s,hs,rfl⟩:=List.mem_map.1 ((tG ltC _).mem_iff.1 hc)
   have hs2:=((kM hle hF0 hF s).1 hs).1
   exact⟨qP s (by omega),fun k hk=>xK.1 hs2 k ((vU (by omega)).1 hk)⟩
  have hcn:(sortO ltC ((conflP (viewD L D)).map bitsN)).length≤320:=by
   rw[(tG ltC _).length_eq,List.length_map]
   have hT:conflP (viewD L D)=rW (viewD L D).never 64++(uI (viewD L D).doubt 256 (viewD L D).doubt).filter (wV (viewD L D).sets):=rfl
   rw[hT,List.length_append]
   have h1:=gY (viewD L D).doubt 256 (viewD L D).doubt
   have h2:=List.length_filter_le (wV (viewD L D).sets) (uI (viewD L D).doubt 256 (viewD L D).doubt)
   have h3:=zab (viewD L D).never 64
   omega
  have hdk: ∀k∈bitsN (viewD L D).doubt,k<L.length:=fun k hk=>xK.1 (qM hF) k ((vU (Nat.lt_trans hdb (by decide))).1 hk)
  have hbl:=qP _ hdb
  have g35:=c35 (viewD L D).doubt hdb
  have hfe:rS L (viewD L D) (rdsD D 0)=((sortO ltC ((conflP (viewD L D)).map bitsN)).map fun c=>⟨c.map fun(k:Nat)=>(k:Int),xL L c (rdsD D 0),true⟩)++(bitsN (viewD L D).doubt).map fun k=>⟨[(k:Int)],xL L [k] (rdsD D 0),false⟩:=rfl
  rw[hfe] at hS
  generalize sortO ltC ((conflP (viewD L D)).map bitsN)=CS at hS g33 hcl hcn
  generalize rdsD D 0=p at hS g14 hpl
  generalize bitsN (viewD L D).doubt=DS at hS hdk hbl g35
  generalize viewD L D=v at g g33 g35
  obtain⟨S1,nv,db⟩:=v
  simp only[] at g g33 g35
  simp only[Qs,Nat.reduceAdd,Nat.reduceBEq,uu f10.eq_1,vv f10r45.eq_1,uu f10b46.eq_1,vv f10r47.eq_1,uu f10b48.eq_1]
  refine yS g ?_ (ha:=by simp only[List.map_cons,List.map_nil,zB,V.norm,zL,zH yF,zH yM,C.norm]<;>rfl)
  simp only[show((0:Int) !=0)=false from rfl,Qs,if_true,if_false,bne_iff_ne,ne_eq,List.append_nil,Nat.reduceAdd,Nat.reduceMul,Nat.reduceEqDiff,Nat.reduceBEq,vv f10r37.eq_1,uu f10b38.eq_1,uu f10b41.eq_1,vv f10r42.eq_1,uu f10b43.eq_1,uu f10b44.eq_1]
  refine yS g14 ?_ (ha:=by simp only[List.map_cons,List.map_nil,zB,V.norm,zL,zH yF,zH yM,C.norm]<;>rfl)
  simp only[Qs,iZ,if_true,bne_iff_ne,ne_eq,List.append_nil,Nat.reduceAdd,Nat.reduceMul,Nat.reduceEqDiff,Nat.reduceBEq,vv f10r32.eq_1,uu f10b33.eq_1,uu f10b34.eq_1,vv f10r35.eq_1,uu f10b36.eq_1]
  refine yS g33 ?_ (ha:=by simp only[List.map_cons,List.map_nil,zB,V.norm,zL,C.normRow,nI,C.norm]<;>rfl)
  have hcfl:(cfs CS).length=CS.length:=by simp[cfs]
  simp only[hcfl,Qs,uu f10b31.eq_1]
  rw[uu f10l30.eq_1]
  refine zS (fun x:Nat×Option Bool=>[(0,lst 8 (L.map zP)),(6,.k (.c (.ro [zC 1 (sets S1),.int .u64 (nv:Int),.int .u64 (db:Int)] 0))),(8,lst 3 (xQ p)),(10,.k (.own 10)),(31,lst 1 (cfs CS)),(32,.int .i64 CS.length),(33,.int .i64 x.1)])
   (fun x=>[(10,.arr 33 3 x.2 (yN ((CS.take x.1).map fun c=>⟨natI c,xL L c p,true⟩)))]) (fun x=>x.1≤CS.length) (fun x=>CS.length-x.1) (0,some true) rfl rfl (Nat.zero_le _) ?_
  rintro⟨i,nl⟩ hi
  simp only[] at hi
  by_cases hlt:i<CS.length
  ·have d1:(i:Int)<CS.length:=by omega
   have c4:IntKind.i64.wrap ((i:Int)+1)=(i:Int)+1:=wrap_in (by omega) (by omega)
   have hat:(cfs CS).getD i []=[zC 1 (zK (natI CS[i]))]:=by simp[cfs,hlt]
   have htk:((CS.take (i+1)).map fun c=>(⟨natI c,xL L c p,true⟩:Flw))=((CS.take i).map fun c=>⟨natI c,xL L c p,true⟩)++[⟨natI CS[i],xL L CS[i] p,true⟩]:=by rw[List.take_succ_eq_append_getElem hlt,List.map_append];rfl
   have hll:((CS.take i).map fun c=>(⟨natI c,xL L c p,true⟩:Flw)).length=i:=by simp;omega
   obtain⟨hc8,hck⟩:=hcl _ (List.getElem_mem hlt)
   generalize CS[i]=c at hat htk hc8 hck
   generalize ((CS.take i).map fun c=>(⟨natI c,xL L c p,true⟩:Flw))=A at htk hll
   have g34:=c34 L c p (by omega) hc8 hck hpl
   simp only[d1,hat,hcfl,Qs,if_true,Nat.reduceBEq,vv f10r20.eq_1,vv f10r21.eq_1,vv f10r22.eq_1,uu f10b23.eq_1,uu f10b24.eq_1,uu f10b25.eq_1,uu f10b26.eq_1,uu f10b27.eq_1,vv f10r28.eq_1,uu f10b29.eq_1]
   refine yS g34 ?_ (ha:=by simp only[List.map_cons,List.map_nil,zB,V.norm,zL,zH yM,rC,wL,C.norm]<;>rfl)
   have hq:yN A++[[zC 1 (zK (natI c)),zC 2 (pls (xL L c p)),.bool true]]=yN (A++[⟨natI c,xL L c p,true⟩]):=by simp[yN,pT]
   simp only[c4,hq,vM,hll,Qs,if_true,if_false,forall_eq,bne_iff_ne,ne_eq,List.append_nil,List.mem_cons,Nat.reduceAdd,Nat.reduceEqDiff,Nat.reduceLeDiff,Nat.reduceLT,Nat.reduceBEq,List.not_mem_nil]
   exact⟨by omega,by omega,Next.intro (i+1,some false) rfl (by rw[htk];rfl) (by simp only;omega) (by simp only;omega)⟩
  ·obtain rfl:i=CS.length:=by omega
   have d1: ¬((CS.length:Int)<CS.length):=by omega
   rw[List.take_length]
   simp only[d1,Qs,if_true,if_false,Nat.reduceAdd,Nat.reduceBEq,vv f10r17.eq_1,uu f10b18.eq_1,uu f10b19.eq_1,uu f10b26.eq_1,uu f10b27.eq_1,vv f10r28.eq_1,uu f10b29.eq_1]
   refine yS g35 ?_ (ha:=by rfl)
   have hDl:(zK (natI DS)).length=DS.length:=by rw[yB,vL]
   simp only[hDl,Qs,uu f10b16.eq_1]
   rw[uu f10l15.eq_1]
   have hFL:(yN (List.map (fun c=>(⟨natI c,xL L c p,true⟩:Flw)) CS)).length≤320:=by rw[vM,List.length_map];exact hcn
   have hSS:((CS.map fun c=>(⟨natI c,xL L c p,true⟩:Flw)))=CS.map fun c=>⟨c.map fun(k:Nat)=>(k:Int),xL L c p,true⟩:=rfl
   rw[←hSS] at hS
   generalize (List.map (fun c=>(⟨natI c,xL L c p,true⟩:Flw)) CS)=FL at hS hFL
   refine zS (fun x:Nat×Option Bool=>[(0,lst 8 (L.map zP)),(8,lst 3 (xQ p)),(10,.k (.own 10)),(49,lst 1 (zK (natI DS))),(50,.int .i64 DS.length),(51,.int .i64 x.1)])
    (fun x=>[(10,.arr 33 3 x.2 (yN FL++(DS.take x.1).map (rZ L p)))]) (fun x=>x.1≤DS.length) (fun x=>DS.length-x.1) (0,nl) rfl (by simp;rfl) (Nat.zero_le _) ?_
   rintro⟨i,nl2⟩ hi2
   simp only[] at hi2
   by_cases hil:i<DS.length
   ·have d2:(i:Int)<DS.length:=by omega
    have c4:IntKind.i64.wrap ((i:Int)+1)=(i:Int)+1:=wrap_in (by omega) (by omega)
    have hat:(zK (natI DS)).getD i []=[.int .i64 (DS[i]:Int)]:=by simp[zK,natI,hil]
    have htk:(DS.take (i+1)).map (rZ L p)=(DS.take i).map (rZ L p)++[rZ L p DS[i]]:=by rw[List.take_succ_eq_append_getElem hil,List.map_append];rfl
    have hll:((DS.take i).map (rZ L p)).length=i:=by simp;omega
    have hkL:=hdk _ (List.getElem_mem hil)
    generalize DS[i]=k at hat htk hkL
    generalize (DS.take i).map (rZ L p)=R at htk hll
    have g34:=c34 L [k] p (by omega) (by simp) (fun j hj=>by simp at hj;omega) hpl
    simp only[d2,hat,hDl,Qs,if_true,forall_eq,bne_iff_ne,ne_eq,List.mem_cons,Nat.reduceEqDiff,Nat.reduceLT,Nat.reduceBEq,List.not_mem_nil,vv f10r3.eq_1,vv f10r4.eq_1,vv f10r5.eq_1,uu f10b6.eq_1,vv f10r7.eq_1,uu f10b8.eq_1,uu f10b9.eq_1,uu f10b10.eq_1,uu f10b11.eq_1,uu f10b12.eq_1,vv f10r13.eq_1,uu f10b14.eq_1]
    refine zls 56 rfl g34 (by simp[zB,vQ,lookO,V.isPure,lst]) (by simp only[List.map_cons,List.map_nil,zB,vQ,lookO,V.norm,zL,uD,zH yM,rC,C.norm]<;>rfl) (by rfl) (by simp[pK,lookO]) rfl ?_
    have hq:yN FL++R++[[.list 1 (some false) [[.int .i64 (k:Int)]],zC 2 (pls (xL L [k] p)),.bool false]]=yN FL++(R++[rZ L p k]):=by rw[List.append_assoc];rfl
    have hlR:(yN FL++R).length≤328:=by rw[List.length_append];omega
    simp only[uY,tM,lookO,c4,hq,Qs,if_true,if_false,forall_eq,bne_iff_ne,ne_eq,List.mem_cons,Nat.reduceAdd,Nat.reduceEqDiff,Nat.reduceLeDiff,Nat.reduceLT,Nat.reduceBEq,List.not_mem_nil,kB]
    exact⟨by omega,by omega,Next.intro (i+1,some false) rfl (by rw[htk];rfl) (by simp only;omega) (by simp only;omega)⟩
   ·obtain rfl:i=DS.length:=by omega
    have d2: ¬((DS.length:Int)<DS.length):=by omega
    rw[List.take_length]
    simp only[d2,Qs,if_true,List.append_nil,List.nodup_nil,List.nodup_cons,Nat.reduceBEq,List.not_mem_nil,vv f10r1.eq_1,uu f10b2.eq_1,uu f10b11.eq_1,uu f10b12.eq_1,vv f10r13.eq_1,uu f10b14.eq_1]
    refine hS _ ?_
    simp only[V.fz,V.fzL,V.nrm,V.nrmL,zoE,zi9,zja]
    have e:yN FL++yN (DS.map fun k:Nat=>⟨[(k:Int)],xL L [k] p,false⟩)=yN (FL++DS.map fun k:Nat=>⟨[(k:Int)],xL L [k] p,false⟩):=by simp[yN]
    rw[e,qJ (zi9 _)]
    rfl
 ·rw[if_neg h0] at hS
  rw[if_neg h0] at g
  generalize lookE L D=er at hS g h0
  have e1:(er !=0)=true:=by rw[bne_iff_ne];exact h0
  simp only[Qs,Nat.reduceAdd,Nat.reduceBEq,uu f10.eq_1,vv f10r45.eq_1,uu f10b46.eq_1,vv f10r47.eq_1,uu f10b48.eq_1]
  refine yS g ?_ (ha:=by simp only[List.map_cons,List.map_nil,zB,V.norm,zL,zH yF,zH yM,C.norm]<;>rfl)
  simp only[e1,Qs,iZ,if_true,if_false,bne_iff_ne,ne_eq,BEq.rfl,List.append_nil,List.nodup_nil,List.nodup_cons,Nat.reduceAdd,Nat.reduceMul,Nat.reduceEqDiff,Nat.reduceBEq,List.not_mem_nil,vv f10r39.eq_1,uu f10b40.eq_1,uu f10b41.eq_1,vv f10r42.eq_1,uu f10b43.eq_1,uu f10b44.eq_1]
  exact hS _ rfl
end Go.Abs
set_option maxRecDepth 100000
set_option maxHeartbeats 8000000
namespace Go.Ex
open Go.Lib Go.Wd Go.Wire
def pU (w:List Txt):Bool:=decide (w.length≤6)&&w.all fun s=>decide (s.length≤100)
def pV (f:Fld):Bool:=(decide (f.words.length≤10)&&decide (f.name.length≤100))&&f.words.all pU
def tX (d:Dcm):Bool:=(decide (d.flds.length≤14)&&decide (d.kind.length≤100))&&d.flds.all pV
def qA (m:Dmd):Bool:=(((decide (m.txt.length≤500)&&decide (m.doc.length≤60))&&decide (m.fld.length≤60))&&decide (m.oth.length≤60))&&decide (m.sec.length≤60)
end Go.Ex
namespace Go.Abs
open Go.Proofs Go.RowKit Go.Lib Go.Wd Go.Wire Go.Ex
theorem c18 (l:List Dcm) (hl:sX l):Spec Tryz.prog 18 [lst 2 (l.map zR)] (fun v=>v=.tup [.int .i64 (cnts l).2.1,.int .i64 (cnts l).2.2]):=by
 refine Spec.of_awlP hf18 okf18 (by simp) fun S hS=>?_
 have hlen:=hl.1
 unfold cnts at hS
 by_cases h8:l.length>8
 ·rw[if_pos h8] at hS
  have c1:(l.length:Int)>8:=by omega
  simp only[zJ,c1,Qs,if_true,List.append_nil,List.nodup_nil,Nat.reduceBEq,List.length_map,uu f18.eq_1,vv f18r45.eq_1,uu f18b46.eq_1,uu f18b47.eq_1,vv f18r48.eq_1,uu f18b49.eq_1,uu f18b50.eq_1,vv f18r51.eq_1,uu f18b52.eq_1]
  exact hS _ rfl
 ·rw[if_neg h8] at hS
  have c1: ¬(l.length:Int)>8:=by omega
  simp only[zJ,c1,Qs,if_true,Nat.reduceBEq,List.length_map,uu f18.eq_1,uu f18b41.eq_1,vv f18r42.eq_1,uu f18b43.eq_1,uu f18b44.eq_1,uu f18b47.eq_1,vv f18r48.eq_1,uu f18b49.eq_1,uu f18b50.eq_1,vv f18r51.eq_1,uu f18b52.eq_1]
  rw[uu f18l40.eq_1]
  refine zS (fun i:Nat=>[(0,lst 2 (l.map zR)),(4,.int .i64 i)]) (fun _=>[]) (fun i=>i≤l.length∧xT (fun i=>xH (l.getD i ⟨[],[]⟩)) (l.length-i) i=xT (fun i=>xH (l.getD i ⟨[],[]⟩)) l.length 0) (fun i=>l.length-i) 0 rfl rfl ⟨Nat.zero_le _,rfl⟩ ?_
  rintro i ⟨hi,hD⟩
  by_cases hlt:i<l.length
  ·have d1:(i:Int)<l.length:=by omega
   have c4:IntKind.i64.wrap ((i:Int)+1)=(i:Int)+1:=wrap_in (by omega) (by omega)
   have hgd:l.getD i ⟨[],[]⟩=l[i]:=by rw[List.getD_eq_getElem?_getD,List.getElem?_eq_getElem hlt];rfl
   rw[mI hlt,hgd] at hD
   have g1:=c41 _ (hl.2 _ (List.getElem_mem hlt))
   have hat:=mJ hlt
   generalize l[i]=d at hD g1 hat
   rw[show zR d=[.str d.kind,zC 2 (d.flds.map zU)] from rfl] at g1
   simp only[d1,hat,zJ,Qs,if_true,Nat.reduceBEq,List.length_map,vv f18r26.eq_1,vv f18r32.eq_1,uu f18b33.eq_1,uu f18b34.eq_1,uu f18b35.eq_1,uu f18b36.eq_1,vv f18r37.eq_1,uu f18b38.eq_1,uu f18b39.eq_1]
   refine zD g1 ?_ (ha:=by simp only[List.map_cons,List.map_nil,zB,V.norm,C.norm,C.normRow,yI wU]<;>rfl)
   by_cases h0:xH d=0
   ·have w0:(xH d !=0)=false:=by simp[h0]
    rw[if_pos h0] at hD
    simp only[w0,c4,Qs,if_true,Nat.reduceBEq,uu f18b29.eq_1,vv f18r30.eq_1,uu f18b31.eq_1]
    exact Next.intro (i+1) rfl rfl ⟨by omega,hD⟩ (by omega)
   ·have w0:(xH d !=0)=true:=by simp[h0]
    rw[if_neg h0] at hD
    rw[←hD,if_neg h0] at hS
    simp only[w0,Qs,if_true,List.append_nil,List.nodup_nil,Nat.reduceBEq,vv f18r27.eq_1,uu f18b28.eq_1,uu f18b29.eq_1,vv f18r30.eq_1,uu f18b31.eq_1]
    exact hS _ rfl
  ·have d1: ¬(i:Int)<l.length:=by omega
   rw[show l.length-i=0 by omega] at hD
   have hz:xT (fun i=>xH (l.getD i ⟨[],[]⟩)) l.length 0=0:=hD.symm
   rw[if_pos hz] at hS
   simp only[d1,zJ,Qs,if_true,Nat.reduceBEq,List.length_map,uu f18b20.eq_1,vv f18r21.eq_1,uu f18b22.eq_1,uu f18b23.eq_1,vv f18r24.eq_1,uu f18b25.eq_1,uu f18b36.eq_1,vv f18r37.eq_1,uu f18b38.eq_1,uu f18b39.eq_1]
   rw[uu f18l19.eq_1]
   refine zS (fun x:Nat×List Int×Nat=>[(0,lst 2 (l.map zR)),(6,.int .i64 (x.2.2:Nat)),(7,.int .i64 x.1)]) (fun _=>[]) (fun x=>x.1≤l.length∧x.2.2≤4096∧wR (l.drop x.1) x.2.1 x.2.2=wR l [] 1) (fun x=>l.length-x.1) (0,[],1) rfl rfl ⟨Nat.zero_le _,by simp only;decide,rfl⟩ ?_
   rintro⟨i,L,n⟩ ⟨hi,hn,hD⟩
   simp only[] at hi hn hD
   by_cases hlt:i<l.length
   ·have d1:(i:Int)<l.length:=by omega
    have c4:IntKind.i64.wrap ((i:Int)+1)=(i:Int)+1:=wrap_in (by omega) (by omega)
    have g1:=c42 _ (hl.2 _ (List.getElem_mem hlt))
    have hat:=mJ hlt
    rw[List.drop_eq_getElem_cons hlt,wR] at hD
    have hr:=gH (d:=l[i])
    generalize l[i]=d at hD g1 hat hr
    rw[show zR d=[.str d.kind,zC 2 (d.flds.map zU)] from rfl] at g1
    generalize cntD d=c at hD g1 hr
    obtain⟨cn,ce⟩:=c
    simp only[] at hD g1 hr
    have hmul:0≤(n:Int)*cn∧(n:Int)*cn≤4096*4096:=⟨Int.mul_nonneg (by omega) hr.1,Int.mul_le_mul (by omega) hr.2 hr.1 (by omega)⟩
    have c5:IntKind.i64.wrap ((n:Int)*cn)=(n:Int)*cn:=wrap_in (by omega) (by omega)
    simp only[d1,hat,zJ,Qs,if_true,Nat.reduceBEq,List.length_map,vv f18r3.eq_1,vv f18r11.eq_1,uu f18b12.eq_1,uu f18b13.eq_1,uu f18b14.eq_1,uu f18b15.eq_1,vv f18r16.eq_1,uu f18b17.eq_1,uu f18b18.eq_1]
    refine zD g1 ?_ (ha:=by simp only[List.map_cons,List.map_nil,zB,V.norm,C.norm,C.normRow,yI wU]<;>rfl)
    by_cases he:ce=0
    ·have e1:(ce !=0)=false:=by simp[he]
     by_cases hb:(n:Int)*cn>4096
     ·rw[if_pos (.inr hb)] at hD
      rw[←hD] at hS
      simp only[e1,c5,hb,Qs,if_true,if_false,List.append_nil,List.nodup_nil,Nat.reduceBEq,vv f18r4.eq_1,vv f18r5.eq_1,uu f18b6.eq_1,uu f18b7.eq_1,vv f18r8.eq_1,uu f18b9.eq_1,uu f18b10.eq_1]
      exact hS _ rfl
     ·rw[if_neg (by intro q;rcases q with q|q;exact q he;exact hb q)] at hD
      obtain⟨c',rfl⟩: ∃c':Nat,cn=c':=⟨cn.toNat,by omega⟩
      rw[Int.toNat_natCast] at hD
      have hnn:(n:Int)*(c':Int)=((n*c':Nat):Int):=(Int.natCast_mul n c').symm
      simp only[e1,c4,c5,hb,Qs,if_true,if_false,Nat.reduceBEq,vv f18r4.eq_1,uu f18b7.eq_1,vv f18r8.eq_1,uu f18b9.eq_1,uu f18b10.eq_1]
      exact Next.intro (i+1,L++[(c':Int)],n*c') (by simp only[hnn];rfl) rfl ⟨by simp only;omega,by simp only;omega,hD⟩ (by simp only;omega)
    ·have e1:(ce !=0)=true:=by simp[he]
     rw[if_pos (.inl he)] at hD
     rw[←hD] at hS
     simp only[e1,Qs,if_true,List.append_nil,List.nodup_nil,Nat.reduceBEq,vv f18r4.eq_1,vv f18r5.eq_1,uu f18b6.eq_1,uu f18b7.eq_1,vv f18r8.eq_1,uu f18b9.eq_1,uu f18b10.eq_1]
     exact hS _ rfl
   ·have d1: ¬(i:Int)<l.length:=by omega
    rw[List.drop_eq_nil_of_le (by omega),wR] at hD
    rw[←hD] at hS
    simp only[d1,zJ,Qs,if_true,List.append_nil,List.nodup_nil,Nat.reduceBEq,List.length_map,vv f18r1.eq_1,uu f18b2.eq_1,uu f18b15.eq_1,vv f18r16.eq_1,uu f18b17.eq_1,uu f18b18.eq_1]
    exact hS _ rfl
theorem c31 (L:List Dmd) (hL:L.length≤8):Spec Tryz.prog 31 [lst 8 (L.map zP)] (fun v=>v=.bool (L.all qA)):=by
 refine Spec.of_awlS hf31 okf31 (by simp) fun S hS=>?_
 simp only[zJ,Qs,uu f31.eq_1,uu f31b16.eq_1,vv f31r17.eq_1,uu f31b18.eq_1,uu f31b19.eq_1,vv f31r20.eq_1,uu f31b21.eq_1]
 rw[uu f31l15.eq_1]
 refine zS (fun i:Nat=>[(0,lst 8 (L.map zP)),(3,.int .i64 i)]) (fun _=>[]) (fun i=>i≤L.length∧(L.drop i).all qA=L.all qA) (fun i=>L.length-i) 0 rfl rfl ⟨Nat.zero_le _,rfl⟩ ?_
 rintro i ⟨hi,hD⟩
 by_cases hlt:i<L.length
 ·have d1:(i:Int)<L.length:=by omega
  have d2:(i:Int)<40:=by omega
  have c4:IntKind.i64.wrap ((i:Int)+1)=(i:Int)+1:=wrap_in (by omega) (by omega)
  have hat:=nF hlt
  have hgd:L.getD i yL=L[i]:=by rw[List.getD_eq_getElem?_getD,List.getElem?_eq_getElem hlt];rfl
  rw[List.drop_eq_getElem_cons hlt,List.all_cons] at hD
  rw[hgd] at hat
  generalize L[i]=m at hat hD
  have hbad:qA m=false→S (.bool false):=fun h=>by
   rw[h,Bool.false_and] at hD
   rw[←hD] at hS;exact hS
  have hF:qA m=true ↔ m.txt.length≤500∧m.doc.length≤60∧m.fld.length≤60∧m.oth.length≤60∧m.sec.length≤60:=by
   unfold qA
   simp only[Bool.and_eq_true,decide_eq_true_eq]
   omega
  have hno: ¬(m.txt.length≤500∧m.doc.length≤60∧m.fld.length≤60∧m.oth.length≤60∧m.sec.length≤60)→S (.bool false):=fun h=>hbad (Bool.eq_false_iff.2 fun q=>h (hF.1 q))
  simp only[d1,d2,c4,hat,zJ,Qs,if_true,if_false,List.nodup_nil,Nat.reduceAdd,Nat.reduceLeDiff,Nat.reduceBEq,List.length_map,vv f31r3.eq_1,vv f31r4.eq_1,uu f31b5.eq_1,uu f31b6.eq_1,vv f31r7.eq_1,uu f31b8.eq_1,uu f31b9.eq_1,uu f31b10.eq_1,uu f31b11.eq_1,vv f31r12.eq_1,uu f31b13.eq_1,uu f31b14.eq_1]
  refine⟨fun q=>hno (by omega),fun q1=>⟨fun q=>hno (by omega),fun q2=>⟨fun q=>hno (by omega),fun q3=>⟨fun q=>hno (by omega),fun q4=>⟨fun q=>hno (by omega),fun q5=>?_⟩⟩⟩⟩⟩
  rw[hF.2 (by omega),Bool.true_and] at hD
  exact Next.intro (i+1) rfl rfl ⟨by omega,hD⟩ (by omega)
 ·have d1: ¬(i:Int)<L.length:=by omega
  have d2:(L.length:Int)≤30:=by omega
  rw[List.drop_eq_nil_of_le (by omega),List.all_nil] at hD
  rw[←hD] at hS
  simp only[d1,d2,zJ,Qs,if_true,List.nodup_nil,Nat.reduceBEq,List.length_map,vv f31r1.eq_1,uu f31b2.eq_1,uu f31b11.eq_1,vv f31r12.eq_1,uu f31b13.eq_1,uu f31b14.eq_1]
  exact hS
theorem c30 (d:Dcm):Spec Tryz.prog 30 [.agg (zR d)] (fun v=>v=.bool (tX d)):=by
 refine Spec.of_awlS hf30 okf30 (by simp) fun S hS=>?_
 unfold zR
 unfold tX at hS
 by_cases h14:d.flds.length≤14
 ·by_cases h100:d.kind.length≤100
  ·rw[decide_eq_true h14,decide_eq_true h100,Bool.true_and,Bool.true_and] at hS
   have c1: ¬(d.flds.length:Int)>14:=by omega
   have c2: ¬(d.kind.length:Int)>100:=by omega
   simp only[c1,c2,zJ,Qs,if_true,if_false,Nat.reduceAdd,Nat.reduceLeDiff,Nat.reduceBEq,List.length_map,uu f30.eq_1,uu f30b52.eq_1,vv f30r53.eq_1,uu f30b54.eq_1,uu f30b55.eq_1,uu f30b58.eq_1,vv f30r59.eq_1,uu f30b60.eq_1,uu f30b61.eq_1,vv f30r62.eq_1,uu f30b63.eq_1]
   rw[uu f30l51.eq_1]
   refine zS (fun i:Nat=>[(1,.k (.c (.ro [.str d.kind,zC 2 (d.flds.map zU)] 0))),(3,.int .i64 i)]) (fun _=>[]) (fun i=>i≤d.flds.length∧(d.flds.drop i).all pV=d.flds.all pV) (fun i=>d.flds.length-i) 0 rfl rfl ⟨Nat.zero_le _,rfl⟩ ?_
   rintro i ⟨hi,hD⟩
   by_cases hlt:i<d.flds.length
   ·have d1:(i:Int)<d.flds.length:=by omega
    have c4:IntKind.i64.wrap ((i:Int)+1)=(i:Int)+1:=wrap_in (by omega) (by omega)
    have hat:=nA hlt
    rw[List.drop_eq_getElem_cons hlt,List.all_cons] at hD
    generalize d.flds[i]=f at hat hD
    have hbad:pV f=false→S (.bool false):=fun h=>by
     rw[h,Bool.false_and] at hD
     rw[←hD] at hS;exact hS
    have hF:pV f=((decide (f.words.length≤10)&&decide (f.name.length≤100))&&f.words.all pU):=rfl
    by_cases h10:f.words.length≤10
    ·by_cases hnm:f.name.length≤100
     ·rw[decide_eq_true h10,decide_eq_true hnm,Bool.true_and,Bool.true_and] at hF
      have e1: ¬(f.words.length:Int)>10:=by omega
      have e2: ¬(f.name.length:Int)>100:=by omega
      simp only[d1,e1,e2,hat,zJ,Qs,if_true,if_false,Nat.reduceAdd,Nat.reduceLeDiff,Nat.reduceBEq,List.length_map,vv f30r3.eq_1,uu f30b36.eq_1,vv f30r37.eq_1,uu f30b38.eq_1,uu f30b41.eq_1,vv f30r42.eq_1,uu f30b43.eq_1,uu f30b44.eq_1,uu f30b45.eq_1,uu f30b46.eq_1,uu f30b47.eq_1,vv f30r48.eq_1,uu f30b49.eq_1,uu f30b50.eq_1]
      rw[uu f30l35.eq_1]
      refine zS (fun k:Nat=>[(1,.k (.c (.ro [.str d.kind,zC 2 (d.flds.map zU)] 0))),(3,.int .i64 i),(4,.int .i64 k)]) (fun _=>[]) (fun k=>k≤f.words.length∧(f.words.drop k).all pU=f.words.all pU) (fun k=>f.words.length-k) 0 rfl rfl ⟨Nat.zero_le _,rfl⟩ ?_
      rintro k ⟨hk,hD2⟩
      by_cases hlk:k<f.words.length
      ·have d2:(k:Int)<f.words.length:=by omega
       have c5:IntKind.i64.wrap ((k:Int)+1)=(k:Int)+1:=wrap_in (by omega) (by omega)
       have haw:=kI hlk
       rw[List.drop_eq_getElem_cons hlk,List.all_cons] at hD2
       generalize f.words[k]=w at haw hD2
       have hbad2:pU w=false→S (.bool false):=fun h=>hbad (by rw[hF,←hD2,h,Bool.false_and])
       have hW:pU w=(decide (w.length≤6)&&w.all fun s=>decide (s.length≤100)):=rfl
       by_cases h6:w.length≤6
       ·rw[decide_eq_true h6,Bool.true_and] at hW
        have e3: ¬(w.length:Int)>6:=by omega
        simp only[d1,d2,e3,hat,haw,zJ,yC,Qs,if_true,if_false,Nat.reduceAdd,Nat.reduceBEq,List.length_map,vv f30r4.eq_1,uu f30b18.eq_1,vv f30r19.eq_1,uu f30b20.eq_1,uu f30b23.eq_1,vv f30r24.eq_1,uu f30b25.eq_1,uu f30b26.eq_1,vv f30r27.eq_1,uu f30b28.eq_1,uu f30b29.eq_1,uu f30b30.eq_1,uu f30b31.eq_1,vv f30r32.eq_1,uu f30b33.eq_1,uu f30b34.eq_1]
        rw[uu f30l17.eq_1]
        refine zS (fun j:Nat=>[(1,.k (.c (.ro [.str d.kind,zC 2 (d.flds.map zU)] 0))),(3,.int .i64 i),(4,.int .i64 k),(5,lst 1 (zM w)),(6,.int .i64 j)]) (fun _=>[]) (fun j=>j≤w.length∧(w.drop j).all (fun s=>decide (s.length≤100))=w.all fun s=>decide (s.length≤100)) (fun j=>w.length-j) 0 rfl rfl ⟨Nat.zero_le _,rfl⟩ ?_
        rintro j ⟨hj,hD3⟩
        by_cases hlj:j<w.length
        ·have d3:(j:Int)<w.length:=by omega
         have c6:IntKind.i64.wrap ((j:Int)+1)=(j:Int)+1:=wrap_in (by omega) (by omega)
         have has:=uP hlj
         rw[List.drop_eq_getElem_cons hlj,List.all_cons] at hD3
         generalize w[j]=s at has hD3
         by_cases hs:s.length≤100
         ·rw[decide_eq_true hs,Bool.true_and] at hD3
          have e4: ¬(s.length:Int)>100:=by omega
          simp only[d3,e4,c6,has,yC,Qs,if_true,Nat.reduceBEq,vv f30r5.eq_1,uu f30b8.eq_1,vv f30r9.eq_1,uu f30b10.eq_1,uu f30b11.eq_1,uu f30b12.eq_1,uu f30b13.eq_1,vv f30r14.eq_1,uu f30b15.eq_1,uu f30b16.eq_1]
          exact Next.intro (j+1) rfl rfl ⟨by omega,hD3⟩ (by omega)
         ·rw[decide_eq_false hs,Bool.false_and] at hD3
          have e4:(s.length:Int)>100:=by omega
          simp only[d3,e4,has,yC,Qs,if_true,List.nodup_nil,Nat.reduceBEq,vv f30r5.eq_1,vv f30r6.eq_1,uu f30b7.eq_1,uu f30b8.eq_1,vv f30r9.eq_1,uu f30b10.eq_1,uu f30b11.eq_1,uu f30b12.eq_1,uu f30b13.eq_1,vv f30r14.eq_1,uu f30b15.eq_1,uu f30b16.eq_1]
          exact hbad2 (by rw[hW,←hD3])
        ·have d3: ¬(j:Int)<w.length:=by omega
         rw[List.drop_eq_nil_of_le (by omega),List.all_nil] at hD3
         rw[hW,←hD3,Bool.true_and] at hD2
         simp only[d3,c5,yC,Qs,if_true,if_false,reduceCtorEq,Nat.reduceEqDiff,Nat.reduceBEq,uu f30b13.eq_1,vv f30r14.eq_1,uu f30b15.eq_1,uu f30b16.eq_1]
         exact Next.intro (k+1) rfl rfl ⟨by omega,hD2⟩ (by omega)
       ·rw[decide_eq_false h6,Bool.false_and] at hW
        have e3:(w.length:Int)>6:=by omega
        simp only[d1,d2,e3,hat,haw,zJ,yC,Qs,if_true,if_false,List.nodup_nil,Nat.reduceAdd,Nat.reduceBEq,List.length_map,vv f30r4.eq_1,vv f30r21.eq_1,uu f30b22.eq_1,uu f30b23.eq_1,vv f30r24.eq_1,uu f30b25.eq_1,uu f30b26.eq_1,vv f30r27.eq_1,uu f30b28.eq_1,uu f30b29.eq_1,uu f30b30.eq_1,uu f30b31.eq_1,vv f30r32.eq_1,uu f30b33.eq_1,uu f30b34.eq_1]
        exact hbad2 hW
      ·have d2: ¬(k:Int)<f.words.length:=by omega
       rw[List.drop_eq_nil_of_le (by omega),List.all_nil] at hD2
       rw[hF,←hD2,Bool.true_and] at hD
       simp only[d1,d2,c4,hat,zJ,Qs,if_true,if_false,reduceCtorEq,Nat.reduceAdd,Nat.reduceBEq,List.length_map,uu f30b31.eq_1,vv f30r32.eq_1,uu f30b33.eq_1,uu f30b34.eq_1]
       exact Next.intro (i+1) rfl rfl ⟨by omega,hD⟩ (by omega)
     ·rw[decide_eq_false hnm,Bool.and_false,Bool.false_and] at hF
      have e1: ¬(f.words.length:Int)>10:=by omega
      have e2:(f.name.length:Int)>100:=by omega
      simp only[d1,e1,e2,hat,zJ,Qs,if_true,if_false,List.nodup_nil,Nat.reduceAdd,Nat.reduceLeDiff,Nat.reduceBEq,List.length_map,vv f30r3.eq_1,vv f30r39.eq_1,uu f30b40.eq_1,uu f30b41.eq_1,vv f30r42.eq_1,uu f30b43.eq_1,uu f30b44.eq_1,uu f30b45.eq_1,uu f30b46.eq_1,uu f30b47.eq_1,vv f30r48.eq_1,uu f30b49.eq_1,uu f30b50.eq_1]
      exact hbad hF
    ·rw[decide_eq_false h10,Bool.false_and,Bool.false_and] at hF
     have e1:(f.words.length:Int)>10:=by omega
     simp only[d1,e1,hat,zJ,Qs,if_true,if_false,List.nodup_nil,Nat.reduceAdd,Nat.reduceBEq,List.length_map,vv f30r3.eq_1,vv f30r39.eq_1,uu f30b40.eq_1,uu f30b41.eq_1,vv f30r42.eq_1,uu f30b43.eq_1,uu f30b44.eq_1,uu f30b45.eq_1,uu f30b46.eq_1,uu f30b47.eq_1,vv f30r48.eq_1,uu f30b49.eq_1,uu f30b50.eq_1]
     exact hbad hF
   ·have d1: ¬(i:Int)<d.flds.length:=by omega
    rw[List.drop_eq_nil_of_le (by omega),List.all_nil] at hD
    rw[←hD] at hS
    simp only[d1,zJ,Qs,if_true,if_false,List.nodup_nil,Nat.reduceAdd,Nat.reduceBEq,List.length_map,vv f30r1.eq_1,uu f30b2.eq_1,uu f30b47.eq_1,vv f30r48.eq_1,uu f30b49.eq_1,uu f30b50.eq_1]
    exact hS
  ·rw[decide_eq_false h100,Bool.and_false,Bool.false_and] at hS
   have c1: ¬(d.flds.length:Int)>14:=by omega
   have c2:(d.kind.length:Int)>100:=by omega
   simp only[c1,c2,zJ,Qs,if_true,if_false,List.nodup_nil,Nat.reduceAdd,Nat.reduceLeDiff,Nat.reduceBEq,List.length_map,uu f30.eq_1,vv f30r56.eq_1,uu f30b57.eq_1,uu f30b58.eq_1,vv f30r59.eq_1,uu f30b60.eq_1,uu f30b61.eq_1,vv f30r62.eq_1,uu f30b63.eq_1]
   exact hS
 ·rw[decide_eq_false h14,Bool.false_and,Bool.false_and] at hS
  have c1:(d.flds.length:Int)>14:=by omega
  simp only[c1,zJ,Qs,if_true,if_false,List.nodup_nil,Nat.reduceAdd,Nat.reduceBEq,List.length_map,uu f30.eq_1,vv f30r56.eq_1,uu f30b57.eq_1,uu f30b58.eq_1,vv f30r59.eq_1,uu f30b60.eq_1,uu f30b61.eq_1,vv f30r62.eq_1,uu f30b63.eq_1]
  exact hS
end Go.Abs
set_option maxRecDepth 100000
set_option maxHeartbeats 8000000
namespace Go.Ex
open Go.Lib Go.Wd Go.Wire Go.Abs
def pW (L:List Dmd) (D:List Dcm):Bool:=(D.take 12).all tX&&(decide (L.length≤8)&&(decide (D.length≤12)&&(L.all qA&&(decide ((cnts D).2.2≠0)||decide ((cnts D).2.1≤128)))))
theorem zjb {d:Dcm} (h:tX d=true):DcmS d:=by
 unfold tX at h
 simp only[Bool.and_eq_true,decide_eq_true_eq,List.all_eq_true] at h
 obtain⟨⟨h1,h2⟩,h3⟩:=h
 refine⟨by omega,by omega,fun f hf=>?_⟩
 have:=h3 f hf
 unfold pV at this
 simp only[Bool.and_eq_true,decide_eq_true_eq,List.all_eq_true] at this
 obtain⟨⟨h4,h5⟩,h6⟩:=this
 refine⟨by omega,by omega,fun w hw=>?_⟩
 have:=h6 w hw
 unfold pU at this
 simp only[Bool.and_eq_true,decide_eq_true_eq,List.all_eq_true] at this
 exact⟨by omega,fun s hs=>by have:=this.2 s hs;omega⟩
theorem zam {D:List Dcm} (h1:(D.take 12).all tX=true) (h2:D.length≤12):sX D:=by
 rw[List.take_of_length_le (by omega)] at h1
 exact⟨by omega,fun d hd=>zjb (List.all_eq_true.1 h1 d hd)⟩
end Go.Ex
namespace Go.Abs
open Go.Proofs Go.RowKit Go.Lib Go.Wd Go.Wire Go.Ex
theorem c9 (L:List Dmd) (D:List Dcm):Spec Tryz.prog 9 [lst 8 (L.map zP),lst 2 (D.map zR)] (fun v=>v=.bool (pW L D)):=by
 refine Spec.of_awlS hf9 okf9 (by simp) fun S hS=>?_
 unfold pW at hS
 simp only[zJ,Qs,Nat.reduceAdd,uu f9.eq_1,uu f9b24.eq_1,vv f9r25.eq_1,uu f9b26.eq_1,uu f9b27.eq_1,vv f9r28.eq_1,uu f9b29.eq_1]
 rw[uu f9l23.eq_1]
 refine zS (fun i:Nat=>[(0,lst 8 (L.map zP)),(1,lst 2 (D.map zR)),(5,.int .i64 i)]) (fun _=>[]) (fun i=>i≤D.length∧i≤12∧((D.take 12).drop i).all tX=(D.take 12).all tX) (fun i=>D.length-i) 0 rfl rfl ⟨Nat.zero_le _,by decide,rfl⟩ ?_
 rintro i ⟨hi,hi12,hD⟩
 have fin: ¬(i<D.length∧i<12)→(D.take 12).all tX=true:=fun h=>by
  rw[←hD,List.drop_eq_nil_of_le (by rw[List.length_take];omega)];rfl
 by_cases hlt:i<D.length
 ·by_cases h12:i<12
  ·have d1:(i:Int)<D.length:=by omega
   have d2:(i:Int)<12:=by omega
   have c4:IntKind.i64.wrap ((i:Int)+1)=(i:Int)+1:=wrap_in (by omega) (by omega)
   have hat:=mJ hlt
   have hlt2:i<(D.take 12).length:=by rw[List.length_take];omega
   have hg:(D.take 12)[i]=D[i]:=List.getElem_take
   rw[List.drop_eq_getElem_cons hlt2,List.all_cons,hg] at hD
   have g1:=c30 D[i]
   generalize D[i]=d at hat hD g1
   rw[show zR d=[.str d.kind,zC 2 (d.flds.map zU)] from rfl] at g1
   simp only[d1,d2,hat,zJ,Qs,if_true,Nat.reduceBEq,List.length_map,vv f9r11.eq_1,vv f9r15.eq_1,uu f9b16.eq_1,uu f9b17.eq_1,uu f9b18.eq_1,uu f9b19.eq_1,vv f9r20.eq_1,uu f9b21.eq_1,uu f9b22.eq_1]
   refine zD g1 ?_ (ha:=by simp only[List.map_cons,List.map_nil,zB,V.norm,C.norm,C.normRow,yI wU]<;>rfl)
   cases hf:tX d with
   |true=>
    rw[hf,Bool.true_and] at hD
    simp only[c4,Qs,if_true,Nat.reduceBEq,uu f9b14.eq_1]
    exact Next.intro (i+1) rfl rfl ⟨by omega,by omega,hD⟩ (by omega)
   |false=>
    rw[hf,Bool.false_and] at hD
    rw[←hD,Bool.false_and] at hS
    simp only[Qs,List.nodup_nil,vv f9r12.eq_1,uu f9b13.eq_1,uu f9b14.eq_1]
    exact hS
  ·have d1:(i:Int)<D.length:=by omega
   have d2: ¬(i:Int)<12:=by omega
   have hall:=fin (by omega)
   simp only[d1,d2,zJ,Qs,if_true,if_false,List.nodup_nil,Nat.reduceBEq,List.length_map,vv f9r5.eq_1,uu f9b6.eq_1,uu f9b7.eq_1,vv f9r8.eq_1,uu f9b9.eq_1,uu f9b10.eq_1,uu f9b19.eq_1,vv f9r20.eq_1,uu f9b21.eq_1,uu f9b22.eq_1]
   rw[hall,Bool.true_and] at hS
   refine⟨fun q=>?_,fun q1=>⟨fun q=>?_,fun q2=>?_⟩⟩
   ·rw[decide_eq_false (by omega: ¬L.length≤8),Bool.false_and] at hS
    exact hS
   ·rw[decide_eq_true (by omega:L.length≤8),Bool.true_and,decide_eq_false (by omega: ¬D.length≤12),Bool.false_and] at hS
    exact hS
   ·have q12:D.length≤12:=by omega
    rw[decide_eq_true (by omega:L.length≤8),Bool.true_and,decide_eq_true q12,Bool.true_and] at hS
    have g31:=c31 L (by omega)
    have g18:=c18 D (zam hall q12)
    refine zD g31 ?_ (ha:=by simp only[List.map_cons,List.map_nil,zB,V.norm,zL,zH yM,C.norm]<;>rfl)
    cases hm:L.all qA with
    |false=>
     rw[hm,Bool.false_and] at hS
     simp only[Qs,if_false,List.nodup_nil,Nat.reduceBEq,vv f9r5.eq_1,uu f9b6.eq_1,uu f9b7.eq_1]
     exact hS
    |true=>
     rw[hm,Bool.true_and] at hS
     simp only[Qs,if_false,Nat.reduceBEq,vv f9r3.eq_1,uu f9b4.eq_1,uu f9b7.eq_1]
     refine zD g18 ?_ (ha:=by simp only[List.map_cons,List.map_nil,zB,V.norm,zL,zH yF,C.norm]<;>rfl)
     by_cases he:(cnts D).2.2=0
     ·have e1:((cnts D).2.2 !=0)=false:=by simp[he]
      rw[decide_eq_false (fun q=>q he),Bool.false_or] at hS
      simp only[e1,Qs,if_true,if_false,List.nodup_nil,Nat.reduceBEq,vv f9r1.eq_1,uu f9b2.eq_1]
      exact hS
     ·have e1:((cnts D).2.2 !=0)=true:=by simp[he]
      rw[decide_eq_true he,Bool.true_or] at hS
      simp only[e1,Qs,if_true,List.nodup_nil,Nat.reduceBEq,vv f9r1.eq_1,uu f9b2.eq_1]
      exact hS
 ·have d1: ¬(i:Int)<D.length:=by omega
  have hall:=fin (by omega)
  simp only[d1,zJ,Qs,if_true,if_false,List.nodup_nil,Nat.reduceBEq,List.length_map,vv f9r5.eq_1,uu f9b6.eq_1,uu f9b7.eq_1,vv f9r8.eq_1,uu f9b9.eq_1,uu f9b10.eq_1,uu f9b19.eq_1,vv f9r20.eq_1,uu f9b21.eq_1,uu f9b22.eq_1]
  rw[hall,Bool.true_and] at hS
  refine⟨fun q=>?_,fun q1=>⟨fun q=>?_,fun q2=>?_⟩⟩
  ·rw[decide_eq_false (by omega: ¬L.length≤8),Bool.false_and] at hS
   exact hS
  ·rw[decide_eq_true (by omega:L.length≤8),Bool.true_and,decide_eq_false (by omega: ¬D.length≤12),Bool.false_and] at hS
   exact hS
  ·have q12:D.length≤12:=by omega
   rw[decide_eq_true (by omega:L.length≤8),Bool.true_and,decide_eq_true q12,Bool.true_and] at hS
   have g31:=c31 L (by omega)
   have g18:=c18 D (zam hall q12)
   refine zD g31 ?_ (ha:=by simp only[List.map_cons,List.map_nil,zB,V.norm,zL,zH yM,C.norm]<;>rfl)
   cases hm:L.all qA with
   |false=>
    rw[hm,Bool.false_and] at hS
    simp only[Qs,if_false,List.nodup_nil,Nat.reduceBEq,vv f9r5.eq_1,uu f9b6.eq_1,uu f9b7.eq_1]
    exact hS
   |true=>
    rw[hm,Bool.true_and] at hS
    simp only[Qs,if_false,Nat.reduceBEq,vv f9r3.eq_1,uu f9b4.eq_1,uu f9b7.eq_1]
    refine zD g18 ?_ (ha:=by simp only[List.map_cons,List.map_nil,zB,V.norm,zL,zH yF,C.norm]<;>rfl)
    by_cases he:(cnts D).2.2=0
    ·have e1:((cnts D).2.2 !=0)=false:=by simp[he]
     rw[decide_eq_false (fun q=>q he),Bool.false_or] at hS
     simp only[e1,Qs,if_true,if_false,List.nodup_nil,Nat.reduceBEq,vv f9r1.eq_1,uu f9b2.eq_1]
     exact hS
    ·have e1:((cnts D).2.2 !=0)=true:=by simp[he]
     rw[decide_eq_true he,Bool.true_or] at hS
     simp only[e1,Qs,if_true,List.nodup_nil,Nat.reduceBEq,vv f9r1.eq_1,uu f9b2.eq_1]
     exact hS
end Go.Abs
set_option maxRecDepth 100000
set_option maxHeartbeats 8000000
namespace Go.Ex
open Go.Lib Go.Wd Go.Wire Go.Abs
def okK (L:List Dmd) (p:List Pln) (k:Int):Bool:=decide (0≤k)&&(decide (k<L.length)&&vB (L.getD k.toNat yL) p)
def meetsB (L:List Dmd) (D:List Dcm) (w:List Int) (i:Int):Bool:=decide (readE D i=0)&&w.all (okK L (readP' D i))
def someB (L:List Dmd) (D:List Dcm) (w:List Int):Bool:=(List.range (cnts D).2.1.toNat).any fun i:Nat=>meetsB L D w i
theorem zjc {L:List Dmd} {D:List Dcm} (h:AskS L D) (i:Int):vA (readP' D i):=by
 unfold readP'
 split
 ·rename_i h0
  unfold readE at h0
  split at h0
  ·rename_i h1;exact absurd h0 h1
  ·rename_i h1
   split at h0
   ·cases h0
   ·have h1:(cnts D).2.2=0:=by simpa using h1
    have:=(rB h1).n
    exact h.rd h1 _ (by omega)
 ·exact⟨by simp,by simp⟩
end Go.Ex
namespace Go.Abs
open Go.Proofs Go.RowKit Go.Lib Go.Wd Go.Wire Go.Ex
theorem zoF {w:List Int} {k:Nat} (h:k<w.length):(zK w).getD k []=[.int .i64 w[k]]:=by simp[zK,h]
theorem c17 (L:List Dmd) (D:List Dcm) (h:AskS L D) (w:List Int) (hw:w.length≤1000000) (i:Int):Spec Tryz.prog 17 [lst 8 (L.map zP),lst 1 (zK w),lst 2 (D.map zR),.int .i64 i] (fun v=>v=.bool (meetsB L D w i)):=by
 refine Spec.of_awlS hf17 okf17 (by simp) fun S hS=>?_
 have g:=c14 D h.dc i
 have hp:=zjc h i
 have hL:=h.l8
 unfold meetsB at hS
 by_cases h0:readE D i=0
 ·rw[h0] at g
  rw[decide_eq_true h0,Bool.true_and] at hS
  generalize readP' D i=p at g hp hS
  simp only[Qs,Nat.reduceAdd,Nat.reduceBEq,uu f17.eq_1,vv f17r26.eq_1,uu f17b27.eq_1,vv f17r28.eq_1,uu f17b29.eq_1]
  refine yS g ?_ (ha:=by simp only[List.map_cons,List.map_nil,zB,V.norm,zL,zH yF,C.norm]<;>rfl)
  simp only[show((0:Int) !=0)=false from rfl,Qs,if_true,List.append_nil,Nat.reduceAdd,Nat.reduceMul,Nat.reduceBEq,uu f17b16.eq_1,vv f17r17.eq_1,uu f17b18.eq_1,uu f17b19.eq_1,uu f17b22.eq_1,vv f17r23.eq_1,uu f17b24.eq_1,uu f17b25.eq_1]
  rw[uu f17l15.eq_1]
  refine zS (fun k:Nat=>[(0,lst 8 (L.map zP)),(1,lst 1 (zK w)),(9,lst 3 (xQ p)),(11,.int .i64 k)]) (fun _=>[]) (fun k=>k≤w.length∧(w.drop k).all (okK L p)=w.all (okK L p)) (fun k=>w.length-k) 0 rfl rfl ⟨Nat.zero_le _,rfl⟩ ?_
  rintro k ⟨hk,hD⟩
  by_cases hlt:k<w.length
  ·have d1:(k:Int)<w.length:=by omega
   have c4:IntKind.i64.wrap ((k:Int)+1)=(k:Int)+1:=wrap_in (by omega) (by omega)
   have hat:=zoF hlt
   rw[List.drop_eq_getElem_cons hlt,List.all_cons] at hD
   generalize w[k]=z at hat hD
   by_cases q1:z<0
   ·rw[show okK L p z=false by unfold okK;rw[decide_eq_false (by omega)];rfl,Bool.false_and] at hD
    rw[←hD] at hS
    simp only[d1,hat,q1,yB,zJ,Qs,if_true,List.nodup_nil,Nat.reduceBEq,vv f17r3.eq_1,vv f17r4.eq_1,uu f17b5.eq_1,uu f17b6.eq_1,vv f17r7.eq_1,uu f17b8.eq_1,uu f17b9.eq_1,uu f17b10.eq_1,uu f17b11.eq_1,vv f17r12.eq_1,uu f17b13.eq_1,uu f17b14.eq_1]
    exact hS
   obtain⟨m,rfl⟩: ∃m:Nat,z=m:=⟨z.toNat,by omega⟩
   by_cases q2:m<L.length
   ·have hm:=nF q2
    have hz:okK L p (m:Int)=vB (L.getD m yL) p:=by
     unfold okK
     rw[decide_eq_true (by omega),decide_eq_true (by omega)];rfl
    rw[hz] at hD
    generalize L.getD m yL=x at hm hD
    have g1:=c39 x p hp
    unfold zP at g1
    have e2: ¬(m:Int)≥L.length:=by omega
    cases hx:vB x p with
    |true=>
     rw[hx] at g1
     rw[hx,Bool.true_and] at hD
     simp only[d1,hat,q1,e2,hm,yB,zJ,Qs,if_true,if_false,Nat.reduceBEq,List.length_map,vv f17r3.eq_1,vv f17r7.eq_1,uu f17b8.eq_1,uu f17b9.eq_1,uu f17b10.eq_1,uu f17b11.eq_1,vv f17r12.eq_1,uu f17b13.eq_1,uu f17b14.eq_1]
     refine⟨by omega,?_⟩
     refine zD g1 ?_ (ha:=by simp only[List.map_cons,List.map_nil,zB,V.norm,C.norm,zL,yI uQ,C.normRow,rC]<;>rfl)
     simp only[c4,Qs,if_true,if_false,Nat.reduceBEq,uu f17b6.eq_1]
     exact Next.intro (k+1) rfl rfl ⟨by omega,hD⟩ (by omega)
    |false=>
     rw[hx] at g1
     rw[hx,Bool.false_and] at hD
     rw[←hD] at hS
     simp only[d1,hat,q1,e2,hm,yB,zJ,Qs,if_true,if_false,Nat.reduceBEq,List.length_map,vv f17r3.eq_1,vv f17r7.eq_1,uu f17b8.eq_1,uu f17b9.eq_1,uu f17b10.eq_1,uu f17b11.eq_1,vv f17r12.eq_1,uu f17b13.eq_1,uu f17b14.eq_1]
     refine⟨by omega,?_⟩
     refine zD g1 ?_ (ha:=by simp only[List.map_cons,List.map_nil,zB,V.norm,C.norm,zL,yI uQ,C.normRow,rC]<;>rfl)
     simp only[Qs,if_false,List.nodup_nil,Nat.reduceBEq,vv f17r4.eq_1,uu f17b5.eq_1,uu f17b6.eq_1]
     exact hS
   ·have e2:(m:Int)≥L.length:=by omega
    rw[show okK L p (m:Int)=false by unfold okK;rw[decide_eq_false (show¬(m:Int)<L.length by omega)];simp,Bool.false_and] at hD
    rw[←hD] at hS
    simp only[d1,hat,q1,e2,yB,zJ,Qs,if_true,if_false,List.nodup_nil,Nat.reduceBEq,List.length_map,vv f17r3.eq_1,vv f17r4.eq_1,uu f17b5.eq_1,uu f17b6.eq_1,vv f17r7.eq_1,uu f17b8.eq_1,uu f17b9.eq_1,uu f17b10.eq_1,uu f17b11.eq_1,vv f17r12.eq_1,uu f17b13.eq_1,uu f17b14.eq_1]
    exact hS
  ·have d1: ¬(k:Int)<w.length:=by omega
   rw[List.drop_eq_nil_of_le (by omega),List.all_nil] at hD
   rw[←hD] at hS
   simp only[d1,yB,Qs,if_true,List.nodup_nil,Nat.reduceBEq,vv f17r1.eq_1,uu f17b2.eq_1,uu f17b11.eq_1,vv f17r12.eq_1,uu f17b13.eq_1,uu f17b14.eq_1]
   exact hS
 ·rw[decide_eq_false h0,Bool.false_and] at hS
  generalize readE D i=er at g h0
  have e1:(er !=0)=true:=by rw[bne_iff_ne];exact h0
  simp only[Qs,Nat.reduceAdd,Nat.reduceBEq,uu f17.eq_1,vv f17r26.eq_1,uu f17b27.eq_1,vv f17r28.eq_1,uu f17b29.eq_1]
  refine yS g ?_ (ha:=by simp only[List.map_cons,List.map_nil,zB,V.norm,zL,zH yF,C.norm]<;>rfl)
  simp only[e1,Qs,if_true,List.append_nil,List.nodup_nil,Nat.reduceAdd,Nat.reduceMul,Nat.reduceBEq,vv f17r20.eq_1,uu f17b21.eq_1,uu f17b22.eq_1,vv f17r23.eq_1,uu f17b24.eq_1,uu f17b25.eq_1]
  exact hS
theorem c11 (L:List Dmd) (D:List Dcm) (h:AskS L D) (w:List Int) (hw:w.length≤1000000):Spec Tryz.prog 11 [lst 8 (L.map zP),lst 1 (zK w),lst 2 (D.map zR)] (fun v=>v=.bool (someB L D w)):=by
 refine Spec.of_awlS hf11 okf11 (by simp) fun S hS=>?_
 have g:=c13 D h.dc
 have hrg:(cnts D).2.1≤1000000:=by
  by_cases h0:(cnts D).2.2=0
  ·have:=rB h0
   have h1:=this.n
   have h2:=this.le
   omega
  ·unfold cnts
   split
   ·decide
   split
   ·rename_i h8 hf
    have key: ∀(l:List Dcm) (acc:List Int) (n:Nat),(wR l acc n).2.2≠0→(wR l acc n).2.1=0:=by
     intro l
     induction l with
     |nil=>intro acc n hh;exact absurd rfl hh
     |cons d l ih=>
      intro acc n hh
      rw[wR] at hh⊢
      split at hh
      ·rename_i q;rw[if_pos q]
      ·rename_i q;rw[if_neg q];exact ih _ _ hh
    have e:cnts D=wR D [] 1:=by unfold cnts;rw[if_neg h8,if_pos hf]
    rw[e] at h0
    rw[key _ _ _ h0];decide
   ·show(0:Int)≤_;decide
 unfold someB at hS
 have g2:=fun i=>c17 L D h w hw i
 generalize meetsB L D w=M at hS g2
 generalize cnts D=c at g hrg hS
 obtain⟨c0,n,er⟩:=c
 simp only[] at g hrg hS
 simp only[Qs,Nat.reduceAdd,Nat.reduceBEq,uu f11.eq_1,vv f11r20.eq_1,uu f11b21.eq_1,vv f11r22.eq_1,uu f11b23.eq_1]
 refine zD g ?_ (ha:=by simp only[List.map_cons,List.map_nil,zB,V.norm,zL,zH yF,C.norm]<;>rfl)
 simp only[Qs,Nat.reduceBEq,uu f11b16.eq_1,vv f11r17.eq_1,uu f11b18.eq_1,uu f11b19.eq_1]
 rw[uu f11l15.eq_1]
 refine zS (fun k:Nat=>[(0,lst 8 (L.map zP)),(1,lst 1 (zK w)),(2,lst 2 (D.map zR)),(7,.int .i64 n),(9,.int .i64 k)]) (fun _=>[]) (fun k=>k≤n.toNat∧((List.range n.toNat).drop k).any (fun i:Nat=>M i)=(List.range n.toNat).any (fun i:Nat=>M i)) (fun k=>n.toNat-k) 0 rfl rfl ⟨Nat.zero_le _,rfl⟩ ?_
 rintro k ⟨hk,hD⟩
 by_cases hlt:k<n.toNat
 ·have d1:(k:Int)<n:=by omega
  have c4:IntKind.i64.wrap ((k:Int)+1)=(k:Int)+1:=wrap_in (by omega) (by omega)
  rw[List.drop_eq_getElem_cons (by simpa using hlt),List.any_cons,List.getElem_range] at hD
  have g3:=g2 (k:Int)
  cases hM:M (k:Int) with
  |true=>
   rw[hM] at g3
   rw[hM,Bool.true_or] at hD
   rw[←hD] at hS
   simp only[d1,Qs,if_true,Nat.reduceBEq,vv f11r3.eq_1,vv f11r7.eq_1,uu f11b8.eq_1,uu f11b9.eq_1,uu f11b10.eq_1,uu f11b11.eq_1,vv f11r12.eq_1,uu f11b13.eq_1,uu f11b14.eq_1]
   refine zD g3 ?_ (ha:=by simp only[List.map_cons,List.map_nil,zB,V.norm,zL,zH yF,zH yM,wL,C.norm]<;>rfl)
   simp only[Qs,List.nodup_nil,vv f11r4.eq_1,uu f11b5.eq_1,uu f11b6.eq_1]
   exact hS
  |false=>
   rw[hM] at g3
   rw[hM,Bool.false_or] at hD
   simp only[d1,Qs,if_true,Nat.reduceBEq,vv f11r3.eq_1,vv f11r7.eq_1,uu f11b8.eq_1,uu f11b9.eq_1,uu f11b10.eq_1,uu f11b11.eq_1,vv f11r12.eq_1,uu f11b13.eq_1,uu f11b14.eq_1]
   refine zD g3 ?_ (ha:=by simp only[List.map_cons,List.map_nil,zB,V.norm,zL,zH yF,zH yM,wL,C.norm]<;>rfl)
   simp only[c4,Qs,if_true,Nat.reduceBEq,uu f11b6.eq_1]
   exact Next.intro (k+1) rfl rfl ⟨by omega,hD⟩ (by omega)
 ·have d1: ¬(k:Int)<n:=by omega
  rw[List.drop_eq_nil_of_le (by simp;omega),List.any_nil] at hD
  rw[←hD] at hS
  simp only[d1,Qs,if_true,List.nodup_nil,Nat.reduceBEq,vv f11r1.eq_1,uu f11b2.eq_1,uu f11b11.eq_1,vv f11r12.eq_1,uu f11b13.eq_1,uu f11b14.eq_1]
  exact hS
end Go.Abs
set_option maxRecDepth 100000
set_option maxHeartbeats 4000000
namespace Go.Ex
open Go.Lib Go.Wd Go.Wire Go.Abs Go.Proofs
structure DmdI (m:Dmd):Prop where
 l1: -9223372036854775808≤m.lo
 l2:m.lo≤9223372036854775807
 h1: -9223372036854775808≤m.hi
 h2:m.hi≤9223372036854775807
theorem zjd {B:Nat}: ∀l:List Txt,(∀s∈l,s.length≤B)→xF l≤l.length*B
 |[],_=>by simp[xF]
 |s::l,h=>by
  have h1:=h s (by simp)
  have h2:=zjd l fun x hx=>h x (List.mem_cons_of_mem _ hx)
  rw[xF,List.length_cons,Nat.succ_mul]
  omega
theorem zoG {f:Fld} (hf:pV f=true) (hp: ∀w∈f.words,1≤w.length) (i:Nat):(uG f i).length≤2000:=by
 unfold pV at hf
 simp only[Bool.and_eq_true,decide_eq_true_eq,List.all_eq_true] at hf
 obtain⟨⟨h4,_⟩,h6⟩:=hf
 have hm:=zhW (W:=f.words) (i:=i) (B:=100) fun w hw=>⟨hp w hw,fun s hs=>by
  have:=h6 w hw
  unfold pU at this
  simp only[Bool.and_eq_true,decide_eq_true_eq,List.all_eq_true] at this
  exact this.2 s hs⟩
 have hl:=aI f.words i
 unfold uG
 rw[←aJ]
 have h1:=gN [32] (pick f.words i).1
 have h2:=zjd _ hm
 rw[hl] at h1 h2
 simp only[List.length_cons,List.length_nil] at h1
 omega
theorem fD: ∀(l:List Fld) (i:Nat),(wN l i).1.length=l.length∧ ∀s∈(wN l i).1,∃f∈l,∃j,s=uG f j
 |[],i=>by simp[wN]
 |f::l,i=>by
  have ih:=fD l i
  rw[wN]
  refine⟨by simp[ih.1],fun s hs=>?_⟩
  rcases List.mem_cons.1 hs with rfl|hs
  ·exact⟨f,by simp,_,rfl⟩
  ·obtain⟨g,hg,j,e⟩:=ih.2 s hs
   exact⟨g,List.mem_cons_of_mem _ hg,j,e⟩
theorem zoH {d:Dcm} (h:tX d=true) (h0:xH d=0) (q:Nat):PlnS (rdD d q):=by
 have hR:=nB (zjb h) h0
 unfold tX at h
 simp only[Bool.and_eq_true,decide_eq_true_eq,List.all_eq_true] at h
 obtain⟨⟨h1,h2⟩,h3⟩:=h
 obtain⟨t1,t2⟩:=fD d.flds q
 refine⟨by show d.kind.length≤_;omega,by show(d.flds.map Fld.name).length≤_;rw[List.length_map];omega,by show(wN d.flds q).1.length≤_;omega,fun s hs=>?_⟩
 obtain⟨f,hf,j,rfl⟩:=t2 s hs
 obtain⟨i,hi,rfl⟩:=List.getElem_of_mem hf
 have hF:=(bU hi (hR.s.fl _ hf) (hR.fe i hi)).1
 have:=zoG (h3 _ hf) (fun w hw=>(hF.sp w hw).1) j
 omega
theorem zje: ∀(D:List Dcm) (cs:List Nat) (i:Nat),(yV D cs i).1.length≤D.length∧ ∀p∈(yV D cs i).1,∃d∈D,∃q,p=rdD d q
 |[],cs,i=>by cases cs<;>simp[yV]
 |d::D,[],i=>by simp[yV]
 |d::D,c::cs,i=>by
  have ih:=zje D cs i
  rw[yV]
  refine⟨by simp[ih.1],fun s hs=>?_⟩
  rcases List.mem_cons.1 hs with rfl|hs
  ·exact⟨d,by simp,_,rfl⟩
  ·obtain⟨g,hg,j,e⟩:=ih.2 s hs
   exact⟨g,List.mem_cons_of_mem _ hg,j,e⟩
theorem kV {L:List Dmd} {D:List Dcm} (hL: ∀m∈L,DmdI m) (h:pW L D=true):AskS L D∧((cnts D).2.2=0→yJ D≤128):=by
 unfold pW at h
 simp only[Bool.and_eq_true,decide_eq_true_eq,Bool.or_eq_true] at h
 obtain⟨h1,h2,h3,h4,h5⟩:=h
 have hD:=zam h1 h3
 rw[List.take_of_length_le (by omega),List.all_eq_true] at h1
 rw[List.all_eq_true] at h4
 refine⟨⟨h2,fun m hm=>?_,hD,fun h0 i _=>?_⟩,fun h0=>?_⟩
 ·have:=h4 m hm
  unfold qA at this
  simp only[Bool.and_eq_true,decide_eq_true_eq] at this
  obtain⟨⟨⟨⟨a1,a2⟩,a3⟩,a4⟩,a5⟩:=this
  have hI:=hL m hm
  exact⟨by omega,by omega,by omega,by omega,by omega,hI.l1,hI.l2,hI.h1,hI.h2⟩
 ·have hok:=rB h0
  obtain⟨r1,r2⟩:=zje D (vV D) i
  refine⟨by show(yV D (vV D) i).1.length≤_;omega,fun p hp=>?_⟩
  obtain⟨d,hd,q,rfl⟩:=r2 p hp
  exact zoH (h1 d hd) (kP (hok.e d hd)) q
 ·have hok:=rB h0
  rcases h5 with h5|h5
  ·exact absurd h0 h5
  ·have:=hok.n
   omega
end Go.Ex
set_option maxRecDepth 100000
set_option maxHeartbeats 4000000
namespace Go.Ex
open Go.Lib Go.Wd Go.Wire Go.Abs
theorem zjf (s:Nat):(bitsN s).Nodup:=List.nodup_range.filter _
theorem rE {L:List Dmd} {D:List Dcm} (h:lookE L D=0):(cnts D).2.2=0:=by
 unfold lookE at h
 split at h
 ·exact h
 ·cases h
theorem zjg {D:List Dcm} (h:(cnts D).2.2=0) {i:Nat} (hi:i<yJ D):readE D (i:Int)=0∧readP' D (i:Int)=rdsD D i:=by
 have hok:=rB h
 have hn:=hok.n
 have e:readE D (i:Int)=0:=by
  unfold readE
  rw[if_neg (by simp[h]),if_neg (by omega)]
 refine⟨e,?_⟩
 unfold readP'
 rw[if_pos e,Int.toNat_natCast]
theorem zan {L:List Dmd} {D:List Dcm} (h:(cnts D).2.2=0) {i:Nat} (hi:i<yJ D) {c:List Nat} (hc: ∀k∈c,k<L.length):meetsB L D (natI c) (i:Int)=true ↔ ∀k∈c,(wM (tP L (rdsD D i))).testBit k=false:=by
 obtain⟨e1,e2⟩:=zjg h hi
 unfold meetsB
 rw[decide_eq_true e1,Bool.true_and,e2,List.all_eq_true]
 constructor
 ·intro hh k hk
  have:=hh (k:Int) (List.mem_map.2 ⟨k,hk,rfl⟩)
  unfold okK at this
  simp only[Bool.and_eq_true,decide_eq_true_eq,Int.toNat_natCast] at this
  rw[kN,decide_eq_false_iff_not,gQ]
  rintro⟨_,q⟩
  rw[this.2.2] at q;cases q
 ·intro hh z hz
  obtain⟨k,hk,rfl⟩:=List.mem_map.1 hz
  have:=hh k hk
  rw[kN,decide_eq_false_iff_not,gQ] at this
  have hl:=hc k hk
  unfold okK
  simp only[Bool.and_eq_true,decide_eq_true_eq,Int.toNat_natCast]
  refine⟨by omega,by omega,?_⟩
  cases q:vB (L.getD k yL) (rdsD D i) with
  |true=>rfl
  |false=>exact absurd ⟨hl,q⟩ this
theorem fE {L:List Dmd} {D:List Dcm} (h:(cnts D).2.2=0) {c:List Nat} (hc: ∀k∈c,k<L.length):someB L D (natI c)=true ↔ ∃f∈yH L D,∀k∈c,f.testBit k=false:=by
 unfold someB
 rw[List.any_eq_true]
 constructor
 ·rintro⟨i,hi,hm⟩
  have hi:i<yJ D:=List.mem_range.1 hi
  exact⟨_,List.mem_map.2 ⟨i,List.mem_range.2 hi,rfl⟩,(zan h hi hc).1 hm⟩
 ·rintro⟨f,hf,hm⟩
  obtain⟨i,hi,rfl⟩:=List.mem_map.1 hf
  exact⟨i,hi,(zan h (List.mem_range.1 hi) hc).2 hm⟩
theorem pZ {L:List Dmd} {D:List Dcm} (hA:AskS L D) (h:(cnts D).2.2=0):yH L D≠[]:=by
 have:=zal hA.dc h
 intro e
 have:=congrArg List.length e
 simp[yH] at this
 omega
theorem mT {L:List Dmd} {D:List Dcm} (hA:AskS L D) (h0:lookE L D=0) (d:List Int):(∃x∈flawsE L D,x.sure=true∧x.dem=d) ↔ ∃s,s<2 ^ L.length∧wV (yH L D) s=true∧d=natI (bitsN s):=by
 have hcn:=rE h0
 have hm: ∀s,s∈conflP (viewD L D) ↔ _:=kM hA.l8 (pZ hA hcn) (rR L D)
 unfold flawsE
 rw[if_pos h0]
 unfold kO rS
 constructor
 ·rintro⟨x,hx,hs,rfl⟩
  rcases List.mem_append.1 hx with hx|hx
  ·obtain⟨c,hc,rfl⟩:=List.mem_map.1 hx
   obtain⟨s,hs2,rfl⟩:=List.mem_map.1 ((tG ltC _).mem_iff.1 hc)
   exact⟨s,((hm s).1 hs2).1,((hm s).1 hs2).2,rfl⟩
  ·obtain⟨k,hk,rfl⟩:=List.mem_map.1 hx
   cases hs
 ·rintro⟨s,h1,h2,rfl⟩
  have hs:=(hm s).2 ⟨h1,h2⟩
  exact⟨_,List.mem_append.2 (.inl (List.mem_map.2 ⟨bitsN s,(tG ltC _).mem_iff.2 (List.mem_map.2 ⟨s,hs,rfl⟩),rfl⟩)),rfl,rfl⟩
theorem nM {m s:Nat} (hm:m≤8) (hs:s<2 ^ m):s<256∧ ∀k∈bitsN s,k<m:=by
 have h256:2 ^ m≤256:=(Nat.pow_le_pow_right (n:=2) (by decide) hm:2 ^ m≤2 ^ 8)
 exact⟨by omega,fun k hk=>xK.1 hs k ((vU (by omega)).1 hk)⟩
theorem l3A {L:List Dmd} {D:List Dcm} (hA:AskS L D) (h0:lookE L D=0) {x:Flw} (hx:x∈flawsE L D) (hs:x.sure=true):x.dem≠[]∧someB L D x.dem=false:=by
 obtain⟨s,h1,h2,e⟩:=(mT hA h0 x.dem).1 ⟨x,hx,hs,rfl⟩
 have hcn:=rE h0
 obtain⟨h3,h4⟩:=nM hA.l8 h1
 have hh:=uH.1 ((qL (by omega)).1 h2).1
 rw[e]
 constructor
 ·intro q
  obtain⟨f,hf⟩:=List.exists_mem_of_ne_nil _ (pZ hA hcn)
  obtain⟨k,_,hk⟩:=hh f hf
  have:=(vU (by omega)).2 hk
  rw[List.map_eq_nil_iff.1 q] at this;cases this
 ·rw[Bool.eq_false_iff]
  intro q
  obtain⟨f,hf,hk⟩:=(fE hcn h4).1 q
  obtain⟨k,k1,k2⟩:=hh f hf
  rw[hk k ((vU (by omega)).2 k2)] at k1;cases k1
theorem l3B {L:List Dmd} {D:List Dcm} (hA:AskS L D) (h0:lookE L D=0) {x:Flw} (hx:x∈flawsE L D) (hs:x.sure=true) {k:Nat} (hk:k<x.dem.length):
  someB L D (x.dem.take k++x.dem.drop (k+1))=true∧ ∃j:Nat,x.dem.getD k 0=j∧j≤7:=by
 obtain⟨s,h1,h2,e⟩:=(mT hA h0 x.dem).1 ⟨x,hx,hs,rfl⟩
 have hcn:=rE h0
 have h8:=hA.l8
 obtain⟨h3,h4⟩:=nM hA.l8 h1
 have hn:=zjf s
 have hb: ∀j,j∈bitsN s ↔ s.testBit j=true:=fun j=>vU (by omega)
 have hh:=((qL (by omega)).1 h2).2
 rw[e] at hk⊢
 rw[vL] at hk
 generalize bitsN s=c at h4 hn hb hk⊢
 have e1:(natI c).take k++(natI c).drop (k+1)=natI (c.take k++c.drop (k+1)):=by simp[natI,List.map_take,List.map_drop]
 have hm: ∀j∈c.take k++c.drop (k+1),j∈c∧j≠c[k]:=by
  have e2:c.take k++c[k]::c.drop (k+1)=c:=by rw[←List.drop_eq_getElem_cons hk,List.take_append_drop]
  rw[←e2,List.nodup_append] at hn
  obtain⟨_,n2,n3⟩:=hn
  intro j hj
  rcases List.mem_append.1 hj with hj|hj
  ·exact⟨List.mem_of_mem_take hj,n3 j hj _ List.mem_cons_self⟩
  ·refine⟨List.mem_of_mem_drop hj,?_⟩
   rintro rfl
   exact(List.nodup_cons.1 n2).1 hj
 refine⟨?_,c[k],by simp[natI,hk],by have:=h4 c[k] (List.getElem_mem hk);omega⟩
 rw[e1,fE hcn fun j hj=>h4 j (hm j hj).1]
 have hf:=hh c[k] ((hb _).1 (List.getElem_mem hk))
 rw[Bool.eq_false_iff,ne_eq,uH] at hf
 have hf: ∃f,f∈yH L D∧ ¬ ∃k_1,f.testBit k_1=true∧(andN s (1<<<c[k])).testBit k_1=true:=by
  by_cases q: ∃f,f∈yH L D∧ ¬ ∃k_1,f.testBit k_1=true∧(andN s (1<<<c[k])).testBit k_1=true
  ·exact q
  ·exact absurd (fun f hf=>by
    by_cases q2: ∃k_1,f.testBit k_1=true∧(andN s (1<<<c[k])).testBit k_1=true
    ·exact q2
    ·exact absurd ⟨f,hf,q2⟩ q) hf
 obtain⟨f,hf,hq⟩:=hf
 refine⟨f,hf,fun j hj=>?_⟩
 obtain⟨j1,j2⟩:=hm j hj
 cases q:f.testBit j with
 |false=>rfl
 |true=>
  refine absurd ⟨j,q,?_⟩ hq
  rw[sY,(hb j).1 j1,tF,decide_eq_false (fun e=>j2 e.symm)];rfl
def inS (st:Nat) (w:List Int):Bool:=w.all fun k=>st.testBit k.toNat
def contB (st:Nat) (l:List Flw):Bool:=l.any fun x=>x.sure&&inS st x.dem
def uM (m st:Nat):List Nat:=(List.range m).filter fun k=>st.testBit k
theorem l3D {L:List Dmd} {D:List Dcm} (hA:AskS L D) (h0:lookE L D=0) (st:Nat):contB st (flawsE L D)= !someB L D (natI (uM L.length st)):=by
 have hcn:=rE h0
 have h8:=hA.l8
 have hw: ∀k,k∈uM L.length st ↔ k<L.length∧st.testBit k=true:=fun k=>by unfold uM;rw[List.mem_filter,List.mem_range]
 have hsm:=fE hcn (c:=uM L.length st) fun k hk=>((hw k).1 hk).1
 have hT: ∀k,(wM (uM L.length st)).testBit k=true ↔ k<L.length∧st.testBit k=true:=fun k=>by rw[kN,decide_eq_true_eq,hw]
 have hlt:wM (uM L.length st)<2 ^ L.length:=gR fun k hk=>((hw k).1 hk).1
 have hcon:contB st (flawsE L D)=true ↔ ∃s,s<2 ^ L.length∧wV (yH L D) s=true∧ ∀k,s.testBit k=true→st.testBit k=true:=by
  unfold contB inS
  rw[List.any_eq_true]
  constructor
  ·rintro⟨x,hx,hh⟩
   rw[Bool.and_eq_true,List.all_eq_true] at hh
   obtain⟨s,h1,h2,e⟩:=(mT hA h0 x.dem).1 ⟨x,hx,hh.1,rfl⟩
   obtain⟨h3,h4⟩:=nM hA.l8 h1
   refine⟨s,h1,h2,fun k hk=>?_⟩
   have:=hh.2 (k:Int) (by rw[e];exact List.mem_map.2 ⟨k,(vU (by omega)).2 hk,rfl⟩)
   rwa [Int.toNat_natCast] at this
  ·rintro⟨s,h1,h2,h5⟩
   obtain⟨h3,h4⟩:=nM hA.l8 h1
   obtain⟨x,hx,hs,e⟩:=(mT hA h0 (natI (bitsN s))).2 ⟨s,h1,h2,rfl⟩
   refine⟨x,hx,?_⟩
   rw[Bool.and_eq_true,List.all_eq_true]
   refine⟨hs,fun z hz=>?_⟩
   rw[e] at hz
   obtain⟨k,hk,rfl⟩:=List.mem_map.1 hz
   rw[Int.toNat_natCast]
   exact h5 k ((vU (by omega)).1 hk)
 rw[Bool.eq_iff_iff,hcon,Bool.not_eq_true',Bool.eq_false_iff,ne_eq,hsm]
 constructor
 ·rintro⟨s,h1,h2,h5⟩ ⟨f,hf,hk⟩
  obtain⟨h3,h4⟩:=nM hA.l8 h1
  obtain⟨k,k1,k2⟩:=uH.1 ((qL (by omega)).1 h2).1 f hf
  rw[hk k ((hw k).2 ⟨h4 k ((vU (by omega)).2 k2),h5 k k2⟩)] at k1;cases k1
 ·intro hh
  have hit:hitP (yH L D) (wM (uM L.length st))=true:=uH.2 fun f hf=>by
   by_cases q: ∃k,f.testBit k=true∧(wM (uM L.length st)).testBit k=true
   ·exact q
   ·refine absurd ⟨f,hf,fun k hk=>?_⟩ hh
    cases q2:f.testBit k with
    |false=>rfl
    |true=>exact absurd ⟨k,q2,(hT k).2 ((hw k).1 hk)⟩ q
  obtain⟨c,h1,h2,h3⟩:=zh1 h8 _ _ hlt (Nat.le_refl _) hit
  exact⟨c,h1,h2,fun k hk=>((hT k).1 (h3 k hk)).2⟩
end Go.Ex
set_option maxRecDepth 100000
set_option maxHeartbeats 8000000
namespace Go.Ex
open Go.Lib Go.Wd Go.Wire Go.Abs
def kW {α:Type} [DecidableEq α] (d:α) (A B:List α):Bool:=decide (A.length=B.length)&&(List.range A.length).all fun i=>decide (A.getD i d=B.getD i d)
theorem zao {α:Type} [DecidableEq α] (d:α) (A B:List α):kW d A B=decide (A=B):=by
 rw[Bool.eq_iff_iff]
 unfold kW
 rw[Bool.and_eq_true,decide_eq_true_eq,List.all_eq_true,decide_eq_true_eq]
 constructor
 ·rintro⟨h1,h2⟩
  refine List.ext_getElem h1 fun i ha hb=>?_
  have:=h2 i (by simpa using ha)
  simpa [List.getD,ha,hb] using this
 ·rintro rfl
  exact⟨rfl,fun _ _=>by simp⟩
theorem zap {n k:Nat} (h:k<n) (p:Nat→Bool):((List.range n).drop k).all p=(p k&&((List.range n).drop (k+1)).all p):=by
 rw[List.drop_eq_getElem_cons (by simpa using h),List.all_cons,List.getElem_range]
deriving instance DecidableEq for Flw
def qS:Plc:=⟨0,0⟩
def wJ:Flw:=⟨[],[],false⟩
end Go.Ex
namespace Go.Abs
open Go.Proofs Go.RowKit Go.Lib Go.Wd Go.Wire Go.Ex
theorem tY {w:List Int} {k:Nat} (h:k<w.length):(zK w).getD k []=[.int .i64 (w.getD k 0)]:=by simp[zK,h]
theorem c52 (A B:List Int) (hA:A.length≤1000000):Spec Tryz.prog 52 [lst 1 (zK A),lst 1 (zK B)] (fun v=>v=.bool (decide (A=B))):=by
 refine Spec.of_awlS hf52 okf52 (by simp) fun S hS=>?_
 rw[←zao 0] at hS
 unfold kW at hS
 by_cases hl:A.length=B.length
 ·rw[decide_eq_true hl,Bool.true_and] at hS
  have e1:(A.length:Int)=B.length:=by omega
  simp only[yB,e1,Qs,if_true,forall_const,List.nodup_nil,Nat.reduceAdd,Nat.reduceBEq,uu f52.eq_1,uu f52b16.eq_1,vv f52r17.eq_1,uu f52b18.eq_1,uu f52b19.eq_1,vv f52r20.eq_1,uu f52b21.eq_1,uu f52b22.eq_1,vv f52r23.eq_1,uu f52b24.eq_1,uu f52b25.eq_1,vv f52r26.eq_1,uu f52b27.eq_1]
  rw[uu f52l15.eq_1]
  refine zS (fun k:Nat=>[(0,lst 1 (zK A)),(1,lst 1 (zK B)),(5,.int .i64 k)]) (fun _=>[]) (fun k=>k≤A.length∧((List.range A.length).drop k).all (fun i=>decide (A.getD i 0=B.getD i 0))=(List.range A.length).all (fun i=>decide (A.getD i 0=B.getD i 0))) (fun k=>A.length-k) 0 rfl rfl ⟨Nat.zero_le _,rfl⟩ ?_
  rintro k ⟨hk,hD⟩
  by_cases hlt:k<A.length
  ·have d1:(k:Int)<A.length:=by omega
   have c4:IntKind.i64.wrap ((k:Int)+1)=(k:Int)+1:=wrap_in (by omega) (by omega)
   have h1:=tY hlt
   have h2:=tY (w:=B) (k:=k) (by omega)
   have d2:(k:Int)<B.length:=by omega
   rw[zap hlt] at hD
   generalize A.getD k 0=a at h1 hD
   generalize B.getD k 0=b at h2 hD
   by_cases q:a=b
   ·rw[decide_eq_true q,Bool.true_and] at hD
    simp only[d1,d2,h1,h2,c4,q,yB,Qs,if_true,forall_const,List.nodup_nil,Nat.reduceBEq,vv f52r3.eq_1,vv f52r4.eq_1,uu f52b5.eq_1,uu f52b6.eq_1,vv f52r7.eq_1,uu f52b8.eq_1,uu f52b9.eq_1,uu f52b10.eq_1,uu f52b11.eq_1,vv f52r12.eq_1,uu f52b13.eq_1,uu f52b14.eq_1]
    exact Next.intro (k+1) rfl rfl ⟨by omega,hD⟩ (by omega)
   ·rw[decide_eq_false q,Bool.false_and] at hD
    rw[←hD] at hS
    simp only[d1,d2,h1,h2,q,yB,Qs,if_true,forall_const,List.nodup_nil,Nat.reduceBEq,vv f52r3.eq_1,vv f52r4.eq_1,uu f52b5.eq_1,uu f52b6.eq_1,vv f52r7.eq_1,uu f52b8.eq_1,uu f52b9.eq_1,uu f52b10.eq_1,uu f52b11.eq_1,vv f52r12.eq_1,uu f52b13.eq_1,uu f52b14.eq_1]
    exact hS
  ·have d1: ¬(k:Int)<A.length:=by omega
   rw[List.drop_eq_nil_of_le (by simp;omega),List.all_nil] at hD
   rw[←hD] at hS
   simp only[d1,yB,Qs,if_true,List.nodup_nil,Nat.reduceBEq,vv f52r1.eq_1,uu f52b2.eq_1,uu f52b11.eq_1,vv f52r12.eq_1,uu f52b13.eq_1,uu f52b14.eq_1]
   exact hS
 ·rw[decide_eq_false hl,Bool.false_and] at hS
  have e1: ¬(A.length:Int)=B.length:=by omega
  simp only[yB,e1,Qs,if_true,forall_const,List.nodup_nil,Nat.reduceAdd,Nat.reduceBEq,uu f52.eq_1,uu f52b16.eq_1,vv f52r17.eq_1,uu f52b18.eq_1,uu f52b19.eq_1,vv f52r20.eq_1,uu f52b21.eq_1,uu f52b22.eq_1,vv f52r23.eq_1,uu f52b24.eq_1,uu f52b25.eq_1,vv f52r26.eq_1,uu f52b27.eq_1]
  exact hS
theorem zjh {w:List Plc} {k:Nat} (h:k<w.length):(pls w).getD k []=[.int .i64 (w.getD k qS).doc,.int .i64 (w.getD k qS).fld]:=by simp[pls,rA,h]
theorem c53 (A B:List Plc) (hA:A.length≤1000000):Spec Tryz.prog 53 [lst 2 (pls A),lst 2 (pls B)] (fun v=>v=.bool (decide (A=B))):=by
 refine Spec.of_awlS hf53 okf53 (by simp) fun S hS=>?_
 rw[←zao qS] at hS
 unfold kW at hS
 by_cases hl:A.length=B.length
 ·rw[decide_eq_true hl,Bool.true_and] at hS
  have e1:(A.length:Int)=B.length:=by omega
  simp only[wO,e1,Qs,if_true,forall_const,List.nodup_nil,Nat.reduceAdd,Nat.reduceBEq,uu f53.eq_1,uu f53b16.eq_1,vv f53r17.eq_1,uu f53b18.eq_1,uu f53b19.eq_1,vv f53r20.eq_1,uu f53b21.eq_1,uu f53b22.eq_1,vv f53r23.eq_1,uu f53b24.eq_1,uu f53b25.eq_1,vv f53r26.eq_1,uu f53b27.eq_1]
  rw[uu f53l15.eq_1]
  refine zS (fun k:Nat=>[(0,lst 2 (pls A)),(1,lst 2 (pls B)),(5,.int .i64 k)]) (fun _=>[]) (fun k=>k≤A.length∧((List.range A.length).drop k).all (fun i=>decide (A.getD i qS=B.getD i qS))=(List.range A.length).all (fun i=>decide (A.getD i qS=B.getD i qS))) (fun k=>A.length-k) 0 rfl rfl ⟨Nat.zero_le _,rfl⟩ ?_
  rintro k ⟨hk,hD⟩
  by_cases hlt:k<A.length
  ·have d1:(k:Int)<A.length:=by omega
   have c4:IntKind.i64.wrap ((k:Int)+1)=(k:Int)+1:=wrap_in (by omega) (by omega)
   have h1:=zjh hlt
   have h2:=zjh (w:=B) (k:=k) (by omega)
   have d2:(k:Int)<B.length:=by omega
   rw[zap hlt] at hD
   generalize A.getD k qS=a at h1 hD
   generalize B.getD k qS=b at h2 hD
   obtain⟨a1,a2⟩:=a
   obtain⟨b1,b2⟩:=b
   simp only[] at h1 h2
   have hI:(Plc.mk a1 a2=⟨b1,b2⟩) ↔ (a1=b1∧a2=b2):=by rw[Plc.mk.injEq]
   by_cases q1:a1=b1
   ·by_cases q2:a2=b2
    ·rw[decide_eq_true (hI.2 ⟨q1,q2⟩),Bool.true_and] at hD
     simp only[d1,d2,h1,h2,c4,q1,q2,wO,Qs,cP,cR,cU,cV,cW,cX,if_true,BEq.rfl,Nat.reduceBEq,Option.bind_some,vv f53r3.eq_1,uu f53b6.eq_1,vv f53r7.eq_1,uu f53b8.eq_1,uu f53b9.eq_1,uu f53b10.eq_1,uu f53b11.eq_1,vv f53r12.eq_1,uu f53b13.eq_1,uu f53b14.eq_1]
     exact Next.intro (k+1) rfl rfl ⟨by omega,hD⟩ (by omega)
    ·rw[decide_eq_false (fun h=>q2 (hI.1 h).2),Bool.false_and] at hD
     rw[←hD] at hS
     have e:(a1==b1&&a2==b2)=false:=by simp[q2]
     simp only[d1,d2,h1,h2,e,wO,Qs,cP,cR,cU,cV,cW,cX,if_true,List.nodup_nil,Nat.reduceBEq,Option.bind_some,vv f53r3.eq_1,vv f53r4.eq_1,uu f53b5.eq_1,uu f53b6.eq_1,vv f53r7.eq_1,uu f53b8.eq_1,uu f53b9.eq_1,uu f53b10.eq_1,uu f53b11.eq_1,vv f53r12.eq_1,uu f53b13.eq_1,uu f53b14.eq_1]
     exact hS
   ·rw[decide_eq_false (fun h=>q1 (hI.1 h).1),Bool.false_and] at hD
    rw[←hD] at hS
    have e:(a1==b1&&a2==b2)=false:=by simp[q1]
    simp only[d1,d2,h1,h2,e,wO,Qs,cP,cR,cU,cV,cW,cX,if_true,List.nodup_nil,Nat.reduceBEq,Option.bind_some,vv f53r3.eq_1,vv f53r4.eq_1,uu f53b5.eq_1,uu f53b6.eq_1,vv f53r7.eq_1,uu f53b8.eq_1,uu f53b9.eq_1,uu f53b10.eq_1,uu f53b11.eq_1,vv f53r12.eq_1,uu f53b13.eq_1,uu f53b14.eq_1]
    exact hS
  ·have d1: ¬(k:Int)<A.length:=by omega
   rw[List.drop_eq_nil_of_le (by simp;omega),List.all_nil] at hD
   rw[←hD] at hS
   simp only[d1,wO,Qs,if_true,List.nodup_nil,Nat.reduceBEq,vv f53r1.eq_1,uu f53b2.eq_1,uu f53b11.eq_1,vv f53r12.eq_1,uu f53b13.eq_1,uu f53b14.eq_1]
   exact hS
 ·rw[decide_eq_false hl,Bool.false_and] at hS
  have e1: ¬(A.length:Int)=B.length:=by omega
  simp only[wO,e1,Qs,if_true,forall_const,List.nodup_nil,Nat.reduceAdd,Nat.reduceBEq,uu f53.eq_1,uu f53b16.eq_1,vv f53r17.eq_1,uu f53b18.eq_1,uu f53b19.eq_1,vv f53r20.eq_1,uu f53b21.eq_1,uu f53b22.eq_1,vv f53r23.eq_1,uu f53b24.eq_1,uu f53b25.eq_1,vv f53r26.eq_1,uu f53b27.eq_1]
  exact hS
theorem fF {w:List Flw} {k:Nat} (h:k<w.length):(yN w).getD k []=[zC 1 (zK (w.getD k wJ).dem),zC 2 (pls (w.getD k wJ).pls),.bool (w.getD k wJ).sure]:=by simp[yN,pT,h]
theorem c25 (A B:List Flw) (hA:A.length≤1000000) (hd: ∀x∈A,x.dem.length≤1000000∧x.pls.length≤1000000):Spec Tryz.prog 25 [lst 3 (yN A),lst 3 (yN B)] (fun v=>v=.bool (decide (A=B))):=by
 refine Spec.of_awlS hf25 okf25 (by simp) fun S hS=>?_
 rw[←zao wJ] at hS
 unfold kW at hS
 by_cases hl:A.length=B.length
 ·rw[decide_eq_true hl,Bool.true_and] at hS
  have e1:(A.length:Int)=B.length:=by omega
  simp only[vM,e1,Qs,if_true,forall_const,List.nodup_nil,Nat.reduceAdd,Nat.reduceBEq,uu f25.eq_1,uu f25b16.eq_1,vv f25r17.eq_1,uu f25b18.eq_1,uu f25b19.eq_1,vv f25r20.eq_1,uu f25b21.eq_1,uu f25b22.eq_1,vv f25r23.eq_1,uu f25b24.eq_1,uu f25b25.eq_1,vv f25r26.eq_1,uu f25b27.eq_1]
  rw[uu f25l15.eq_1]
  refine zS (fun k:Nat=>[(0,lst 3 (yN A)),(1,lst 3 (yN B)),(5,.int .i64 k)]) (fun _=>[]) (fun k=>k≤A.length∧((List.range A.length).drop k).all (fun i=>decide (A.getD i wJ=B.getD i wJ))=(List.range A.length).all (fun i=>decide (A.getD i wJ=B.getD i wJ))) (fun k=>A.length-k) 0 rfl rfl ⟨Nat.zero_le _,rfl⟩ ?_
  rintro k ⟨hk,hD⟩
  by_cases hlt:k<A.length
  ·have d1:(k:Int)<A.length:=by omega
   have c4:IntKind.i64.wrap ((k:Int)+1)=(k:Int)+1:=wrap_in (by omega) (by omega)
   have h1:=fF hlt
   have h2:=fF (w:=B) (k:=k) (by omega)
   have d2:(k:Int)<B.length:=by omega
   have hx:(A.getD k wJ).dem.length≤1000000∧(A.getD k wJ).pls.length≤1000000:=by
    have:A.getD k wJ=A[k]:=by simp[hlt]
    rw[this];exact hd _ (List.getElem_mem hlt)
   rw[zap hlt] at hD
   generalize A.getD k wJ=a at h1 hD hx
   generalize B.getD k wJ=b at h2 hD
   obtain⟨a1,a2,a3⟩:=a
   obtain⟨b1,b2,b3⟩:=b
   simp only[] at h1 h2 hx
   have g1:=c52 a1 b1 hx.1
   have g2:=c53 a2 b2 hx.2
   have hI:(Flw.mk a1 a2 a3=⟨b1,b2,b3⟩) ↔ (a1=b1∧a2=b2∧a3=b3):=by rw[Flw.mk.injEq]
   by_cases q3:a3=b3
   ·by_cases q1:a1=b1
    ·rw[decide_eq_true q1] at g1
     by_cases q2:a2=b2
     ·rw[decide_eq_true q2] at g2
      rw[decide_eq_true (hI.2 ⟨q1,q2,q3⟩),Bool.true_and] at hD
      simp only[d1,d2,h1,h2,q3,vM,bne_self_eq_false,Qs,iY,if_true,BEq.rfl,Nat.reduceAdd,Nat.reduceLeDiff,Nat.reduceBEq,vv f25r3.eq_1,vv f25r7.eq_1,uu f25b8.eq_1,uu f25b9.eq_1,uu f25b10.eq_1,uu f25b11.eq_1,vv f25r12.eq_1,uu f25b13.eq_1,uu f25b14.eq_1]
      refine rO g1 ?_ (ha:=by simp only[List.map_cons,List.map_nil,zB,V.norm,zL,wL,C.norm]<;>rfl)
      simp only[d1,d2,h1,h2,vM,Qs,mF,if_false,Nat.reduceAdd,Nat.reduceLeDiff,Nat.reduceBEq]
      refine rO g2 ?_ (ha:=by simp only[List.map_cons,List.map_nil,zB,V.norm,zL,rU,C.norm]<;>rfl)
      simp only[c4,Qs,mF,if_true,if_false,Nat.reduceBEq,uu f25b6.eq_1]
      exact Next.intro (k+1) rfl rfl ⟨by omega,hD⟩ (by omega)
     ·rw[decide_eq_false q2] at g2
      rw[decide_eq_false (fun h=>q2 (hI.1 h).2.1),Bool.false_and] at hD
      rw[←hD] at hS
      simp only[d1,d2,h1,h2,q3,vM,bne_self_eq_false,Qs,iY,if_true,BEq.rfl,Nat.reduceAdd,Nat.reduceLeDiff,Nat.reduceBEq,vv f25r3.eq_1,vv f25r7.eq_1,uu f25b8.eq_1,uu f25b9.eq_1,uu f25b10.eq_1,uu f25b11.eq_1,vv f25r12.eq_1,uu f25b13.eq_1,uu f25b14.eq_1]
      refine rO g1 ?_ (ha:=by simp only[List.map_cons,List.map_nil,zB,V.norm,zL,wL,C.norm]<;>rfl)
      simp only[d1,d2,h1,h2,vM,Qs,mF,if_false,Nat.reduceAdd,Nat.reduceLeDiff,Nat.reduceBEq]
      refine rO g2 ?_ (ha:=by simp only[List.map_cons,List.map_nil,zB,V.norm,zL,rU,C.norm]<;>rfl)
      simp only[Qs,mF,if_false,List.nodup_nil,Nat.reduceBEq,vv f25r4.eq_1,uu f25b5.eq_1,uu f25b6.eq_1]
      exact hS
    ·rw[decide_eq_false q1] at g1
     rw[decide_eq_false (fun h=>q1 (hI.1 h).1),Bool.false_and] at hD
     rw[←hD] at hS
     simp only[d1,d2,h1,h2,q3,vM,bne_self_eq_false,Qs,iY,if_true,BEq.rfl,Nat.reduceAdd,Nat.reduceLeDiff,Nat.reduceBEq,vv f25r3.eq_1,vv f25r7.eq_1,uu f25b8.eq_1,uu f25b9.eq_1,uu f25b10.eq_1,uu f25b11.eq_1,vv f25r12.eq_1,uu f25b13.eq_1,uu f25b14.eq_1]
     refine rO g1 ?_ (ha:=by simp only[List.map_cons,List.map_nil,zB,V.norm,zL,wL,C.norm]<;>rfl)
     simp only[Qs,mF,if_false,List.nodup_nil,Nat.reduceBEq,vv f25r4.eq_1,uu f25b5.eq_1,uu f25b6.eq_1]
     exact hS
   ·rw[decide_eq_false (fun h=>q3 (hI.1 h).2.2),Bool.false_and] at hD
    rw[←hD] at hS
    simp only[d1,d2,h1,h2,q3,vM,Qs,iY,if_true,forall_const,List.nodup_nil,Nat.reduceAdd,Nat.reduceLeDiff,Nat.reduceBEq,vv f25r3.eq_1,vv f25r4.eq_1,uu f25b5.eq_1,uu f25b6.eq_1,vv f25r7.eq_1,uu f25b8.eq_1,uu f25b9.eq_1,uu f25b10.eq_1,uu f25b11.eq_1,vv f25r12.eq_1,uu f25b13.eq_1,uu f25b14.eq_1]
    exact hS
  ·have d1: ¬(k:Int)<A.length:=by omega
   rw[List.drop_eq_nil_of_le (by simp;omega),List.all_nil] at hD
   rw[←hD] at hS
   simp only[d1,vM,Qs,if_true,List.nodup_nil,Nat.reduceBEq,vv f25r1.eq_1,uu f25b2.eq_1,uu f25b11.eq_1,vv f25r12.eq_1,uu f25b13.eq_1,uu f25b14.eq_1]
   exact hS
 ·rw[decide_eq_false hl,Bool.false_and] at hS
  have e1: ¬(A.length:Int)=B.length:=by omega
  simp only[vM,e1,Qs,if_true,forall_const,List.nodup_nil,Nat.reduceAdd,Nat.reduceBEq,uu f25.eq_1,uu f25b16.eq_1,vv f25r17.eq_1,uu f25b18.eq_1,uu f25b19.eq_1,vv f25r20.eq_1,uu f25b21.eq_1,uu f25b22.eq_1,vv f25r23.eq_1,uu f25b24.eq_1,uu f25b25.eq_1,vv f25r26.eq_1,uu f25b27.eq_1]
  exact hS
end Go.Abs
set_option maxRecDepth 100000
set_option maxHeartbeats 8000000
namespace Go.Ex
open Go.Lib Go.Wd Go.Wire Go.Abs
def qT:Txt:=[105,110,118,111,105,99,101]
def mU:Txt:=[115,117,109]
def mV:Txt:=[112,111,114,116]
def oA:Txt:=[71,101,110,111,97]
def xmL:List Dmd:=[⟨2,qT,mU,[],[],[],50,150⟩,⟨2,qT,mU,[],[],[],600,800⟩,⟨1,qT,mV,[],[],oA,0,0⟩,⟨0,[112,97,99,107,105,110,103],[],[],[],[],0,0⟩]
def xmD:List Dcm:=[⟨qT,[⟨mU,[[[49,48,48],[55,48,48]]]⟩,⟨mV,[[oA]]⟩]⟩]
end Go.Ex
namespace Go.Abs
open Go.Proofs Go.RowKit Go.Lib Go.Wd Go.Wire Go.Ex
theorem tZ (K:KK) (ts:TS) (os:OS):qF [] K ts os=K ts os:=id rfl
theorem sA (τ:Nat) (l:List Nat) (K:KK) (ts:TS) (os:OS):qF (τ::l) K ts os=qF l K (uY τ ts os (lookO τ os)) (tM τ os (lookO τ os)):=id rfl
theorem sB (P:Program) (K:KK) (ts:TS) (os:OS):oR P [] K ts os=K ts os:=id rfl
theorem sC (P:Program) (l:List AI) (τs:List Nat) (r:List (List AI×List Nat)) (K:KK) (ts:TS) (os:OS):oR P ((l,τs)::r) K ts os=wpLs P l (qF τs (oR P r K)) ts os:=id rfl
theorem sD (P:Program) (ps:List (List AI×List Nat)) (Q:AE→KK) (ts:TS) (os:OS):awl P (.regs ps) Q ts os=oR P ps (Q .normal) ts os:=id rfl
theorem sE (P:Program) (l1 l2:List AI) (τs:List Nat) (Q:AE→KK) (ts:TS) (os:OS):awl P (.regf l1 τs l2) Q ts os=wpLs P l1 (qF τs (wpLs P l2 (Q .normal))) ts os:=id rfl
theorem c29:Spec Tryz.prog 29 [] (fun v=>v=.tup [lst 8 (xmL.map zP),lst 2 (xmD.map zR)]):=by
 refine Spec.of_awlP hf29 okf29 (by simp) fun S hS=>?_
 simp only[sD,sE,sB,sC,tZ,sA,Qs,zlw,cO,cZ,lY,zf6,hP,zgE,if_true,if_false,reduceCtorEq,forall_eq_or_imp,forall_eq,bne_iff_ne,ne_eq,List.append_nil,List.mem_cons,List.nodup_nil,Nat.reduceAdd,Nat.reduceEqDiff,Nat.reduceLeDiff,Nat.reduceLT,Nat.reduceBEq,Nat.zero_ne_one,List.not_mem_nil,kB,uu f29.eq_1,vv f29r1.eq_1,uu f29b2.eq_1,vv f29r3.eq_1,vv f29r4.eq_1,uu f29b5.eq_1,vv f29r6.eq_1,vv f29r7.eq_1,vv f29r8.eq_1,uu f29b9.eq_1,vv f29r10.eq_1,vv f29r11.eq_1,vv f29r12.eq_1,uu f29b13.eq_1,vv f29r14.eq_1,uu f29b15.eq_1]
 refine hS _ ?_
 rfl
end Go.Abs
set_option maxRecDepth 100000
set_option maxHeartbeats 8000000
namespace Go.Ex
open Go.Lib Go.Wd Go.Wire Go.Abs Go.Proofs
def xm1:List Dmd:=[⟨1,qT,mV,[],[],oA,0,0⟩]
def xm2:List Dmd:=[⟨2,qT,mU,[],[],[],50,150⟩,⟨1,qT,mV,[],[],oA,0,0⟩]
theorem fG:AskS xm1 xmD:=(kV (by intro m hm;simp[xm1] at hm;subst hm;constructor<;>decide) (by kernel_rfl)).1
theorem zji:AskS xm2 xmD:=(kV (by intro m hm;simp[xm2] at hm;rcases hm with rfl|rfl<;>constructor<;>decide) (by kernel_rfl)).1
theorem zjj:AskS xmL xmD:=(kV (by intro m hm;simp[xmL] at hm;rcases hm with rfl|rfl|rfl|rfl<;>constructor<;>decide) (by kernel_rfl)).1
def xA2:List Flw:=[⟨[0],[⟨0,0⟩],false⟩]
def xA3:List Flw:=[⟨[3],[],true⟩,⟨[0,1],[⟨0,0⟩],true⟩,⟨[0],[⟨0,0⟩],false⟩,⟨[1],[⟨0,0⟩],false⟩]
theorem fl1:flawsE xm1 xmD=[]:=by kernel_rfl
theorem fl2:flawsE xm2 xmD=xA2:=by kernel_rfl
theorem fl3:flawsE xmL xmD=xA3:=by kernel_rfl
theorem lk1:lookE xm1 xmD=0:=by kernel_rfl
theorem lk2:lookE xm2 xmD=0:=by kernel_rfl
theorem lk3:lookE xmL xmD=0:=by kernel_rfl
theorem st1:stateE xm1 xmD=1:=by kernel_rfl
theorem st2:stateE xm2 xmD=2:=by kernel_rfl
theorem st3:stateE xmL xmD=0:=by kernel_rfl
theorem ct1:(cnts xmD).2.1=2:=by kernel_rfl
theorem ct2:(cnts xmD).2.2=0:=by kernel_rfl
def xP:List Pln:=[⟨qT,[mU,mV],[[55,48,48],oA]⟩]
theorem rp1:readP' xmD 1=xP:=by kernel_rfl
theorem re1:readE xmD 1=0:=by kernel_rfl
end Go.Ex
namespace Go.Abs
open Go.Proofs Go.RowKit Go.Lib Go.Wd Go.Wire Go.Ex
theorem c8:Spec Tryz.prog 8 [] (fun v=>v=.bool true):=by
 refine Spec.of_awlS hf8 okf8 (by simp) fun S hS=>?_
 have f1:=c10 xm1 xmD fG
 have f2:=c10 xm2 xmD zji
 have f3:=c10 xmL xmD zjj
 rw[fl1,lk1] at f1
 rw[fl2,lk2] at f2
 rw[fl3,lk3] at f3
 have s1:=c12 xm1 xmD fG
 have s2:=c12 xm2 xmD zji
 have s3:=c12 xmL xmD zjj
 rw[st1,lk1] at s1
 rw[st2,lk2] at s2
 rw[st3,lk3] at s3
 have n1:=c13 xmD fG.dc
 rw[ct1,ct2] at n1
 have r1:=c14 xmD fG.dc 1
 rw[rp1,re1] at r1
 have hp1:((xQ xP).length:Int)=1:=rfl
 have hp2:(xQ xP).getD 0 []=[.str qT,zC 1 (zM [mU,mV]),zC 1 (zM [[55,48,48],oA])]:=rfl
 have hp3:((zM [[55,48,48],oA]).length:Int)=2:=rfl
 have hp4:((yN []).length:Int)=0:=rfl
 have hp5:(zM [[55,48,48],oA]).getD 0 []=[.str [55,48,48]]:=rfl
 have g2:=c25 xA2 xA2 (by decide) (by intro x hx;simp[xA2] at hx;subst hx;decide)
 have g3:=c25 xA3 xA3 (by decide) (by intro x hx;simp[xA3] at hx;rcases hx with rfl|rfl|rfl|rfl<;>decide)
 rw[decide_eq_true rfl] at g2 g3
 have hr1:List.drop 2 (List.take 3 (List.map zP xmL))=List.map zP xm1:=rfl
 simp only[Qs,uu f8.eq_1,vv f8r37.eq_1,uu f8b38.eq_1,vv f8r39.eq_1,uu f8b40.eq_1]
 refine yS c29 ?_
 simp only[hr1,sD,sE,sB,sC,tZ,sA,Qs,lQ,if_true,forall_eq,List.append_nil,List.mem_cons,Nat.reduceAdd,Nat.reduceMul,Nat.reduceLeDiff,Nat.reduceLT,Nat.reduceBEq,List.length_map,Int.reduceLE,Int.reduceToNat,List.not_mem_nil,kB,vv f8r32.eq_1,uu f8b33.eq_1,vv f8r34.eq_1,vv f8r35.eq_1,uu f8b36.eq_1]
 refine⟨by decide,?_⟩
 refine yS f1 ?_ (ha:=by simp only[List.map_cons,List.map_nil,zB,V.norm,zL,uD,hr1,zH yF,zH yM,C.norm]<;>rfl)
 simp only[hr1,sD,sE,sB,sC,tZ,sA,Qs,cO,cZ,hP,if_true,forall_eq_or_imp,forall_eq,List.append_nil,List.mem_cons,Nat.reduceAdd,Nat.reduceMul,Nat.reduceLT,Nat.reduceBEq,List.length_map,Int.reduceLE,Int.reduceToNat,List.not_mem_nil,vv f8r30.eq_1,uu f8b31.eq_1]
 refine⟨by decide,by decide,⟨rfl,rfl⟩,?_⟩
 refine zhq f2 ?_ (ha:=by rfl)
 simp only[hr1,sD,sE,sB,sC,tZ,sA,Qs,cQ,bB,bC,bD,Nat.reduceBEq,vv f8r28.eq_1,uu f8b29.eq_1]
 refine yS f3 ?_ (ha:=by simp only[List.map_cons,List.map_nil,zB,V.norm,zL,uD,hr1,zH yF,zH yM,C.norm]<;>rfl)
 simp only[hr1,sD,sE,sB,sC,tZ,sA,Qs,lQ,List.append_nil,Nat.reduceAdd,Nat.reduceMul,Nat.reduceBEq,List.length_map,Int.reduceLE,Int.reduceToNat,vv f8r26.eq_1,uu f8b27.eq_1]
 refine⟨by decide,?_⟩
 refine zD s1 ?_ (ha:=by simp only[List.map_cons,List.map_nil,zB,V.norm,zL,uD,hr1,zH yF,zH yM,C.norm]<;>rfl)
 simp only[hr1,sD,sE,sB,sC,tZ,sA,Qs,cO,cZ,hP,if_true,forall_eq_or_imp,forall_eq,List.mem_cons,Nat.reduceAdd,Nat.reduceLT,Nat.reduceBEq,List.length_map,Int.reduceLE,Int.reduceToNat,List.not_mem_nil,vv f8r24.eq_1,uu f8b25.eq_1]
 refine⟨by decide,by decide,⟨rfl,rfl⟩,?_⟩
 refine rO s2 ?_ (ha:=by rfl)
 simp only[hr1,sD,sE,sB,sC,tZ,sA,Qs,cQ,bB,bC,bD,Nat.reduceBEq,vv f8r22.eq_1,uu f8b23.eq_1]
 refine zD s3 ?_ (ha:=by simp only[List.map_cons,List.map_nil,zB,V.norm,zL,uD,hr1,zH yF,zH yM,C.norm]<;>rfl)
 simp only[hr1,sD,sE,sB,sC,tZ,sA,Qs,Nat.reduceBEq,vv f8r20.eq_1,uu f8b21.eq_1]
 refine zD n1 ?_ (ha:=by simp only[List.map_cons,List.map_nil,zB,V.norm,zL,uD,hr1,zH yF,zH yM,C.norm]<;>rfl)
 simp only[hr1,sD,sE,sB,sC,tZ,sA,Qs,Nat.reduceBEq,vv f8r18.eq_1,uu f8b19.eq_1]
 refine yS r1 ?_ (ha:=by simp only[List.map_cons,List.map_nil,zB,V.norm,zL,uD,hr1,zH yF,zH yM,C.norm]<;>rfl)
 simp only[hp1,hp2,hp3,hp4,hp5,hr1,sD,sE,sB,sC,tZ,sA,Qs,zcF,zcG,iZ,if_true,if_false,forall_eq,BEq.rfl,List.append_nil,List.mem_cons,Nat.reduceAdd,Nat.reduceMul,Nat.reduceLeDiff,Nat.reduceLT,Nat.reduceBEq,Int.reduceLT,Int.reduceLE,Int.reduceBNe,List.not_mem_nil,zgT,kB,vv f8r8.eq_1,vv f8r9.eq_1,vv f8r10.eq_1,uu f8b11.eq_1,uu f8b14.eq_1,vv f8r15.eq_1,uu f8b16.eq_1,uu f8b17.eq_1]
 refine zD g2 ?_ (ha:=by rfl)
 simp only[hp1,hp2,hp3,hp4,hp5,hr1,sD,sE,sB,sC,tZ,sA,Qs,zcF,zcG,iZ,hP,if_true,forall_eq_or_imp,forall_eq,BEq.rfl,List.append_nil,List.mem_cons,Nat.reduceAdd,Nat.reduceLeDiff,Nat.reduceLT,Nat.reduceBEq,Int.reduceLT,Int.reduceLE,List.not_mem_nil,zgT,kB,vv f8r1.eq_1,vv f8r2.eq_1,vv f8r3.eq_1,vv f8r4.eq_1,vv f8r5.eq_1,vv f8r6.eq_1,uu f8b7.eq_1]
 refine zD g3 ?_ (ha:=by rfl)
 simp only[hp1,hp2,hp3,hp4,hp5,hr1,sD,sE,sB,sC,tZ,sA,Qs,lY,zf6,zlR,zgE,if_true,if_false,List.nodup_nil,Nat.reduceBEq]
 exact hS
end Go.Abs
set_option maxRecDepth 100000
set_option maxHeartbeats 8000000
namespace Go.Ex
open Go.Lib Go.Wd Go.Wire Go.Abs
theorem zoI (st n:Nat):uM (n+1) st=uM n st++if st.testBit n=true then[n] else[]:=by
 unfold uM
 rw[List.range_succ,List.filter_append]
 congr 1
 by_cases h:st.testBit n=true<;>simp[h]
theorem zjk (st n:Nat):(uM n st).length≤n:=Nat.le_trans (List.length_filter_le _ _) (by simp)
theorem zoJ (L:List Dmd) (D:List Dcm):(conflP (viewD L D)).length≤320:=by
 have hT:conflP (viewD L D)=rW (viewD L D).never 64++(uI (viewD L D).doubt 256 (viewD L D).doubt).filter (wV (viewD L D).sets):=rfl
 rw[hT,List.length_append]
 have h1:=gY (viewD L D).doubt 256 (viewD L D).doubt
 have h2:=List.length_filter_le (wV (viewD L D).sets) (uI (viewD L D).doubt 256 (viewD L D).doubt)
 have h3:=zab (viewD L D).never 64
 omega
theorem zjl {L:List Dmd} {D:List Dcm} (hA:AskS L D):(flawsE L D).length≤1000∧ ∀x∈flawsE L D,x.dem.length≤8:=by
 unfold flawsE
 split
 ·rename_i h0
  have hcn:=rE h0
  have hm: ∀s,s∈conflP (viewD L D) ↔ _:=kM hA.l8 (pZ hA hcn) (rR L D)
  have h256:2 ^ L.length≤256:=(Nat.pow_le_pow_right (by decide) hA.l8:2 ^ L.length≤2 ^ 8)
  have hd:=qP _ (Nat.lt_of_lt_of_le (qM (rR L D)) h256)
  unfold kO rS
  constructor
  ·rw[List.length_append,List.length_map,List.length_map,(tG ltC _).length_eq,List.length_map]
   have:=zoJ L D
   have e:(bitsN (viewD L D).doubt).length≤8:=hd
   omega
  ·intro x hx
   rcases List.mem_append.1 hx with hx|hx
   ·obtain⟨c,hc,rfl⟩:=List.mem_map.1 hx
    obtain⟨s,hs2,rfl⟩:=List.mem_map.1 ((tG ltC _).mem_iff.1 hc)
    have:=((hm s).1 hs2).1
    show(List.map _ _).length≤8
    rw[List.length_map]
    exact qP s (by omega)
   ·obtain⟨k,hk,rfl⟩:=List.mem_map.1 hx
    show[(k:Int)].length≤8
    simp
 ·simp
end Go.Ex
namespace Go.Abs
open Go.Proofs Go.RowKit Go.Lib Go.Wd Go.Wire Go.Ex
theorem zjm: ∀st:Nat,st<256→ ∀k:Nat,k<8→IntKind.u8.wrap ((BitVec.ofInt IntKind.u8.bits ((st:Int).fdiv (2 ^ min k IntKind.u8.bits))&&&BitVec.ofInt IntKind.u8.bits 1).toNat:Int)=if st.testBit k=true then 1 else 0:=by decide+kernel
theorem zoK {st:Nat} {d:List Int} {k:Nat} (h:k<d.length):inS st (d.take (k+1))=(inS st (d.take k)&&st.testBit (d.getD k 0).toNat):=by
 unfold inS
 rw[List.take_succ_eq_append_getElem h,List.all_append]
 simp[h]
theorem zoL {st:Nat} {l:List Flw} {i:Nat} (h:i<l.length):contB st (l.take (i+1))=(contB st (l.take i)||((l.getD i wJ).sure&&inS st (l.getD i wJ).dem)):=by
 unfold contB
 rw[List.take_succ_eq_append_getElem h,List.any_append]
 simp[h]
theorem zoM (d:List Int) (k:Nat):(zK d).take k=zK (d.take k):=by simp[zK,List.map_take]
theorem zoN (d:List Int) (k:Nat):(zK d).drop k=zK (d.drop k):=by simp[zK,List.map_drop]
theorem zoO (a b:List Int):zK a++zK b=zK (a++b):=by simp[zK]
theorem c3 (L:List Dmd) (D:List Dcm) (hI: ∀m∈L,DmdI m) (st:Nat) (hst:st<256):Spec Tryz.prog 3 [lst 8 (L.map zP),lst 2 (D.map zR),.int .u8 (st:Int)] (fun v=>v=.bool true):=by
 refine Spec.of_awlS hf3 okf3 (by simp) fun S hS=>?_
 have g9:=c9 L D
 by_cases hF:pW L D=true
 ·obtain⟨hA,h128⟩:=kV hI hF
  have hL:=hA.l8
  rw[hF] at g9
  have g10:=c10 L D hA
  by_cases h0:lookE L D=0
  ·have hB:=fun x hx hs k hk=>l3B hA h0 (x:=x) hx hs (k:=k) hk
   have hC:=fun x hx hs=>l3A hA h0 (x:=x) hx hs
   have hDD:=l3D hA h0 st
   obtain⟨hfl,hfd⟩:=zjl hA
   have g11:=fun w hw=>c11 L D hA w hw
   rw[h0] at g10
   generalize flawsE L D=FL at g10 hB hC hDD hfl hfd
   generalize someB L D=SO at g11 hB hC hDD
   simp only[Qs,Nat.reduceAdd,uu f3.eq_1,vv f3r83.eq_1,uu f3b84.eq_1,vv f3r85.eq_1,uu f3b86.eq_1]
   refine zD c8 ?_ (ha:=by rfl)
   simp only[Qs,Nat.reduceBEq,vv f3r80.eq_1,uu f3b81.eq_1,uu f3b82.eq_1]
   refine zD g9 ?_ (ha:=by simp only[List.map_cons,List.map_nil,zB,V.norm,zL,zH yF,zH yM,C.norm]<;>rfl)
   simp only[Qs,Nat.reduceBEq,vv f3r75.eq_1,uu f3b76.eq_1,uu f3b79.eq_1]
   refine yS g10 ?_ (ha:=by simp only[List.map_cons,List.map_nil,zB,V.norm,zL,zH yF,zH yM,C.norm]<;>rfl)
   simp only[show((0:Int) !=0)=false from rfl,Qs,if_true,implies_true,List.append_nil,Nat.reduceAdd,Nat.reduceMul,Nat.reduceBEq,List.not_mem_nil,implies_true,uu f3b63.eq_1,vv f3r64.eq_1,uu f3b65.eq_1,uu f3b66.eq_1,vv f3r67.eq_1,uu f3b68.eq_1,uu f3b71.eq_1,vv f3r72.eq_1,uu f3b73.eq_1,uu f3b74.eq_1]
   rw[uu f3l62.eq_1]
   refine zS (fun x:Nat×Option Bool=>[(0,lst 8 (L.map zP)),(1,lst 2 (D.map zR)),(2,.int .u8 (st:Int)),(7,.bool true),(8,lst 3 (yN FL)),(10,.k (.own 37)),(11,.int .i64 x.1)])
    (fun x=>[(37,.arr 3 1 x.2 (zK (natI (uM x.1 st))))]) (fun x=>x.1≤L.length) (fun x=>L.length-x.1) (0,some false) rfl rfl (Nat.zero_le _) ?_
   rintro⟨i,nl⟩ hi
   simp only[] at hi
   by_cases hlt:i<L.length
   ·have d1:(i:Int)<L.length:=by omega
    have c4:IntKind.i64.wrap ((i:Int)+1)=(i:Int)+1:=wrap_in (by omega) (by omega)
    have c5:=zjm st hst i (by omega)
    have hw:=zoI st i
    have hwl:=zjk st i
    cases hb:st.testBit i with
    |true=>
     rw[hb,if_pos rfl] at c5 hw
     simp only[d1,c5,zJ,yB,vL,Qs,if_true,if_false,forall_eq,bne_iff_ne,ne_eq,BEq.rfl,List.mem_cons,Nat.reduceEqDiff,Nat.reduceLeDiff,Nat.reduceLT,Nat.reduceBEq,List.length_map,List.not_mem_nil,vv f3r51.eq_1,vv f3r52.eq_1,uu f3b53.eq_1,vv f3r54.eq_1,uu f3b55.eq_1,uu f3b56.eq_1,uu f3b57.eq_1,uu f3b58.eq_1,vv f3r59.eq_1,uu f3b60.eq_1,uu f3b61.eq_1]
     refine⟨by omega,by omega,?_⟩
     simp only[c4]
     exact Next.intro (i+1,some false) rfl (by rw[hw,←ziy,←bK];rfl) (by simp only;omega) (by simp only;omega)
    |false=>
     rw[hb,if_neg (by simp)] at c5 hw
     rw[List.append_nil] at hw
     simp only[d1,c5,c4,zJ,Qs,if_true,Nat.reduceBEq,List.length_map,Int.reduceBEq,vv f3r51.eq_1,vv f3r52.eq_1,uu f3b53.eq_1,vv f3r54.eq_1,uu f3b55.eq_1,uu f3b56.eq_1,uu f3b57.eq_1,uu f3b58.eq_1,vv f3r59.eq_1,uu f3b60.eq_1,uu f3b61.eq_1]
     exact Next.intro (i+1,nl) rfl (by rw[hw];rfl) (by simp only;omega) (by simp only;omega)
   ·obtain rfl:i=L.length:=by omega
    have d1: ¬(L.length:Int)<L.length:=by omega
    have hwl:=zjk st L.length
    have g12:=g11 (natI (uM L.length st)) (by rw[vL];omega)
    generalize natI (uM L.length st)=W at hDD g12
    simp only[d1,zJ,Qs,if_true,Nat.reduceBEq,List.length_map,uu f3b45.eq_1,vv f3r46.eq_1,uu f3b47.eq_1,uu f3b48.eq_1,vv f3r49.eq_1,uu f3b50.eq_1,uu f3b58.eq_1,vv f3r59.eq_1,uu f3b60.eq_1,uu f3b61.eq_1]
    rw[uu f3l44.eq_1]
    refine zS (fun i:Nat=>[(0,lst 8 (L.map zP)),(1,lst 2 (D.map zR)),(2,.int .u8 (st:Int)),(7,.bool true),(8,lst 3 (yN FL)),(10,.k (.own 37)),(12,.bool (contB st (FL.take i))),(13,.int .i64 i)])
     (fun _=>[(37,.arr 3 1 nl (zK W))]) (fun i=>i≤FL.length) (fun i=>FL.length-i) 0 rfl rfl (Nat.zero_le _) ?_
    intro i hi
    by_cases hil:i<FL.length
    ·have d2:(i:Int)<FL.length:=by omega
     have c4:IntKind.i64.wrap ((i:Int)+1)=(i:Int)+1:=wrap_in (by omega) (by omega)
     have hat:=fF hil
     have hcs:=zoL (st:=st) hil
     have hmem:FL.getD i wJ∈FL:=by
      have:FL.getD i wJ=FL[i]:=by simp[hil]
      rw[this];exact List.getElem_mem hil
     have hx8:=hfd _ hmem
     have hxB:=hB _ hmem
     have hxC:=hC _ hmem
     generalize FL.getD i wJ=x at hat hcs hx8 hxB hxC
     clear hmem
     obtain⟨d,pl,sr⟩:=x
     simp only[] at hat hcs hx8 hxB hxC
     cases sr with
     |false=>
      rw[Bool.false_and,Bool.or_false] at hcs
      simp only[d2,c4,hat,vM,Qs,if_true,if_false,Nat.reduceAdd,Nat.reduceLeDiff,Nat.reduceBEq,vv f3r3.eq_1,uu f3b32.eq_1,vv f3r33.eq_1,uu f3b34.eq_1,uu f3b35.eq_1,vv f3r36.eq_1,uu f3b37.eq_1,uu f3b38.eq_1,uu f3b39.eq_1,uu f3b40.eq_1,vv f3r41.eq_1,uu f3b42.eq_1,uu f3b43.eq_1]
      exact Next.intro (i+1) (by rw[hcs];rfl) rfl (by omega) (by omega)
     |true=>
      rw[Bool.true_and] at hcs
      obtain⟨hne,hso⟩:=hxC rfl
      have hxB:=hxB rfl
      have hd0:d.length≠0:=fun q=>hne (List.eq_nil_of_length_eq_zero q)
      have e0: ¬(d.length:Int)=0:=by omega
      have gd:=g11 d (by omega)
      rw[hso] at gd
      generalize contB st (FL.take i)=ct at hcs
      simp only[d2,c4,hat,vM,yB,e0,Qs,if_true,forall_const,List.nodup_nil,Nat.reduceAdd,Nat.reduceLeDiff,Nat.reduceBEq,vv f3r3.eq_1,vv f3r26.eq_1,uu f3b27.eq_1,uu f3b28.eq_1,vv f3r29.eq_1,uu f3b30.eq_1,uu f3b31.eq_1,uu f3b32.eq_1,vv f3r33.eq_1,uu f3b34.eq_1,uu f3b35.eq_1,vv f3r36.eq_1,uu f3b37.eq_1,uu f3b38.eq_1,uu f3b39.eq_1,uu f3b40.eq_1,vv f3r41.eq_1,uu f3b42.eq_1,uu f3b43.eq_1]
      refine zD gd ?_ (ha:=by simp only[List.map_cons,List.map_nil,zB,V.norm,zL,zH yF,zH yM,wL,C.norm]<;>rfl)
      simp only[Qs,if_false,Nat.reduceBEq,vv f3r4.eq_1,uu f3b20.eq_1,vv f3r21.eq_1,uu f3b22.eq_1,uu f3b23.eq_1,vv f3r24.eq_1,uu f3b25.eq_1,uu f3b28.eq_1]
      rw[uu f3l19.eq_1]
      refine zS (fun k:Nat=>[(0,lst 8 (L.map zP)),(1,lst 2 (D.map zR)),(2,.int .u8 (st:Int)),(7,.bool true),(8,lst 3 (yN FL)),(10,.k (.own 37)),(12,.bool ct),(13,.int .i64 i),(14,lst 1 (zK d)),(15,.bool (inS st (d.take k))),(16,.int .i64 k)])
       (fun _=>[(37,.arr 3 1 nl (zK W))]) (fun k=>k≤d.length) (fun k=>d.length-k) 0 rfl rfl (Nat.zero_le _) ?_
      intro k hk
      by_cases hkl:k<d.length
      ·have d3:(k:Int)<d.length:=by omega
       have c5:IntKind.i64.wrap ((k:Int)+1)=(k:Int)+1:=wrap_in (by omega) (by omega)
       have hatk:=tY hkl
       have his:=zoK (st:=st) hkl
       obtain⟨hs1,j,hj,hj7⟩:=hxB k hkl
       have gk:=g11 (d.take k++d.drop (k+1)) (by rw[List.length_append,List.length_take,List.length_drop];omega)
       rw[hs1] at gk
       rw[hj,Int.toNat_natCast] at his
       rw[hj] at hatk
       have hbt:=zjm st hst j (by omega)
       generalize st.testBit j=bt at his hbt
       generalize inS st (d.take k)=ii at his
       have hk1:((k:Int)+1).toNat=k+1:=by omega
       have d4: ¬(j:Int)<0:=by omega
       have d5: ¬(j:Int)>7:=by omega
       have hl1:(d.take k).length=k:=by rw[List.length_take];omega
       have hl2:(d.drop (k+1)).length≤8:=by rw[List.length_drop];omega
       simp only[d3,c5,hatk,hk1,yB,zoM,zoN,zoO,List.take_length,hl1,Qs,iW,zlx,zdi,zlz,zdv,lS,zlM,lZ,if_true,if_false,implies_true,true_or,bne_iff_ne,ne_eq,Nat.reduceEqDiff,Nat.reduceBEq,Int.reduceLE,List.not_mem_nil,implies_true,vv f3r5.eq_1,vv f3r6.eq_1,vv f3r10o0.eq_1,vv f3r10o1.eq_1,vv f3r10o2.eq_1,vv f3r10o3.eq_1,vv f3r10o4.eq_1,vv f3r10o5.eq_1,vv f3r10o6.eq_1,vv f3r10o7.eq_1,vv f3r10o8.eq_1,vv f3r10o9.eq_1,vv f3r10o10.eq_1,vv f3r10o11.eq_1,vv f3r10o12.eq_1,vv f3r10o13.eq_1,vv f3r10o14.eq_1,vv f3r10o15.eq_1,vv f3r10o16.eq_1,vv f3r10o17.eq_1,vv f3r10o18.eq_1,vv f3r10o19.eq_1,vv f3r10o20.eq_1,vv f3r10o21.eq_1,vv f3r10o22.eq_1,vv f3r10o23.eq_1,vv f3r10o24.eq_1,vv f3r10o25.eq_1,vv f3r10o26.eq_1,vv f3r10o27.eq_1,zlY,uu f3b11.eq_1,uu f3b12.eq_1,uu f3b13.eq_1,uu f3b14.eq_1,uu f3b15.eq_1,vv f3r16.eq_1,uu f3b17.eq_1,uu f3b18.eq_1]
       refine⟨by omega,by omega,by omega,⟨by omega,by omega,by omega⟩,by omega,by omega,?_⟩
       refine rO gk ?_ (ha:=by simp[zB,vQ,lookO,V.norm,uD,lst,zL,wL,zH yF,zH yM])
       simp only[d3,d4,d5,c5,hatk,yB,Qs,zcz,iW,mF,zdB,zdK,zdL,zdM,zdN,zdO,zdP,if_true,if_false,Nat.reduceBEq,uu f3b9.eq_1]
       cases ii with
       |true=>
        rw[Bool.true_and] at his
        cases bt with
        |true=>
         rw[if_pos rfl] at hbt
         simp only[d3,c5,hatk,hbt,yB,Qs,if_true,BEq.rfl,Nat.reduceBEq]
         exact Next.intro (k+1) (by rw[his];rfl) rfl (by omega) (by omega)
        |false=>
         rw[if_neg (by simp)] at hbt
         simp only[d3,c5,hatk,hbt,yB,Qs,if_true,Nat.reduceBEq,Int.reduceBEq]
         exact Next.intro (k+1) (by rw[his];rfl) rfl (by omega) (by omega)
       |false=>
        rw[Bool.false_and] at his
        simp only[d3,c5,hatk,yB,Qs,if_true,Nat.reduceBEq]
        exact Next.intro (k+1) (by rw[his];rfl) rfl (by omega) (by omega)
      ·obtain rfl:k=d.length:=by omega
       have d3: ¬(d.length:Int)<d.length:=by omega
       rw[List.take_length]
       cases ct with
       |true=>
        rw[Bool.true_or] at hcs
        simp only[d3,c4,yB,Qs,if_true,if_false,Nat.reduceEqDiff,Nat.reduceBEq,uu f3b15.eq_1,vv f3r16.eq_1,uu f3b17.eq_1,uu f3b18.eq_1]
        exact Next.intro (i+1) (by rw[hcs];rfl) rfl (by omega) (by omega)
       |false=>
        rw[Bool.false_or] at hcs
        simp only[d3,c4,yB,Qs,if_true,if_false,Nat.reduceEqDiff,Nat.reduceBEq,uu f3b15.eq_1,vv f3r16.eq_1,uu f3b17.eq_1,uu f3b18.eq_1]
        exact Next.intro (i+1) (by rw[hcs];rfl) rfl (by omega) (by omega)
    ·obtain rfl:i=FL.length:=by omega
     have d2: ¬(FL.length:Int)<FL.length:=by omega
     rw[List.take_length,hDD]
     simp only[d2,vM,Qs,if_true,Nat.reduceBEq,vv f3r1.eq_1,uu f3b2.eq_1,uu f3b40.eq_1,vv f3r41.eq_1,uu f3b42.eq_1,uu f3b43.eq_1]
     refine zD g12 ?_ (ha:=by simp[zB,vQ,lookO,V.norm,uD,lst,zL,wL,zH yF,zH yM])
     cases SO W<;>(simp only[Qs,zcJ,zc2,if_true,if_false,BEq.rfl,List.nodup_nil,Nat.reduceBEq];exact hS)
  ·have hfe:flawsE L D=[]:=by unfold flawsE;rw[if_neg h0]
   rw[hfe] at g10
   generalize lookE L D=er at g10 h0
   have e1:(er !=0)=true:=by rw[bne_iff_ne];exact h0
   have e2:((yN []).length:Int)=0:=rfl
   simp only[Qs,Nat.reduceAdd,uu f3.eq_1,vv f3r83.eq_1,uu f3b84.eq_1,vv f3r85.eq_1,uu f3b86.eq_1]
   refine zD c8 ?_ (ha:=by rfl)
   simp only[Qs,Nat.reduceBEq,vv f3r80.eq_1,uu f3b81.eq_1,uu f3b82.eq_1]
   refine zD g9 ?_ (ha:=by simp only[List.map_cons,List.map_nil,zB,V.norm,zL,zH yF,zH yM,C.norm]<;>rfl)
   simp only[Qs,Nat.reduceBEq,vv f3r75.eq_1,uu f3b76.eq_1,uu f3b79.eq_1]
   refine yS g10 ?_ (ha:=by simp only[List.map_cons,List.map_nil,zB,V.norm,zL,zH yF,zH yM,C.norm]<;>rfl)
   simp only[e1,e2,Qs,if_true,BEq.rfl,List.append_nil,List.nodup_nil,Nat.reduceAdd,Nat.reduceMul,Nat.reduceBEq,vv f3r69.eq_1,uu f3b70.eq_1,uu f3b71.eq_1,vv f3r72.eq_1,uu f3b73.eq_1,uu f3b74.eq_1]
   exact hS
 ·have hF:pW L D=false:=by simpa using hF
  rw[hF] at g9
  simp only[Qs,Nat.reduceAdd,uu f3.eq_1,vv f3r83.eq_1,uu f3b84.eq_1,vv f3r85.eq_1,uu f3b86.eq_1]
  refine zD c8 ?_ (ha:=by rfl)
  simp only[Qs,Nat.reduceBEq,vv f3r80.eq_1,uu f3b81.eq_1,uu f3b82.eq_1]
  refine zD g9 ?_ (ha:=by simp only[List.map_cons,List.map_nil,zB,V.norm,zL,zH yF,zH yM,C.norm]<;>rfl)
  simp only[Qs,List.nodup_nil,Nat.reduceBEq,vv f3r77.eq_1,uu f3b78.eq_1,uu f3b79.eq_1]
  exact hS
end Go.Abs
