/-
  MORE GAS does not change what a run tells that is done or given back, but its gas by as much, if its code does not ask for it: for every code, input and both gases the law's function yields true, and its arguments stay as they are. No condition.
-/
import Derived.ProofKit
import Derived.Test.YtiejicekncnofaaGreatRows
import Derived.Test.YtiejicekncnofaaGreatE7
section
open Go Go.Abs
namespace Go.Proofs.Vm
def Fr (code inp : ByteArray) (stk : AV) (mem : ByteArray) (pc gas stand err : Int) (out : ByteArray) : List AV := [st code, st inp, stk, st mem, i64 pc, i64 gas, i64 stand, i64 err, st out]
def shF : List Sh := [.str, .str, .sl 4 [sh6, sh6, sh6, sh6], .str, .int .i64, .int .i64, .int .i64, .int .i64, .str]
set_option maxRecDepth 100000
set_option maxHeartbeats 0
noncomputable def E16 (p62 : List AV → List AObj → Prop) (v62 : RF) (p63 : List AV → List AObj → Prop) (p64 : List AV → List AObj → Prop) (v64 : RF) (p65 : List AV → List AObj → Prop) (v65 : RF) (p66 : List AV → List AObj → Prop) (v66 : RF) (p67 : List AV → List AObj → Prop) (v67 : RF) (p68 : List AV → List AObj → Prop) (p69 : List AV → List AObj → Prop) (v69 : RF) (p70 : List AV → List AObj → Prop) (v70 : RF) (p71 : List AV → List AObj → Prop) (p72 : List AV → List AObj → Prop) (v72 : RF) (p73 : List AV → List AObj → Prop) (p74 : List AV → List AObj → Prop) (v74 : RF) (p75 : List AV → List AObj → Prop) (v75 : RF) : Env := En 16 [] [] [(34, Tryz.f34, cod Tryz.f34), (35, Tryz.f35, cod Tryz.f35)] [] [] [(62, ask p62 (tells .str v62)), (63, ask p63 S63), (64, ask p64 (tells (.tup [.int .i64, .int .i64]) v64)), (65, ask p65 (tells shU v65)), (66, ask p66 (tells (.tup [shU, shU]) v66)), (67, ask p67 (tells (.tup [.str, .int .i64, .int .i64]) v67)), (68, ask p68 S68), (69, ask p69 (tells (.int .i64) v69)), (70, ask p70 (tells (.int .i64) v70)), (71, ask p71 S71), (72, ask p72 (S72 v72)), (73, ask p73 S73), (74, ask p74 (tells shU v74)), (75, ask p75 (S75 v75))]
noncomputable def a16 : Alt := ⟨false, .agg shF, []⟩
noncomputable def A16 : List Alt := [a16]
theorem T16 (p62 : List AV → List AObj → Prop) (v62 : RF) (p63 : List AV → List AObj → Prop) (p64 : List AV → List AObj → Prop) (v64 : RF) (p65 : List AV → List AObj → Prop) (v65 : RF) (p66 : List AV → List AObj → Prop) (v66 : RF) (p67 : List AV → List AObj → Prop) (v67 : RF) (p68 : List AV → List AObj → Prop) (p69 : List AV → List AObj → Prop) (v69 : RF) (p70 : List AV → List AObj → Prop) (v70 : RF) (p71 : List AV → List AObj → Prop) (p72 : List AV → List AObj → Prop) (v72 : RF) (p73 : List AV → List AObj → Prop) (p74 : List AV → List AObj → Prop) (v74 : RF) (p75 : List AV → List AObj → Prop) (v75 : RF) (code inp mem out : ByteArray) (pc gas stand err : Int) (es : List (List AV)) (X : Type) (k : AEnd → List AObj → Option X)
    (x1 : RE) (e1 : v62 [u8 0] [] = x1)
    (x2 : RE) (e2 : v64 [u8 0] [] = x2)
    (x3 : RE) (e3 : v65 [AV.ptr 0 0, i64 0] [AObj.cells (Mc code inp (AV.sl 4 es) mem pc gas stand err out 0 0 0 0 0 0 0 0 0 0 0 0 0)] = x3)
    (x4 : RE) (e4 : v65 [AV.ptr 0 0, i64 1] [AObj.cells (Mc code inp (AV.sl 4 es) mem pc gas stand err out 0 0 0 0 0 0 0 0 0 0 0 0 0)] = x4)
    (x5 : RE) (e5 : v65 [AV.ptr 0 0, i64 2] [AObj.cells (Mc code inp (AV.sl 4 es) mem pc gas stand err out 0 0 0 0 0 0 0 0 0 0 0 0 0)] = x5)
    (x6 : RE) (e6 : v66 [AV.ptr 0 0] [AObj.cells (Mc code inp (AV.sl 4 es) mem pc gas stand err out 0 (((rV x3).items.getD 0 J).toInt) (((rV x3).items.getD 1 J).toInt) (((rV x3).items.getD 2 J).toInt) (((rV x3).items.getD 3 J).toInt) (((rV x4).items.getD 0 J).toInt) (((rV x4).items.getD 1 J).toInt) (((rV x4).items.getD 2 J).toInt) (((rV x4).items.getD 3 J).toInt) (((rV x5).items.getD 0 J).toInt) (((rV x5).items.getD 1 J).toInt) (((rV x5).items.getD 2 J).toInt) (((rV x5).items.getD 3 J).toInt))] = x6)
    (x7 : RE) (e7 : v67 [st mem, AV.agg (tu4 ((rV x6).items.getD 0 J).items), AV.agg (tu4 ((rV x6).items.getD 1 J).items)] [] = x7)
    (x8 : RE) (e8 : v69 [u8 0] [] = x8)
    (x9 : RE) (e9 : v70 [AV.ptr 0 0, AV.agg (tu4 ((rV x6).items.getD 1 J).items)] [AObj.cells (Mc code inp (AV.sl 4 es) mem pc gas stand err out 0 (((rV x3).items.getD 0 J).toInt) (((rV x3).items.getD 1 J).toInt) (((rV x3).items.getD 2 J).toInt) (((rV x3).items.getD 3 J).toInt) (((rV x4).items.getD 0 J).toInt) (((rV x4).items.getD 1 J).toInt) (((rV x4).items.getD 2 J).toInt) (((rV x4).items.getD 3 J).toInt) (((rV x5).items.getD 0 J).toInt) (((rV x5).items.getD 1 J).toInt) (((rV x5).items.getD 2 J).toInt) (((rV x5).items.getD 3 J).toInt))] = x9)
    (x10 : RE) (e10 : v75 [AV.ptr 0 0] [AObj.cells (Mc code inp (AV.sref 1 0 ((IntKind.i64.wrap ((↑es.length : Int) - ((rV x2).items.getD 0 J).toInt)).toNat - 0)) (((rV x7).items.getD 0 J).toStr) pc (IntKind.i64.wrap (gas - IntKind.i64.wrap (IntKind.i64.wrap ((rV x8).toInt + ((rV x7).items.getD 1 J).toInt) + (rV x9).toInt))) stand err out 0 (((rV x3).items.getD 0 J).toInt) (((rV x3).items.getD 1 J).toInt) (((rV x3).items.getD 2 J).toInt) (((rV x3).items.getD 3 J).toInt) (((rV x4).items.getD 0 J).toInt) (((rV x4).items.getD 1 J).toInt) (((rV x4).items.getD 2 J).toInt) (((rV x4).items.getD 3 J).toInt) (((rV x5).items.getD 0 J).toInt) (((rV x5).items.getD 1 J).toInt) (((rV x5).items.getD 2 J).toInt) (((rV x5).items.getD 3 J).toInt)), AObj.row 4 es] = x10)
    (x11 : RE) (e11 : v62 [u8 (↑(code.data.1.getD pc.toNat 0).toNat : Int)] [] = x11)
    (x12 : RE) (e12 : v64 [u8 (↑(code.data.1.getD pc.toNat 0).toNat : Int)] [] = x12)
    (x13 : RE) (e13 : v65 [AV.ptr 0 0, i64 0] [AObj.cells (Mc code inp (AV.sl 4 es) mem pc gas stand err out (↑(code.data.1.getD pc.toNat 0).toNat : Int) 0 0 0 0 0 0 0 0 0 0 0 0)] = x13)
    (x14 : RE) (e14 : v65 [AV.ptr 0 0, i64 1] [AObj.cells (Mc code inp (AV.sl 4 es) mem pc gas stand err out (↑(code.data.1.getD pc.toNat 0).toNat : Int) 0 0 0 0 0 0 0 0 0 0 0 0)] = x14)
    (x15 : RE) (e15 : v65 [AV.ptr 0 0, i64 2] [AObj.cells (Mc code inp (AV.sl 4 es) mem pc gas stand err out (↑(code.data.1.getD pc.toNat 0).toNat : Int) 0 0 0 0 0 0 0 0 0 0 0 0)] = x15)
    (x16 : RE) (e16 : v66 [AV.ptr 0 0] [AObj.cells (Mc code inp (AV.sl 4 es) mem pc gas stand err out (↑(code.data.1.getD pc.toNat 0).toNat : Int) (((rV x13).items.getD 0 J).toInt) (((rV x13).items.getD 1 J).toInt) (((rV x13).items.getD 2 J).toInt) (((rV x13).items.getD 3 J).toInt) (((rV x14).items.getD 0 J).toInt) (((rV x14).items.getD 1 J).toInt) (((rV x14).items.getD 2 J).toInt) (((rV x14).items.getD 3 J).toInt) (((rV x15).items.getD 0 J).toInt) (((rV x15).items.getD 1 J).toInt) (((rV x15).items.getD 2 J).toInt) (((rV x15).items.getD 3 J).toInt))] = x16)
    (x17 : RE) (e17 : v67 [st mem, AV.agg (tu4 ((rV x16).items.getD 0 J).items), AV.agg (tu4 ((rV x16).items.getD 1 J).items)] [] = x17)
    (x18 : RE) (e18 : v69 [u8 (↑(code.data.1.getD pc.toNat 0).toNat : Int)] [] = x18)
    (x19 : RE) (e19 : v70 [AV.ptr 0 0, AV.agg (tu4 ((rV x16).items.getD 1 J).items)] [AObj.cells (Mc code inp (AV.sl 4 es) mem pc gas stand err out (↑(code.data.1.getD pc.toNat 0).toNat : Int) (((rV x13).items.getD 0 J).toInt) (((rV x13).items.getD 1 J).toInt) (((rV x13).items.getD 2 J).toInt) (((rV x13).items.getD 3 J).toInt) (((rV x14).items.getD 0 J).toInt) (((rV x14).items.getD 1 J).toInt) (((rV x14).items.getD 2 J).toInt) (((rV x14).items.getD 3 J).toInt) (((rV x15).items.getD 0 J).toInt) (((rV x15).items.getD 1 J).toInt) (((rV x15).items.getD 2 J).toInt) (((rV x15).items.getD 3 J).toInt))] = x19)
    (x20 : RE) (e20 : v75 [AV.ptr 0 0] [AObj.cells (Mc code inp (AV.sref 1 0 ((IntKind.i64.wrap ((↑es.length : Int) - ((rV x12).items.getD 0 J).toInt)).toNat - 0)) (((rV x17).items.getD 0 J).toStr) pc (IntKind.i64.wrap (gas - IntKind.i64.wrap (IntKind.i64.wrap ((rV x18).toInt + ((rV x17).items.getD 1 J).toInt) + (rV x19).toInt))) stand err out (↑(code.data.1.getD pc.toNat 0).toNat : Int) (((rV x13).items.getD 0 J).toInt) (((rV x13).items.getD 1 J).toInt) (((rV x13).items.getD 2 J).toInt) (((rV x13).items.getD 3 J).toInt) (((rV x14).items.getD 0 J).toInt) (((rV x14).items.getD 1 J).toInt) (((rV x14).items.getD 2 J).toInt) (((rV x14).items.getD 3 J).toInt) (((rV x15).items.getD 0 J).toInt) (((rV x15).items.getD 1 J).toInt) (((rV x15).items.getD 2 J).toInt) (((rV x15).items.getD 3 J).toInt)), AObj.row 4 es] = x20)
    (x21 : RE) (e21 : v74 [AV.ptr 0 0] [AObj.cells (Mc code inp (AV.sref 1 0 ((IntKind.i64.wrap ((↑es.length : Int) - ((rV x12).items.getD 0 J).toInt)).toNat - 0)) (((rV x17).items.getD 0 J).toStr) pc (IntKind.i64.wrap (gas - IntKind.i64.wrap (IntKind.i64.wrap ((rV x18).toInt + ((rV x17).items.getD 1 J).toInt) + (rV x19).toInt))) stand err out (↑(code.data.1.getD pc.toNat 0).toNat : Int) (((rV x13).items.getD 0 J).toInt) (((rV x13).items.getD 1 J).toInt) (((rV x13).items.getD 2 J).toInt) (((rV x13).items.getD 3 J).toInt) (((rV x14).items.getD 0 J).toInt) (((rV x14).items.getD 1 J).toInt) (((rV x14).items.getD 2 J).toInt) (((rV x14).items.getD 3 J).toInt) (((rV x15).items.getD 0 J).toInt) (((rV x15).items.getD 1 J).toInt) (((rV x15).items.getD 2 J).toInt) (((rV x15).items.getD 3 J).toInt)), AObj.row 4 es] = x21)
    (x22 : RE) (e22 : v72 [AV.ptr 0 0, st (rV x11).toStr] [AObj.cells (Mc code inp (AV.wref 1) (((rV x17).items.getD 0 J).toStr) pc (IntKind.i64.wrap (gas - IntKind.i64.wrap (IntKind.i64.wrap ((rV x18).toInt + ((rV x17).items.getD 1 J).toInt) + (rV x19).toInt))) stand err out (↑(code.data.1.getD pc.toNat 0).toNat : Int) (((rV x13).items.getD 0 J).toInt) (((rV x13).items.getD 1 J).toInt) (((rV x13).items.getD 2 J).toInt) (((rV x13).items.getD 3 J).toInt) (((rV x14).items.getD 0 J).toInt) (((rV x14).items.getD 1 J).toInt) (((rV x14).items.getD 2 J).toInt) (((rV x14).items.getD 3 J).toInt) (((rV x15).items.getD 0 J).toInt) (((rV x15).items.getD 1 J).toInt) (((rV x15).items.getD 2 J).toInt) (((rV x15).items.getD 3 J).toInt)), AObj.row 4 es] = x22) :
    body (E16 p62 v62 p63 p64 v64 p65 v65 p66 v66 p67 v67 p68 p69 v69 p70 v70 p71 p72 v72 p73 p74 v74 p75 v75) 60 16 Tryz.f16 (cod Tryz.f16) [.agg (Fr code inp (.sl 4 es) mem pc gas stand err out)] [] X k =
    bif stand != 0 then k (.ret (AV.agg [st code, st inp, AV.sl 4 es, st mem, i64 pc, i64 gas, i64 stand, i64 err, st out])) [] else bif ile 0 pc then bif ilt pc (↑code.size : Int) then bif decide (0 ≤ pc) && decide (pc < (↑code.size : Int)) then bif gd (p62 [u8 (↑(code.data.1.getD pc.toNat 0).toNat : Int)] []) then bif !(rV x11).toStr.toList == (ByteArray.mk #[]).toList then bif gd (p63 [bo !(rV x11).toStr.toList == (ByteArray.mk #[73, 78, 86, 65, 76, 73, 68]).toList, i64 21] []) then bif !(rV x11).toStr.toList == (ByteArray.mk #[73, 78, 86, 65, 76, 73, 68]).toList then bif gd (p64 [u8 (↑(code.data.1.getD pc.toNat 0).toNat : Int)] []) then bif ile ((rV x12).items.getD 0 J).toInt (↑es.length : Int) then bif gd (p63 [bo (ile (IntKind.i64.wrap (IntKind.i64.wrap ((↑es.length : Int) - ((rV x12).items.getD 0 J).toInt) + ((rV x12).items.getD 1 J).toInt)) 256), i64 19] []) then bif ile (IntKind.i64.wrap (IntKind.i64.wrap ((↑es.length : Int) - ((rV x12).items.getD 0 J).toInt) + ((rV x12).items.getD 1 J).toInt)) 256 then bif gd (p65 [AV.ptr 0 0, i64 0] [AObj.cells (Mc code inp (AV.sl 4 es) mem pc gas stand err out (↑(code.data.1.getD pc.toNat 0).toNat : Int) 0 0 0 0 0 0 0 0 0 0 0 0)]) then bif gd (p65 [AV.ptr 0 0, i64 1] [AObj.cells (Mc code inp (AV.sl 4 es) mem pc gas stand err out (↑(code.data.1.getD pc.toNat 0).toNat : Int) 0 0 0 0 0 0 0 0 0 0 0 0)]) then bif gd (p65 [AV.ptr 0 0, i64 2] [AObj.cells (Mc code inp (AV.sl 4 es) mem pc gas stand err out (↑(code.data.1.getD pc.toNat 0).toNat : Int) 0 0 0 0 0 0 0 0 0 0 0 0)]) then bif gd (p66 [AV.ptr 0 0] [AObj.cells (Mc code inp (AV.sl 4 es) mem pc gas stand err out (↑(code.data.1.getD pc.toNat 0).toNat : Int) (((rV x13).items.getD 0 J).toInt) (((rV x13).items.getD 1 J).toInt) (((rV x13).items.getD 2 J).toInt) (((rV x13).items.getD 3 J).toInt) (((rV x14).items.getD 0 J).toInt) (((rV x14).items.getD 1 J).toInt) (((rV x14).items.getD 2 J).toInt) (((rV x14).items.getD 3 J).toInt) (((rV x15).items.getD 0 J).toInt) (((rV x15).items.getD 1 J).toInt) (((rV x15).items.getD 2 J).toInt) (((rV x15).items.getD 3 J).toInt))]) then bif gd (p67 [st mem, AV.agg (tu4 ((rV x16).items.getD 0 J).items), AV.agg (tu4 ((rV x16).items.getD 1 J).items)] []) then bif gd (p63 [bo (((rV x17).items.getD 2 J).toInt == 0), i64 3] []) then bif ((rV x17).items.getD 2 J).toInt == 0 then bif gd (p69 [u8 (↑(code.data.1.getD pc.toNat 0).toNat : Int)] []) then bif gd (p70 [AV.ptr 0 0, AV.agg (tu4 ((rV x16).items.getD 1 J).items)] [AObj.cells (Mc code inp (AV.sl 4 es) mem pc gas stand err out (↑(code.data.1.getD pc.toNat 0).toNat : Int) (((rV x13).items.getD 0 J).toInt) (((rV x13).items.getD 1 J).toInt) (((rV x13).items.getD 2 J).toInt) (((rV x13).items.getD 3 J).toInt) (((rV x14).items.getD 0 J).toInt) (((rV x14).items.getD 1 J).toInt) (((rV x14).items.getD 2 J).toInt) (((rV x14).items.getD 3 J).toInt) (((rV x15).items.getD 0 J).toInt) (((rV x15).items.getD 1 J).toInt) (((rV x15).items.getD 2 J).toInt) (((rV x15).items.getD 3 J).toInt))]) then bif gd (p68 [AV.ptr 0 0, i64 (IntKind.i64.wrap (IntKind.i64.wrap ((rV x18).toInt + ((rV x17).items.getD 1 J).toInt) + (rV x19).toInt))] [AObj.cells (Mc code inp (AV.sl 4 es) mem pc gas stand err out (↑(code.data.1.getD pc.toNat 0).toNat : Int) (((rV x13).items.getD 0 J).toInt) (((rV x13).items.getD 1 J).toInt) (((rV x13).items.getD 2 J).toInt) (((rV x13).items.getD 3 J).toInt) (((rV x14).items.getD 0 J).toInt) (((rV x14).items.getD 1 J).toInt) (((rV x14).items.getD 2 J).toInt) (((rV x14).items.getD 3 J).toInt) (((rV x15).items.getD 0 J).toInt) (((rV x15).items.getD 1 J).toInt) (((rV x15).items.getD 2 J).toInt) (((rV x15).items.getD 3 J).toInt))]) then bif ile (IntKind.i64.wrap (IntKind.i64.wrap ((rV x18).toInt + ((rV x17).items.getD 1 J).toInt) + (rV x19).toInt)) gas then bif gd (p71 [AV.sl 4 es] []) then bif ile 95 (↑(code.data.1.getD pc.toNat 0).toNat : Int) then bif ile (↑(code.data.1.getD pc.toNat 0).toNat : Int) 159 then bif gd (p72 [AV.ptr 0 0, st (rV x11).toStr] [AObj.cells (Mc code inp (AV.wref 1) (((rV x17).items.getD 0 J).toStr) pc (IntKind.i64.wrap (gas - IntKind.i64.wrap (IntKind.i64.wrap ((rV x18).toInt + ((rV x17).items.getD 1 J).toInt) + (rV x19).toInt))) stand err out (↑(code.data.1.getD pc.toNat 0).toNat : Int) (((rV x13).items.getD 0 J).toInt) (((rV x13).items.getD 1 J).toInt) (((rV x13).items.getD 2 J).toInt) (((rV x13).items.getD 3 J).toInt) (((rV x14).items.getD 0 J).toInt) (((rV x14).items.getD 1 J).toInt) (((rV x14).items.getD 2 J).toInt) (((rV x14).items.getD 3 J).toInt) (((rV x15).items.getD 0 J).toInt) (((rV x15).items.getD 1 J).toInt) (((rV x15).items.getD 2 J).toInt) (((rV x15).items.getD 3 J).toInt)), AObj.row 4 es]) then bif ((rV x22).items.getD 0 J).toBool then k (.ret (AV.agg [st code, st inp, AV.sl 4 ((rOs x22).getD 0 AObj.dead).rowOf, st ((rV x17).items.getD 0 J).toStr, i64 (IntKind.i64.wrap (((rV x22).items.getD 1 J).toInt + 1)), i64 (IntKind.i64.wrap (gas - IntKind.i64.wrap (IntKind.i64.wrap ((rV x18).toInt + ((rV x17).items.getD 1 J).toInt) + (rV x19).toInt))), i64 stand, i64 err, st out])) [] else k (.ret (AV.agg [st code, st inp, AV.sl 4 ((rOs x22).getD 0 AObj.dead).rowOf, st ((rV x17).items.getD 0 J).toStr, i64 (IntKind.i64.wrap (pc + 1)), i64 (IntKind.i64.wrap (gas - IntKind.i64.wrap (IntKind.i64.wrap ((rV x18).toInt + ((rV x17).items.getD 1 J).toInt) + (rV x19).toInt))), i64 stand, i64 err, st out])) [] else none else bif decide (0 ≤ IntKind.i64.wrap ((↑es.length : Int) - ((rV x12).items.getD 0 J).toInt)) && decide (IntKind.i64.wrap ((↑es.length : Int) - ((rV x12).items.getD 0 J).toInt) ≤ (↑es.length : Int)) then bif ilt 0 (↑(code.data.1.getD pc.toNat 0).toNat : Int) then bif ilt (↑(code.data.1.getD pc.toNat 0).toNat : Int) 32 then bif gd (p74 [AV.ptr 0 0] [AObj.cells (Mc code inp (AV.sref 1 0 ((IntKind.i64.wrap ((↑es.length : Int) - ((rV x12).items.getD 0 J).toInt)).toNat - 0)) (((rV x17).items.getD 0 J).toStr) pc (IntKind.i64.wrap (gas - IntKind.i64.wrap (IntKind.i64.wrap ((rV x18).toInt + ((rV x17).items.getD 1 J).toInt) + (rV x19).toInt))) stand err out (↑(code.data.1.getD pc.toNat 0).toNat : Int) (((rV x13).items.getD 0 J).toInt) (((rV x13).items.getD 1 J).toInt) (((rV x13).items.getD 2 J).toInt) (((rV x13).items.getD 3 J).toInt) (((rV x14).items.getD 0 J).toInt) (((rV x14).items.getD 1 J).toInt) (((rV x14).items.getD 2 J).toInt) (((rV x14).items.getD 3 J).toInt) (((rV x15).items.getD 0 J).toInt) (((rV x15).items.getD 1 J).toInt) (((rV x15).items.getD 2 J).toInt) (((rV x15).items.getD 3 J).toInt)), AObj.row 4 es]) then bif gd (p73 [AV.ptr 0 0, AV.agg (tu4 (rV x21).items)] [AObj.cells (Mc code inp (AV.sref 1 0 ((IntKind.i64.wrap ((↑es.length : Int) - ((rV x12).items.getD 0 J).toInt)).toNat - 0)) (((rV x17).items.getD 0 J).toStr) pc (IntKind.i64.wrap (gas - IntKind.i64.wrap (IntKind.i64.wrap ((rV x18).toInt + ((rV x17).items.getD 1 J).toInt) + (rV x19).toInt))) stand err out (↑(code.data.1.getD pc.toNat 0).toNat : Int) (((rV x13).items.getD 0 J).toInt) (((rV x13).items.getD 1 J).toInt) (((rV x13).items.getD 2 J).toInt) (((rV x13).items.getD 3 J).toInt) (((rV x14).items.getD 0 J).toInt) (((rV x14).items.getD 1 J).toInt) (((rV x14).items.getD 2 J).toInt) (((rV x14).items.getD 3 J).toInt) (((rV x15).items.getD 0 J).toInt) (((rV x15).items.getD 1 J).toInt) (((rV x15).items.getD 2 J).toInt) (((rV x15).items.getD 3 J).toInt)), AObj.row 4 es]) then k (.ret (AV.agg [st code, st inp, AV.sl 4 (List.take ((IntKind.i64.wrap ((↑es.length : Int) - ((rV x12).items.getD 0 J).toInt)).toNat - 0) es ++ [(tu4 (rV x21).items)]), st ((rV x17).items.getD 0 J).toStr, i64 (IntKind.i64.wrap (pc + 1)), i64 (IntKind.i64.wrap (gas - IntKind.i64.wrap (IntKind.i64.wrap ((rV x18).toInt + ((rV x17).items.getD 1 J).toInt) + (rV x19).toInt))), i64 stand, i64 err, st out])) [] else none else none else bif gd (p75 [AV.ptr 0 0] [AObj.cells (Mc code inp (AV.sref 1 0 ((IntKind.i64.wrap ((↑es.length : Int) - ((rV x12).items.getD 0 J).toInt)).toNat - 0)) (((rV x17).items.getD 0 J).toStr) pc (IntKind.i64.wrap (gas - IntKind.i64.wrap (IntKind.i64.wrap ((rV x18).toInt + ((rV x17).items.getD 1 J).toInt) + (rV x19).toInt))) stand err out (↑(code.data.1.getD pc.toNat 0).toNat : Int) (((rV x13).items.getD 0 J).toInt) (((rV x13).items.getD 1 J).toInt) (((rV x13).items.getD 2 J).toInt) (((rV x13).items.getD 3 J).toInt) (((rV x14).items.getD 0 J).toInt) (((rV x14).items.getD 1 J).toInt) (((rV x14).items.getD 2 J).toInt) (((rV x14).items.getD 3 J).toInt) (((rV x15).items.getD 0 J).toInt) (((rV x15).items.getD 1 J).toInt) (((rV x15).items.getD 2 J).toInt) (((rV x15).items.getD 3 J).toInt)), AObj.row 4 es]) then bif ((rV x20).items.getD 0 J).toBool then k (.ret (AV.agg [st code, st inp, AV.sl 4 (List.take ((IntKind.i64.wrap ((↑es.length : Int) - ((rV x12).items.getD 0 J).toInt)).toNat - 0) es ++ [(tu4 ((rV x20).items.getD 2 J).items)]), st ((rV x17).items.getD 0 J).toStr, i64 (IntKind.i64.wrap (pc + 1)), i64 (IntKind.i64.wrap (gas - IntKind.i64.wrap (IntKind.i64.wrap ((rV x18).toInt + ((rV x17).items.getD 1 J).toInt) + (rV x19).toInt))), i64 stand, i64 err, st out])) [] else bif ((rV x20).items.getD 1 J).toBool then k (.ret (AV.agg [st code, st inp, AV.sl 4 (List.take ((IntKind.i64.wrap ((↑es.length : Int) - ((rV x12).items.getD 0 J).toInt)).toNat - 0) (List.drop 0 es)), st ((rV x20).items.getD 3 J).toStr, i64 (IntKind.i64.wrap (((rV x20).items.getD 4 J).toInt + 1)), i64 (IntKind.i64.wrap (gas - IntKind.i64.wrap (IntKind.i64.wrap ((rV x18).toInt + ((rV x17).items.getD 1 J).toInt) + (rV x19).toInt))), i64 ((rV x20).items.getD 5 J).toInt, i64 err, st ((rV x20).items.getD 6 J).toStr])) [] else k (.ret (AV.agg [st code, st inp, AV.sl 4 es, st mem, i64 pc, i64 0, i64 3, i64 20, st out])) [] else none else bif gd (p75 [AV.ptr 0 0] [AObj.cells (Mc code inp (AV.sref 1 0 ((IntKind.i64.wrap ((↑es.length : Int) - ((rV x12).items.getD 0 J).toInt)).toNat - 0)) (((rV x17).items.getD 0 J).toStr) pc (IntKind.i64.wrap (gas - IntKind.i64.wrap (IntKind.i64.wrap ((rV x18).toInt + ((rV x17).items.getD 1 J).toInt) + (rV x19).toInt))) stand err out (↑(code.data.1.getD pc.toNat 0).toNat : Int) (((rV x13).items.getD 0 J).toInt) (((rV x13).items.getD 1 J).toInt) (((rV x13).items.getD 2 J).toInt) (((rV x13).items.getD 3 J).toInt) (((rV x14).items.getD 0 J).toInt) (((rV x14).items.getD 1 J).toInt) (((rV x14).items.getD 2 J).toInt) (((rV x14).items.getD 3 J).toInt) (((rV x15).items.getD 0 J).toInt) (((rV x15).items.getD 1 J).toInt) (((rV x15).items.getD 2 J).toInt) (((rV x15).items.getD 3 J).toInt)), AObj.row 4 es]) then bif ((rV x20).items.getD 0 J).toBool then k (.ret (AV.agg [st code, st inp, AV.sl 4 (List.take ((IntKind.i64.wrap ((↑es.length : Int) - ((rV x12).items.getD 0 J).toInt)).toNat - 0) es ++ [(tu4 ((rV x20).items.getD 2 J).items)]), st ((rV x17).items.getD 0 J).toStr, i64 (IntKind.i64.wrap (pc + 1)), i64 (IntKind.i64.wrap (gas - IntKind.i64.wrap (IntKind.i64.wrap ((rV x18).toInt + ((rV x17).items.getD 1 J).toInt) + (rV x19).toInt))), i64 stand, i64 err, st out])) [] else bif ((rV x20).items.getD 1 J).toBool then k (.ret (AV.agg [st code, st inp, AV.sl 4 (List.take ((IntKind.i64.wrap ((↑es.length : Int) - ((rV x12).items.getD 0 J).toInt)).toNat - 0) (List.drop 0 es)), st ((rV x20).items.getD 3 J).toStr, i64 (IntKind.i64.wrap (((rV x20).items.getD 4 J).toInt + 1)), i64 (IntKind.i64.wrap (gas - IntKind.i64.wrap (IntKind.i64.wrap ((rV x18).toInt + ((rV x17).items.getD 1 J).toInt) + (rV x19).toInt))), i64 ((rV x20).items.getD 5 J).toInt, i64 err, st ((rV x20).items.getD 6 J).toStr])) [] else k (.ret (AV.agg [st code, st inp, AV.sl 4 es, st mem, i64 pc, i64 0, i64 3, i64 20, st out])) [] else none else none else bif decide (0 ≤ IntKind.i64.wrap ((↑es.length : Int) - ((rV x12).items.getD 0 J).toInt)) && decide (IntKind.i64.wrap ((↑es.length : Int) - ((rV x12).items.getD 0 J).toInt) ≤ (↑es.length : Int)) then bif ilt 0 (↑(code.data.1.getD pc.toNat 0).toNat : Int) then bif ilt (↑(code.data.1.getD pc.toNat 0).toNat : Int) 32 then bif gd (p74 [AV.ptr 0 0] [AObj.cells (Mc code inp (AV.sref 1 0 ((IntKind.i64.wrap ((↑es.length : Int) - ((rV x12).items.getD 0 J).toInt)).toNat - 0)) (((rV x17).items.getD 0 J).toStr) pc (IntKind.i64.wrap (gas - IntKind.i64.wrap (IntKind.i64.wrap ((rV x18).toInt + ((rV x17).items.getD 1 J).toInt) + (rV x19).toInt))) stand err out (↑(code.data.1.getD pc.toNat 0).toNat : Int) (((rV x13).items.getD 0 J).toInt) (((rV x13).items.getD 1 J).toInt) (((rV x13).items.getD 2 J).toInt) (((rV x13).items.getD 3 J).toInt) (((rV x14).items.getD 0 J).toInt) (((rV x14).items.getD 1 J).toInt) (((rV x14).items.getD 2 J).toInt) (((rV x14).items.getD 3 J).toInt) (((rV x15).items.getD 0 J).toInt) (((rV x15).items.getD 1 J).toInt) (((rV x15).items.getD 2 J).toInt) (((rV x15).items.getD 3 J).toInt)), AObj.row 4 es]) then bif gd (p73 [AV.ptr 0 0, AV.agg (tu4 (rV x21).items)] [AObj.cells (Mc code inp (AV.sref 1 0 ((IntKind.i64.wrap ((↑es.length : Int) - ((rV x12).items.getD 0 J).toInt)).toNat - 0)) (((rV x17).items.getD 0 J).toStr) pc (IntKind.i64.wrap (gas - IntKind.i64.wrap (IntKind.i64.wrap ((rV x18).toInt + ((rV x17).items.getD 1 J).toInt) + (rV x19).toInt))) stand err out (↑(code.data.1.getD pc.toNat 0).toNat : Int) (((rV x13).items.getD 0 J).toInt) (((rV x13).items.getD 1 J).toInt) (((rV x13).items.getD 2 J).toInt) (((rV x13).items.getD 3 J).toInt) (((rV x14).items.getD 0 J).toInt) (((rV x14).items.getD 1 J).toInt) (((rV x14).items.getD 2 J).toInt) (((rV x14).items.getD 3 J).toInt) (((rV x15).items.getD 0 J).toInt) (((rV x15).items.getD 1 J).toInt) (((rV x15).items.getD 2 J).toInt) (((rV x15).items.getD 3 J).toInt)), AObj.row 4 es]) then k (.ret (AV.agg [st code, st inp, AV.sl 4 (List.take ((IntKind.i64.wrap ((↑es.length : Int) - ((rV x12).items.getD 0 J).toInt)).toNat - 0) es ++ [(tu4 (rV x21).items)]), st ((rV x17).items.getD 0 J).toStr, i64 (IntKind.i64.wrap (pc + 1)), i64 (IntKind.i64.wrap (gas - IntKind.i64.wrap (IntKind.i64.wrap ((rV x18).toInt + ((rV x17).items.getD 1 J).toInt) + (rV x19).toInt))), i64 stand, i64 err, st out])) [] else none else none else bif gd (p75 [AV.ptr 0 0] [AObj.cells (Mc code inp (AV.sref 1 0 ((IntKind.i64.wrap ((↑es.length : Int) - ((rV x12).items.getD 0 J).toInt)).toNat - 0)) (((rV x17).items.getD 0 J).toStr) pc (IntKind.i64.wrap (gas - IntKind.i64.wrap (IntKind.i64.wrap ((rV x18).toInt + ((rV x17).items.getD 1 J).toInt) + (rV x19).toInt))) stand err out (↑(code.data.1.getD pc.toNat 0).toNat : Int) (((rV x13).items.getD 0 J).toInt) (((rV x13).items.getD 1 J).toInt) (((rV x13).items.getD 2 J).toInt) (((rV x13).items.getD 3 J).toInt) (((rV x14).items.getD 0 J).toInt) (((rV x14).items.getD 1 J).toInt) (((rV x14).items.getD 2 J).toInt) (((rV x14).items.getD 3 J).toInt) (((rV x15).items.getD 0 J).toInt) (((rV x15).items.getD 1 J).toInt) (((rV x15).items.getD 2 J).toInt) (((rV x15).items.getD 3 J).toInt)), AObj.row 4 es]) then bif ((rV x20).items.getD 0 J).toBool then k (.ret (AV.agg [st code, st inp, AV.sl 4 (List.take ((IntKind.i64.wrap ((↑es.length : Int) - ((rV x12).items.getD 0 J).toInt)).toNat - 0) es ++ [(tu4 ((rV x20).items.getD 2 J).items)]), st ((rV x17).items.getD 0 J).toStr, i64 (IntKind.i64.wrap (pc + 1)), i64 (IntKind.i64.wrap (gas - IntKind.i64.wrap (IntKind.i64.wrap ((rV x18).toInt + ((rV x17).items.getD 1 J).toInt) + (rV x19).toInt))), i64 stand, i64 err, st out])) [] else bif ((rV x20).items.getD 1 J).toBool then k (.ret (AV.agg [st code, st inp, AV.sl 4 (List.take ((IntKind.i64.wrap ((↑es.length : Int) - ((rV x12).items.getD 0 J).toInt)).toNat - 0) (List.drop 0 es)), st ((rV x20).items.getD 3 J).toStr, i64 (IntKind.i64.wrap (((rV x20).items.getD 4 J).toInt + 1)), i64 (IntKind.i64.wrap (gas - IntKind.i64.wrap (IntKind.i64.wrap ((rV x18).toInt + ((rV x17).items.getD 1 J).toInt) + (rV x19).toInt))), i64 ((rV x20).items.getD 5 J).toInt, i64 err, st ((rV x20).items.getD 6 J).toStr])) [] else k (.ret (AV.agg [st code, st inp, AV.sl 4 es, st mem, i64 pc, i64 0, i64 3, i64 20, st out])) [] else none else bif gd (p75 [AV.ptr 0 0] [AObj.cells (Mc code inp (AV.sref 1 0 ((IntKind.i64.wrap ((↑es.length : Int) - ((rV x12).items.getD 0 J).toInt)).toNat - 0)) (((rV x17).items.getD 0 J).toStr) pc (IntKind.i64.wrap (gas - IntKind.i64.wrap (IntKind.i64.wrap ((rV x18).toInt + ((rV x17).items.getD 1 J).toInt) + (rV x19).toInt))) stand err out (↑(code.data.1.getD pc.toNat 0).toNat : Int) (((rV x13).items.getD 0 J).toInt) (((rV x13).items.getD 1 J).toInt) (((rV x13).items.getD 2 J).toInt) (((rV x13).items.getD 3 J).toInt) (((rV x14).items.getD 0 J).toInt) (((rV x14).items.getD 1 J).toInt) (((rV x14).items.getD 2 J).toInt) (((rV x14).items.getD 3 J).toInt) (((rV x15).items.getD 0 J).toInt) (((rV x15).items.getD 1 J).toInt) (((rV x15).items.getD 2 J).toInt) (((rV x15).items.getD 3 J).toInt)), AObj.row 4 es]) then bif ((rV x20).items.getD 0 J).toBool then k (.ret (AV.agg [st code, st inp, AV.sl 4 (List.take ((IntKind.i64.wrap ((↑es.length : Int) - ((rV x12).items.getD 0 J).toInt)).toNat - 0) es ++ [(tu4 ((rV x20).items.getD 2 J).items)]), st ((rV x17).items.getD 0 J).toStr, i64 (IntKind.i64.wrap (pc + 1)), i64 (IntKind.i64.wrap (gas - IntKind.i64.wrap (IntKind.i64.wrap ((rV x18).toInt + ((rV x17).items.getD 1 J).toInt) + (rV x19).toInt))), i64 stand, i64 err, st out])) [] else bif ((rV x20).items.getD 1 J).toBool then k (.ret (AV.agg [st code, st inp, AV.sl 4 (List.take ((IntKind.i64.wrap ((↑es.length : Int) - ((rV x12).items.getD 0 J).toInt)).toNat - 0) (List.drop 0 es)), st ((rV x20).items.getD 3 J).toStr, i64 (IntKind.i64.wrap (((rV x20).items.getD 4 J).toInt + 1)), i64 (IntKind.i64.wrap (gas - IntKind.i64.wrap (IntKind.i64.wrap ((rV x18).toInt + ((rV x17).items.getD 1 J).toInt) + (rV x19).toInt))), i64 ((rV x20).items.getD 5 J).toInt, i64 err, st ((rV x20).items.getD 6 J).toStr])) [] else k (.ret (AV.agg [st code, st inp, AV.sl 4 es, st mem, i64 pc, i64 0, i64 3, i64 20, st out])) [] else none else none else none else k (.ret (AV.agg [st code, st inp, AV.sl 4 es, st mem, i64 pc, i64 0, i64 3, i64 18, st out])) [] else none else none else none else k (.ret (AV.agg [st code, st inp, AV.sl 4 es, st mem, i64 pc, i64 0, i64 3, i64 3, st out])) [] else none else none else none else none else none else none else k (.ret (AV.agg [st code, st inp, AV.sl 4 es, st mem, i64 pc, i64 0, i64 3, i64 19, st out])) [] else none else bif gd (p63 [bo false, i64 19] []) then k (.ret (AV.agg [st code, st inp, AV.sl 4 es, st mem, i64 pc, i64 0, i64 3, i64 19, st out])) [] else none else none else k (.ret (AV.agg [st code, st inp, AV.sl 4 es, st mem, i64 pc, i64 0, i64 3, i64 21, st out])) [] else none else bif gd (p63 [bo false, i64 21] []) then k (.ret (AV.agg [st code, st inp, AV.sl 4 es, st mem, i64 pc, i64 0, i64 3, i64 21, st out])) [] else none else none else none else bif gd (p62 [u8 0] []) then bif !(rV x1).toStr.toList == (ByteArray.mk #[]).toList then bif gd (p63 [bo !(rV x1).toStr.toList == (ByteArray.mk #[73, 78, 86, 65, 76, 73, 68]).toList, i64 21] []) then bif !(rV x1).toStr.toList == (ByteArray.mk #[73, 78, 86, 65, 76, 73, 68]).toList then bif gd (p64 [u8 0] []) then bif ile ((rV x2).items.getD 0 J).toInt (↑es.length : Int) then bif gd (p63 [bo (ile (IntKind.i64.wrap (IntKind.i64.wrap ((↑es.length : Int) - ((rV x2).items.getD 0 J).toInt) + ((rV x2).items.getD 1 J).toInt)) 256), i64 19] []) then bif ile (IntKind.i64.wrap (IntKind.i64.wrap ((↑es.length : Int) - ((rV x2).items.getD 0 J).toInt) + ((rV x2).items.getD 1 J).toInt)) 256 then bif gd (p65 [AV.ptr 0 0, i64 0] [AObj.cells (Mc code inp (AV.sl 4 es) mem pc gas stand err out 0 0 0 0 0 0 0 0 0 0 0 0 0)]) then bif gd (p65 [AV.ptr 0 0, i64 1] [AObj.cells (Mc code inp (AV.sl 4 es) mem pc gas stand err out 0 0 0 0 0 0 0 0 0 0 0 0 0)]) then bif gd (p65 [AV.ptr 0 0, i64 2] [AObj.cells (Mc code inp (AV.sl 4 es) mem pc gas stand err out 0 0 0 0 0 0 0 0 0 0 0 0 0)]) then bif gd (p66 [AV.ptr 0 0] [AObj.cells (Mc code inp (AV.sl 4 es) mem pc gas stand err out 0 (((rV x3).items.getD 0 J).toInt) (((rV x3).items.getD 1 J).toInt) (((rV x3).items.getD 2 J).toInt) (((rV x3).items.getD 3 J).toInt) (((rV x4).items.getD 0 J).toInt) (((rV x4).items.getD 1 J).toInt) (((rV x4).items.getD 2 J).toInt) (((rV x4).items.getD 3 J).toInt) (((rV x5).items.getD 0 J).toInt) (((rV x5).items.getD 1 J).toInt) (((rV x5).items.getD 2 J).toInt) (((rV x5).items.getD 3 J).toInt))]) then bif gd (p67 [st mem, AV.agg (tu4 ((rV x6).items.getD 0 J).items), AV.agg (tu4 ((rV x6).items.getD 1 J).items)] []) then bif gd (p63 [bo (((rV x7).items.getD 2 J).toInt == 0), i64 3] []) then bif ((rV x7).items.getD 2 J).toInt == 0 then bif gd (p69 [u8 0] []) then bif gd (p70 [AV.ptr 0 0, AV.agg (tu4 ((rV x6).items.getD 1 J).items)] [AObj.cells (Mc code inp (AV.sl 4 es) mem pc gas stand err out 0 (((rV x3).items.getD 0 J).toInt) (((rV x3).items.getD 1 J).toInt) (((rV x3).items.getD 2 J).toInt) (((rV x3).items.getD 3 J).toInt) (((rV x4).items.getD 0 J).toInt) (((rV x4).items.getD 1 J).toInt) (((rV x4).items.getD 2 J).toInt) (((rV x4).items.getD 3 J).toInt) (((rV x5).items.getD 0 J).toInt) (((rV x5).items.getD 1 J).toInt) (((rV x5).items.getD 2 J).toInt) (((rV x5).items.getD 3 J).toInt))]) then bif gd (p68 [AV.ptr 0 0, i64 (IntKind.i64.wrap (IntKind.i64.wrap ((rV x8).toInt + ((rV x7).items.getD 1 J).toInt) + (rV x9).toInt))] [AObj.cells (Mc code inp (AV.sl 4 es) mem pc gas stand err out 0 (((rV x3).items.getD 0 J).toInt) (((rV x3).items.getD 1 J).toInt) (((rV x3).items.getD 2 J).toInt) (((rV x3).items.getD 3 J).toInt) (((rV x4).items.getD 0 J).toInt) (((rV x4).items.getD 1 J).toInt) (((rV x4).items.getD 2 J).toInt) (((rV x4).items.getD 3 J).toInt) (((rV x5).items.getD 0 J).toInt) (((rV x5).items.getD 1 J).toInt) (((rV x5).items.getD 2 J).toInt) (((rV x5).items.getD 3 J).toInt))]) then bif ile (IntKind.i64.wrap (IntKind.i64.wrap ((rV x8).toInt + ((rV x7).items.getD 1 J).toInt) + (rV x9).toInt)) gas then bif gd (p71 [AV.sl 4 es] []) then bif decide (0 ≤ IntKind.i64.wrap ((↑es.length : Int) - ((rV x2).items.getD 0 J).toInt)) && decide (IntKind.i64.wrap ((↑es.length : Int) - ((rV x2).items.getD 0 J).toInt) ≤ (↑es.length : Int)) then bif gd (p75 [AV.ptr 0 0] [AObj.cells (Mc code inp (AV.sref 1 0 ((IntKind.i64.wrap ((↑es.length : Int) - ((rV x2).items.getD 0 J).toInt)).toNat - 0)) (((rV x7).items.getD 0 J).toStr) pc (IntKind.i64.wrap (gas - IntKind.i64.wrap (IntKind.i64.wrap ((rV x8).toInt + ((rV x7).items.getD 1 J).toInt) + (rV x9).toInt))) stand err out 0 (((rV x3).items.getD 0 J).toInt) (((rV x3).items.getD 1 J).toInt) (((rV x3).items.getD 2 J).toInt) (((rV x3).items.getD 3 J).toInt) (((rV x4).items.getD 0 J).toInt) (((rV x4).items.getD 1 J).toInt) (((rV x4).items.getD 2 J).toInt) (((rV x4).items.getD 3 J).toInt) (((rV x5).items.getD 0 J).toInt) (((rV x5).items.getD 1 J).toInt) (((rV x5).items.getD 2 J).toInt) (((rV x5).items.getD 3 J).toInt)), AObj.row 4 es]) then bif ((rV x10).items.getD 0 J).toBool then k (.ret (AV.agg [st code, st inp, AV.sl 4 (List.take ((IntKind.i64.wrap ((↑es.length : Int) - ((rV x2).items.getD 0 J).toInt)).toNat - 0) es ++ [(tu4 ((rV x10).items.getD 2 J).items)]), st ((rV x7).items.getD 0 J).toStr, i64 (IntKind.i64.wrap (pc + 1)), i64 (IntKind.i64.wrap (gas - IntKind.i64.wrap (IntKind.i64.wrap ((rV x8).toInt + ((rV x7).items.getD 1 J).toInt) + (rV x9).toInt))), i64 stand, i64 err, st out])) [] else bif ((rV x10).items.getD 1 J).toBool then k (.ret (AV.agg [st code, st inp, AV.sl 4 (List.take ((IntKind.i64.wrap ((↑es.length : Int) - ((rV x2).items.getD 0 J).toInt)).toNat - 0) (List.drop 0 es)), st ((rV x10).items.getD 3 J).toStr, i64 (IntKind.i64.wrap (((rV x10).items.getD 4 J).toInt + 1)), i64 (IntKind.i64.wrap (gas - IntKind.i64.wrap (IntKind.i64.wrap ((rV x8).toInt + ((rV x7).items.getD 1 J).toInt) + (rV x9).toInt))), i64 ((rV x10).items.getD 5 J).toInt, i64 err, st ((rV x10).items.getD 6 J).toStr])) [] else k (.ret (AV.agg [st code, st inp, AV.sl 4 es, st mem, i64 pc, i64 0, i64 3, i64 20, st out])) [] else none else none else none else k (.ret (AV.agg [st code, st inp, AV.sl 4 es, st mem, i64 pc, i64 0, i64 3, i64 18, st out])) [] else none else none else none else k (.ret (AV.agg [st code, st inp, AV.sl 4 es, st mem, i64 pc, i64 0, i64 3, i64 3, st out])) [] else none else none else none else none else none else none else k (.ret (AV.agg [st code, st inp, AV.sl 4 es, st mem, i64 pc, i64 0, i64 3, i64 19, st out])) [] else none else bif gd (p63 [bo false, i64 19] []) then k (.ret (AV.agg [st code, st inp, AV.sl 4 es, st mem, i64 pc, i64 0, i64 3, i64 19, st out])) [] else none else none else k (.ret (AV.agg [st code, st inp, AV.sl 4 es, st mem, i64 pc, i64 0, i64 3, i64 21, st out])) [] else none else bif gd (p63 [bo false, i64 21] []) then k (.ret (AV.agg [st code, st inp, AV.sl 4 es, st mem, i64 pc, i64 0, i64 3, i64 21, st out])) [] else none else none else bif gd (p62 [u8 0] []) then bif !(rV x1).toStr.toList == (ByteArray.mk #[]).toList then bif gd (p63 [bo !(rV x1).toStr.toList == (ByteArray.mk #[73, 78, 86, 65, 76, 73, 68]).toList, i64 21] []) then bif !(rV x1).toStr.toList == (ByteArray.mk #[73, 78, 86, 65, 76, 73, 68]).toList then bif gd (p64 [u8 0] []) then bif ile ((rV x2).items.getD 0 J).toInt (↑es.length : Int) then bif gd (p63 [bo (ile (IntKind.i64.wrap (IntKind.i64.wrap ((↑es.length : Int) - ((rV x2).items.getD 0 J).toInt) + ((rV x2).items.getD 1 J).toInt)) 256), i64 19] []) then bif ile (IntKind.i64.wrap (IntKind.i64.wrap ((↑es.length : Int) - ((rV x2).items.getD 0 J).toInt) + ((rV x2).items.getD 1 J).toInt)) 256 then bif gd (p65 [AV.ptr 0 0, i64 0] [AObj.cells (Mc code inp (AV.sl 4 es) mem pc gas stand err out 0 0 0 0 0 0 0 0 0 0 0 0 0)]) then bif gd (p65 [AV.ptr 0 0, i64 1] [AObj.cells (Mc code inp (AV.sl 4 es) mem pc gas stand err out 0 0 0 0 0 0 0 0 0 0 0 0 0)]) then bif gd (p65 [AV.ptr 0 0, i64 2] [AObj.cells (Mc code inp (AV.sl 4 es) mem pc gas stand err out 0 0 0 0 0 0 0 0 0 0 0 0 0)]) then bif gd (p66 [AV.ptr 0 0] [AObj.cells (Mc code inp (AV.sl 4 es) mem pc gas stand err out 0 (((rV x3).items.getD 0 J).toInt) (((rV x3).items.getD 1 J).toInt) (((rV x3).items.getD 2 J).toInt) (((rV x3).items.getD 3 J).toInt) (((rV x4).items.getD 0 J).toInt) (((rV x4).items.getD 1 J).toInt) (((rV x4).items.getD 2 J).toInt) (((rV x4).items.getD 3 J).toInt) (((rV x5).items.getD 0 J).toInt) (((rV x5).items.getD 1 J).toInt) (((rV x5).items.getD 2 J).toInt) (((rV x5).items.getD 3 J).toInt))]) then bif gd (p67 [st mem, AV.agg (tu4 ((rV x6).items.getD 0 J).items), AV.agg (tu4 ((rV x6).items.getD 1 J).items)] []) then bif gd (p63 [bo (((rV x7).items.getD 2 J).toInt == 0), i64 3] []) then bif ((rV x7).items.getD 2 J).toInt == 0 then bif gd (p69 [u8 0] []) then bif gd (p70 [AV.ptr 0 0, AV.agg (tu4 ((rV x6).items.getD 1 J).items)] [AObj.cells (Mc code inp (AV.sl 4 es) mem pc gas stand err out 0 (((rV x3).items.getD 0 J).toInt) (((rV x3).items.getD 1 J).toInt) (((rV x3).items.getD 2 J).toInt) (((rV x3).items.getD 3 J).toInt) (((rV x4).items.getD 0 J).toInt) (((rV x4).items.getD 1 J).toInt) (((rV x4).items.getD 2 J).toInt) (((rV x4).items.getD 3 J).toInt) (((rV x5).items.getD 0 J).toInt) (((rV x5).items.getD 1 J).toInt) (((rV x5).items.getD 2 J).toInt) (((rV x5).items.getD 3 J).toInt))]) then bif gd (p68 [AV.ptr 0 0, i64 (IntKind.i64.wrap (IntKind.i64.wrap ((rV x8).toInt + ((rV x7).items.getD 1 J).toInt) + (rV x9).toInt))] [AObj.cells (Mc code inp (AV.sl 4 es) mem pc gas stand err out 0 (((rV x3).items.getD 0 J).toInt) (((rV x3).items.getD 1 J).toInt) (((rV x3).items.getD 2 J).toInt) (((rV x3).items.getD 3 J).toInt) (((rV x4).items.getD 0 J).toInt) (((rV x4).items.getD 1 J).toInt) (((rV x4).items.getD 2 J).toInt) (((rV x4).items.getD 3 J).toInt) (((rV x5).items.getD 0 J).toInt) (((rV x5).items.getD 1 J).toInt) (((rV x5).items.getD 2 J).toInt) (((rV x5).items.getD 3 J).toInt))]) then bif ile (IntKind.i64.wrap (IntKind.i64.wrap ((rV x8).toInt + ((rV x7).items.getD 1 J).toInt) + (rV x9).toInt)) gas then bif gd (p71 [AV.sl 4 es] []) then bif decide (0 ≤ IntKind.i64.wrap ((↑es.length : Int) - ((rV x2).items.getD 0 J).toInt)) && decide (IntKind.i64.wrap ((↑es.length : Int) - ((rV x2).items.getD 0 J).toInt) ≤ (↑es.length : Int)) then bif gd (p75 [AV.ptr 0 0] [AObj.cells (Mc code inp (AV.sref 1 0 ((IntKind.i64.wrap ((↑es.length : Int) - ((rV x2).items.getD 0 J).toInt)).toNat - 0)) (((rV x7).items.getD 0 J).toStr) pc (IntKind.i64.wrap (gas - IntKind.i64.wrap (IntKind.i64.wrap ((rV x8).toInt + ((rV x7).items.getD 1 J).toInt) + (rV x9).toInt))) stand err out 0 (((rV x3).items.getD 0 J).toInt) (((rV x3).items.getD 1 J).toInt) (((rV x3).items.getD 2 J).toInt) (((rV x3).items.getD 3 J).toInt) (((rV x4).items.getD 0 J).toInt) (((rV x4).items.getD 1 J).toInt) (((rV x4).items.getD 2 J).toInt) (((rV x4).items.getD 3 J).toInt) (((rV x5).items.getD 0 J).toInt) (((rV x5).items.getD 1 J).toInt) (((rV x5).items.getD 2 J).toInt) (((rV x5).items.getD 3 J).toInt)), AObj.row 4 es]) then bif ((rV x10).items.getD 0 J).toBool then k (.ret (AV.agg [st code, st inp, AV.sl 4 (List.take ((IntKind.i64.wrap ((↑es.length : Int) - ((rV x2).items.getD 0 J).toInt)).toNat - 0) es ++ [(tu4 ((rV x10).items.getD 2 J).items)]), st ((rV x7).items.getD 0 J).toStr, i64 (IntKind.i64.wrap (pc + 1)), i64 (IntKind.i64.wrap (gas - IntKind.i64.wrap (IntKind.i64.wrap ((rV x8).toInt + ((rV x7).items.getD 1 J).toInt) + (rV x9).toInt))), i64 stand, i64 err, st out])) [] else bif ((rV x10).items.getD 1 J).toBool then k (.ret (AV.agg [st code, st inp, AV.sl 4 (List.take ((IntKind.i64.wrap ((↑es.length : Int) - ((rV x2).items.getD 0 J).toInt)).toNat - 0) (List.drop 0 es)), st ((rV x10).items.getD 3 J).toStr, i64 (IntKind.i64.wrap (((rV x10).items.getD 4 J).toInt + 1)), i64 (IntKind.i64.wrap (gas - IntKind.i64.wrap (IntKind.i64.wrap ((rV x8).toInt + ((rV x7).items.getD 1 J).toInt) + (rV x9).toInt))), i64 ((rV x10).items.getD 5 J).toInt, i64 err, st ((rV x10).items.getD 6 J).toStr])) [] else k (.ret (AV.agg [st code, st inp, AV.sl 4 es, st mem, i64 pc, i64 0, i64 3, i64 20, st out])) [] else none else none else none else k (.ret (AV.agg [st code, st inp, AV.sl 4 es, st mem, i64 pc, i64 0, i64 3, i64 18, st out])) [] else none else none else none else k (.ret (AV.agg [st code, st inp, AV.sl 4 es, st mem, i64 pc, i64 0, i64 3, i64 3, st out])) [] else none else none else none else none else none else none else k (.ret (AV.agg [st code, st inp, AV.sl 4 es, st mem, i64 pc, i64 0, i64 3, i64 19, st out])) [] else none else bif gd (p63 [bo false, i64 19] []) then k (.ret (AV.agg [st code, st inp, AV.sl 4 es, st mem, i64 pc, i64 0, i64 3, i64 19, st out])) [] else none else none else k (.ret (AV.agg [st code, st inp, AV.sl 4 es, st mem, i64 pc, i64 0, i64 3, i64 21, st out])) [] else none else bif gd (p63 [bo false, i64 21] []) then k (.ret (AV.agg [st code, st inp, AV.sl 4 es, st mem, i64 pc, i64 0, i64 3, i64 21, st out])) [] else none else none := by subst e1 e2 e3 e4 e5 e6 e7 e8 e9 e10 e11 e12 e13 e14 e15 e16 e17 e18 e19 e20 e21 e22; kernel_rfl
noncomputable def r16 : RF := runR (body (E16 p62 v62 p63 p64 v64 p65 v65 p66 v66 p67 v67 p68 p69 v69 p70 v70 p71 p72 v72 p73 p74 v74 p75 v75) 60 16 Tryz.f16 (cod Tryz.f16))
theorem q16 (args : List AV) (os : List AObj) : r16 args os = body (E16 p62 v62 p63 p64 v64 p65 v65 p66 v66 p67 v67 p68 p69 v69 p70 v70 p71 p72 v72 p73 p74 v74 p75 v75) 60 16 Tryz.f16 (cod Tryz.f16) args os _ fin := qR _ _ _
theorem ok16 : SpecOK P 16 (shaped A16 r16) := by
  unfold r16 E16
  refine okF 60 ?_ ?_ ?_ Tryz.func16 ?_ ?_ _
  · exact (tcons okS62 (tcons okS63 (tcons okS64 (tcons okS65 (tcons okS66 (tcons okS67 (tcons okS68 (tcons okS69 (tcons okS70 (tcons okS71 (tcons okS72 (tcons okS73 (tcons okS74 (tcons okS75 tnil))))))))))))))
  · exact (And.intro (And.intro Tryz.func34 (And.intro (by kernel_rfl) (by kernel_rfl))) (And.intro (And.intro Tryz.func35 (And.intro (by kernel_rfl) (by kernel_rfl))) trivial))
  · exact hnil
  · kernel_rfl
  · kernel_rfl
end Go.Proofs.Vm
end
section
namespace Go.Proofs.Vm
open Go Go.Abs
set_option maxRecDepth 100000
set_option maxHeartbeats 4000000
abbrev FrA (code inp : ByteArray) (es : List (List AV)) (mem : ByteArray) (pc gas stand err : Int) (out : ByteArray) : AV := .agg (Fr code inp (.sl 4 es) mem pc gas stand err out)
def hasGas (code : ByteArray) : Prop := ∃ i, i < code.size ∧ (code.data.1.getD i 0).toNat = 90
theorem tabD : ((List.range 256).all fun n => !((nmT n).toList == bGAS.toList) || Nat.beq n 90) = true := by kernel_rfl
theorem tabE : (((nmT 0).toList == bSTOP.toList) && (((nmT 243).toList == bRETURN.toList) && ((nmT 253).toList == bREVERT.toList))) = true := by kernel_rfl
theorem tab_gas {n : Nat} (hn : n < 256) (h : ((nm n).toList == bGAS.toList) = true) : n = 90 := by
  have hB := List.all_eq_true.1 tabD n (List.mem_range.2 hn)
  rw [← nm_eq, h] at hB
  exact Nat.eq_of_beq_eq_true hB
theorem tab_rng {n : Nat} (hn : n < 256) : 0 ≤ tk n ∧ tk n ≤ 20 ∧ 0 ≤ ly n ∧ ly n ≤ 20 ∧ 0 ≤ gs n ∧ gs n ≤ 1000 := by
  have hB := List.all_eq_true.1 tabA n (List.mem_range.2 hn)
  rw [← tk_eq, ← ly_eq, ← gs_eq] at hB
  simpa only [ile_eq, Bool.and_eq_true, decide_eq_true_eq] using hB
theorem tab_cost {n : Nat} (hn : n < 256) (h1 : ((nm n).toList == (ByteArray.mk #[]).toList) = false) (h2 : ((nm n).toList == (ByteArray.mk #[73, 78, 86, 65, 76, 73, 68]).toList) = false) : 1 ≤ gs n ∨ n = 0 ∨ n = 243 ∨ n = 253 := by
  have hB := List.all_eq_true.1 tabC n (List.mem_range.2 hn)
  rw [← nm_eq, ← gs_eq, h1, h2] at hB
  simpa only [ile_eq, Bool.or_eq_true, decide_eq_true_eq, Nat.beq_eq, Bool.false_or] using hB
theorem tab_end {n : Nat} (h1 : ((nm n).toList == bSTOP.toList) = false) (h2 : ((nm n).toList == bRETURN.toList) = false) (h3 : ((nm n).toList == bREVERT.toList) = false) : n ≠ 0 ∧ n ≠ 243 ∧ n ≠ 253 := by
  have hB := tabE
  rw [Bool.and_eq_true, Bool.and_eq_true, ← nm_eq, ← nm_eq, ← nm_eq] at hB
  refine ⟨?_, ?_, ?_⟩ <;> intro h <;> subst h
  · rw [hB.1] at h1; cases h1
  · rw [hB.2.1] at h2; cases h2
  · rw [hB.2.2] at h3; cases h3
theorem k62 (n : Nat) : v62 [u8 (n : Nat)] [] = some (.ret (st (nm n)), []) := by
  show some (AEnd.ret (st (nm (Int.toNat (n : Int)))), ([] : List AObj)) = _
  rw [Int.toNat_natCast]
theorem k64 (n : Nat) : v64 [u8 (n : Nat)] [] = some (.ret (.tuple [i64 (tk n), i64 (ly n)]), []) := by
  show some (AEnd.ret (.tuple [i64 (tk (Int.toNat (n : Int))), i64 (ly (Int.toNat (n : Int)))]), ([] : List AObj)) = _
  rw [Int.toNat_natCast]
theorem k69 (n : Nat) : v69 [u8 (n : Nat)] [] = some (.ret (i64 (gs n)), []) := by
  show some (AEnd.ret (i64 (gs (Int.toNat (n : Int)))), ([] : List AObj)) = _
  rw [Int.toNat_natCast]
theorem k65 {cs : List AV} {es : List (List AV)} {k : Nat} {x0 x1 x2 x3 : Int} (h : topE es k = [u x0, u x1, u x2, u x3]) (hc : stOf [.cells cs] = es) : v65 [.ptr 0 0, i64 k] [.cells cs] = some (.ret (U x0 x1 x2 x3), []) := by
  unfold v65
  rw [hc, show (argI [.ptr 0 0, i64 k] 1).toNat = k from Int.toNat_natCast k, h]; rfl
theorem k66 {m : Ms} {es : List (List AV)} (hm : m.In) : ∃ x0 x1 x2 x3 y0 y1 y2 y3, R4 x0 x1 x2 x3 ∧ R4 y0 y1 y2 y3 ∧ ∃ os, ∀ gas : Int, v66 [.ptr 0 0] [.cells (({ m with gas := gas } : Ms).c (.sl 4 es))] = some (.ret (.tuple [U x0 x1 x2 x3, U y0 y1 y2 y3]), os) := by
  obtain ⟨n, hn, ho⟩ := hm.op
  obtain ⟨x0, x1, x2, x3, y0, y1, y2, y3, h1, h2, h⟩ := w66 (code := m.code) (inp := m.inp) (mem := m.mem) (out := m.out) (pc := m.pc) (stand := m.stand) (err := m.err) (es := es) hn hm.a hm.b hm.c
  rw [← ho] at h
  exact ⟨x0, x1, x2, x3, y0, y1, y2, y3, h1, h2, _, fun gas => h 0⟩
theorem k70 {m : Ms} {es : List (List AV)} (hm : m.In) {n0 n1 n2 n3 : Int} (h0 : 0 ≤ n0) (h1 : n0 ≤ 1048576) : ∃ c : Int, 0 ≤ c ∧ c ≤ 16777216 ∧ ∃ os, ∀ gas : Int, v70 [.ptr 0 0, U n0 n1 n2 n3] [.cells (({ m with gas := gas } : Ms).c (.sl 4 es))] = some (.ret (i64 c), os) := by
  obtain ⟨n, hn, ho⟩ := hm.op
  obtain ⟨c, h3, h4, h⟩ := w70 (code := m.code) (inp := m.inp) (mem := m.mem) (out := m.out) (pc := m.pc) (stand := m.stand) (err := m.err) (a0 := m.a0) (a1 := m.a1) (a2 := m.a2) (a3 := m.a3) (b0 := m.b0) (b1 := m.b1) (b2 := m.b2) (b3 := m.b3) (c0 := m.c0) (c1 := m.c1) (c2 := m.c2) (c3 := m.c3) (es := es) (n1 := n1) (n2 := n2) (n3 := n3) hn h0 h1
  rw [← ho] at h
  exact ⟨c, h3, h4, _, fun gas => h 0⟩
theorem k72 {m : Ms} {es : List (List AV)} {n : Nat} (hn : n < 256) (ho : m.op = n) (h95 : 95 ≤ n) (h159 : n ≤ 159) (he : AllU es) (hl : es.length ≤ 2000) (hc : m.code.size ≤ 2900) (hp0 : 0 ≤ m.pc) (hp1 : m.pc ≤ 4000) (htk : tk n ≤ es.length) :
    ∃ (b : Bool) (pc' : Int) (es' : List (List AV)), AllU es' ∧ es'.length ≤ es.length + 1 ∧ (b = true → m.pc ≤ pc' ∧ pc' ≤ m.pc + 32) ∧ ∀ gas : Int, v72 [.ptr 0 0, st (nm n)] [.cells (({ m with gas := gas } : Ms).c (.wref 1)), .row 4 es] = some (.ret (.tuple [bo b, i64 pc']), [.row 4 es']) := by
  rcases w72 (code := m.code) (inp := m.inp) (mem := m.mem) (out := m.out) (pc := m.pc) (stand := m.stand) (err := m.err) (a0 := m.a0) (a1 := m.a1) (a2 := m.a2) (a3 := m.a3) (b0 := m.b0) (b1 := m.b1) (b2 := m.b2) (b3 := m.b3) (c0 := m.c0) (c1 := m.c1) (c2 := m.c2) (c3 := m.c3) (es := es) hn h95 h159 he hl hc hp0 hp1 htk with ⟨pc', es', h1, h2, he', h3, h⟩ | ⟨es', he', h3, h⟩
  · refine ⟨true, pc', es', he', by omega, fun _ => ⟨h1, h2⟩, fun gas => ?_⟩
    have h1 := h 0
    rw [← ho] at h1
    unfold v72
    rw [show r72 _ (g0 _) = _ from h1]; rfl
  · refine ⟨false, 0, es', he', by omega, (fun e => by cases e), fun gas => ?_⟩
    have h1 := h 0
    rw [← ho] at h1
    unfold v72
    rw [show r72 _ (g0 _) = _ from h1]
theorem k74 {m : Ms} {es : List (List AV)} {n : Nat} (hm : m.In) (he : AllU es) : ∃ x0 x1 x2 x3, R4 x0 x1 x2 x3 ∧ ∃ os, ∀ gas : Int, v74 [.ptr 0 0] [.cells (({ m with gas := gas } : Ms).c (.sref 1 0 n)), .row 4 es] = some (.ret (U x0 x1 x2 x3), os) := by
  obtain ⟨o, hn, ho⟩ := hm.op
  obtain ⟨x0, x1, x2, x3, h1, h⟩ := w74 (code := m.code) (inp := m.inp) (mem := m.mem) (out := m.out) (pc := m.pc) (stand := m.stand) (err := m.err) (es := es) (n := n) hn he hm.a hm.b hm.c
  rw [← ho] at h
  exact ⟨x0, x1, x2, x3, h1, _, fun gas => h 0⟩
def Goes (code inp : ByteArray) (es : List (List AV)) (mem : ByteArray) (pc err : Int) (out : ByteArray) (c : Int) : Prop :=
  ∃ (es' : Int → List (List AV)) (mem' out' : ByteArray) (pc' stand' : Int), (∀ g, AllU (es' g) ∧ (es' g).length ≤ 300) ∧ (hasGas code ∨ ∀ g g', es' g = es' g') ∧ mem'.size ≤ 4096 ∧ 0 ≤ pc' ∧ pc' ≤ 3001 ∧ (stand' = 1 ∨ stand' = 2 ∨ stand' = 0 ∧ 1 ≤ c ∧ out' = out ∧ pc' ≤ 3000) ∧
    ∀ gas, c ≤ gas → gas ≤ 1099511627776 → r16 [FrA code inp es mem pc gas 0 err out] [] = some (.ret (FrA code inp (es' gas) mem' pc' (gas - c) stand' err out'), [])
def Errs (code inp : ByteArray) (es : List (List AV)) (mem : ByteArray) (pc err : Int) (out : ByteArray) (e gas : Int) : Prop := r16 [FrA code inp es mem pc gas 0 err out] [] = some (.ret (FrA code inp es mem pc 0 3 e out), [])
def Steps (code inp : ByteArray) (es : List (List AV)) (mem : ByteArray) (pc err : Int) (out : ByteArray) : Prop :=
  (∃ e, e ≠ 0 ∧ ∀ gas, Errs code inp es mem pc err out e gas) ∨
  ∃ c : Int, 0 ≤ c ∧ c ≤ 33554432 ∧ (∀ gas, gas < c → Errs code inp es mem pc err out 18 gas) ∧ ((∀ gas, c ≤ gas → gas ≤ 1099511627776 → Errs code inp es mem pc err out 20 gas) ∨ Goes code inp es mem pc err out c)
end Go.Proofs.Vm
end
section
namespace Go.Proofs.Vm
open Go Go.Abs
set_option maxRecDepth 100000
set_option maxHeartbeats 8000000
theorem goI {ι α : Type} {b : Bool} {x y r : ι → α} (h : ∀ g, r g = (bif b then x g else y g)) (hb : b = true) : ∀ g, r g = x g := by subst hb; exact h
theorem gnI {ι α : Type} {b : Bool} {x y r : ι → α} (h : ∀ g, r g = (bif b then x g else y g)) (hb : b = false) : ∀ g, r g = y g := by subst hb; exact h
theorem spI {ι α : Type} {b : Bool} {x y r : ι → α} (h : ∀ g, r g = (bif b then x g else y g)) : (b = true ∧ ∀ g, r g = x g) ∨ (b = false ∧ ∀ g, r g = y g) := by cases b; exact .inr ⟨rfl, h⟩; exact .inl ⟨rfl, h⟩
theorem sp2 {ι α : Type} {b1 b2 : Bool} {x y r : ι → α} (h : ∀ g, r g = (bif b1 then (bif b2 then x g else y g) else y g)) : (b1 = true ∧ b2 = true ∧ ∀ g, r g = x g) ∨ ∀ g, r g = y g := by
  cases b1
  · exact .inr h
  · cases b2
    · exact .inr h
    · exact .inl ⟨rfl, rfl, h⟩
theorem giI {ι α : Type} {b : ι → Bool} {x y r : ι → α} (h : ∀ g, r g = (bif b g then x g else y g)) (hb : ∀ g, b g = true) : ∀ g, r g = x g := fun g => by rw [h g, hb g]; rfl
theorem w16b {code inp mem out : ByteArray} {pc err : Int} {es : List (List AV)} (hc : code.size ≤ 2900) (hi : inp.size ≤ 65536) (hm : mem.size ≤ 4096) (he : AllU es) (hl : es.length ≤ 300) (hp0 : 0 ≤ pc) (hp2 : pc ≤ 3000) (hp1 : pc < code.size) : Steps code inp es mem pc err out := by
  obtain ⟨a0, a1, a2, a3, ha, ta⟩ := topE_u he 0
  obtain ⟨b0, b1, b2, b3, hb, tb⟩ := topE_u he 1
  obtain ⟨c0, c1, c2, c3, hcc, tc⟩ := topE_u he 2
  have hn : (code.data.1.getD pc.toNat 0).toNat < 256 := UInt8.toNat_lt _
  obtain ⟨htk0, htk1, hly0, hly1, hgs0, hgs1⟩ := tab_rng hn
  have hcost0 := tab_cost hn
  have hend0 := @tab_end (code.data.1.getD pc.toNat 0).toNat
  have hgas0 := @tab_gas _ hn
  have e11 := k62 (code.data.1.getD pc.toNat 0).toNat
  have e12 := k64 (code.data.1.getD pc.toNat 0).toNat
  have e18 := k69 (code.data.1.getD pc.toNat 0).toNat
  obtain ⟨S, hS⟩ : ∃ S, nm (code.data.1.getD pc.toNat 0).toNat = S := ⟨_, rfl⟩
  obtain ⟨T, hT⟩ : ∃ T, tk (code.data.1.getD pc.toNat 0).toNat = T := ⟨_, rfl⟩
  obtain ⟨L, hL⟩ : ∃ L, ly (code.data.1.getD pc.toNat 0).toNat = L := ⟨_, rfl⟩
  obtain ⟨G, hGs⟩ : ∃ G, gs (code.data.1.getD pc.toNat 0).toNat = G := ⟨_, rfl⟩
  rw [hS] at e11 hcost0 hend0 hgas0
  rw [hT] at e12 htk0 htk1
  rw [hL] at e12 hly0 hly1
  rw [hGs] at e18 hgs0 hgs1 hcost0
  have hM : ∀ gas, (⟨code, inp, mem, out, pc, gas, 0, err, (((code.data.1.getD pc.toNat 0).toNat : Nat) : Int), a0, a1, a2, a3, b0, b1, b2, b3, c0, c1, c2, c3⟩ : Ms).In := fun gas => ⟨⟨(code.data.1.getD pc.toNat 0).toNat, hn, rfl⟩, hc, hi, hm, ha, hb, hcc⟩
  obtain ⟨p0, p1, p2, p3, q0, q1, q2, q3, hp, hq, os16, e16⟩ := k66 (es := es) (hM 0)
  obtain ⟨t, gc, ge, e17, hgc0, hgc1, ht1, ht2, hgr⟩ := w67 hm hp hq
  have hMt : ∀ gas, (⟨code, inp, t, out, pc, gas, 0, err, (((code.data.1.getD pc.toNat 0).toNat : Nat) : Int), a0, a1, a2, a3, b0, b1, b2, b3, c0, c1, c2, c3⟩ : Ms).In := fun gas => ⟨⟨(code.data.1.getD pc.toNat 0).toNat, hn, rfl⟩, hc, hi, ht1, ha, hb, hcc⟩
  obtain ⟨x19, e19⟩ : ∃ x, ∀ gas : Int, v70 [.ptr 0 0, U q0 q1 q2 q3] [.cells (Mc code inp (.sl 4 es) mem pc gas 0 err out (((code.data.1.getD pc.toNat 0).toNat : Nat) : Int) a0 a1 a2 a3 b0 b1 b2 b3 c0 c1 c2 c3)] = x := ⟨r70 [.ptr 0 0, U q0 q1 q2 q3] [.cells (Mc code inp (.sl 4 es) mem pc 0 0 err out (((code.data.1.getD pc.toNat 0).toNat : Nat) : Int) a0 a1 a2 a3 b0 b1 b2 b3 c0 c1 c2 c3)], fun gas => rfl⟩
  obtain ⟨x20, e20⟩ : ∃ x : Int → RE, ∀ gas : Int, v75 [.ptr 0 0] [.cells (Mc code inp (.sref 1 0 ((IntKind.i64.wrap ((es.length : Int) - T)).toNat - 0)) t pc gas 0 err out (((code.data.1.getD pc.toNat 0).toNat : Nat) : Int) a0 a1 a2 a3 b0 b1 b2 b3 c0 c1 c2 c3), .row 4 es] = x gas := ⟨_, fun gas => rfl⟩
  obtain ⟨z0, z1, z2, z3, hz, os21, e21⟩ := k74 (es := es) (n := ((IntKind.i64.wrap ((es.length : Int) - T)).toNat - 0)) (hMt 0) he
  obtain ⟨x22, e22⟩ : ∃ x, ∀ gas : Int, v72 [.ptr 0 0, st S] [.cells (Mc code inp (.wref 1) t pc gas 0 err out (((code.data.1.getD pc.toNat 0).toNat : Nat) : Int) a0 a1 a2 a3 b0 b1 b2 b3 c0 c1 c2 c3), .row 4 es] = x := ⟨v72 [.ptr 0 0, st S] [.cells (Mc code inp (.wref 1) t pc 0 0 err out (((code.data.1.getD pc.toNat 0).toNat : Nat) : Int) a0 a1 a2 a3 b0 b1 b2 b3 c0 c1 c2 c3), .row 4 es], fun gas => rfl⟩
  have h : ∀ gas : Int, r16 [FrA code inp es mem pc gas 0 err out] [] = _ := fun gas => (q16 _ _).trans (T16 p62 v62 p63 p64 v64 p65 v65 p66 v66 p67 v67 p68 p69 v69 p70 v70 p71 p72 v72 p73 p74 v74 p75 v75 code inp mem out pc gas 0 err es _ fin _ rfl _ rfl _ rfl _ rfl _ rfl _ rfl _ rfl _ rfl _ rfl _ rfl
    _ e11 _ e12 _ (k65 (k := 0) ta rfl) _ (k65 (k := 1) tb rfl) _ (k65 (k := 2) tc rfl) _ (e16 gas) _ e17 _ e18 _ (e19 gas) _ (e20 _) _ (e21 _) _ (e22 _))
  replace h := gnG h rfl
  replace h := goG h (ile_t' hp0)
  replace h := goG h (by rw [ilt_eq]; exact decide_eq_true hp1)
  replace h := goG h (dec2 hp0 hp1)
  replace h := goG h (gd_t ⟨(code.data.1.getD pc.toNat 0).toNat, hn, rfl, rfl⟩)
  rcases spG h with ⟨s1, h⟩ | ⟨_, h⟩
  rotate_left
  · exact .inl ⟨21, by decide, goG h (gd_t ⟨_, _, rfl, rfl⟩)⟩
  replace h := goG h (gd_t ⟨_, _, rfl, rfl⟩)
  rcases spG h with ⟨s2, h⟩ | ⟨_, h⟩
  rotate_left
  · exact .inl ⟨21, by decide, h⟩
  replace h := goG h (gd_t ⟨(code.data.1.getD pc.toNat 0).toNat, hn, rfl, rfl⟩)
  rcases spG h with ⟨s3, h⟩ | ⟨_, h⟩
  rotate_left
  · exact .inl ⟨19, by decide, goG h (gd_t ⟨_, _, rfl, rfl⟩)⟩
  replace h := goG h (gd_t ⟨_, _, rfl, rfl⟩)
  rcases spG h with ⟨s4, h⟩ | ⟨_, h⟩
  rotate_left
  · exact .inl ⟨19, by decide, h⟩
  replace h := goA h (fun g => gd_t ⟨⟨code, inp, mem, out, pc, g, 0, err, (((code.data.1.getD pc.toNat 0).toNat : Nat) : Int), 0, 0, 0, 0, 0, 0, 0, 0, 0, 0, 0, 0⟩, es, 0, rfl, rfl, he, by omega, by omega⟩)
  replace h := goA h (fun g => gd_t ⟨⟨code, inp, mem, out, pc, g, 0, err, (((code.data.1.getD pc.toNat 0).toNat : Nat) : Int), 0, 0, 0, 0, 0, 0, 0, 0, 0, 0, 0, 0⟩, es, 1, rfl, rfl, he, by omega, by omega⟩)
  replace h := goA h (fun g => gd_t ⟨⟨code, inp, mem, out, pc, g, 0, err, (((code.data.1.getD pc.toNat 0).toNat : Nat) : Int), 0, 0, 0, 0, 0, 0, 0, 0, 0, 0, 0, 0⟩, es, 2, rfl, rfl, he, by omega, by omega⟩)
  replace h := goA h (fun g => gd_t ⟨⟨code, inp, mem, out, pc, g, 0, err, (((code.data.1.getD pc.toNat 0).toNat : Nat) : Int), a0, a1, a2, a3, b0, b1, b2, b3, c0, c1, c2, c3⟩, es, rfl, rfl, he, hM g⟩)
  replace h := goG h (gd_t ⟨mem, p0, p1, p2, p3, q0, q1, q2, q3, rfl, rfl, hm, hp, hq⟩)
  replace h := goG h (gd_t ⟨_, _, rfl, rfl⟩)
  rcases spG h with ⟨s5, h⟩ | ⟨_, h⟩
  rotate_left
  · exact .inl ⟨3, by decide, h⟩
  replace h := goG h (gd_t ⟨(code.data.1.getD pc.toNat 0).toNat, hn, rfl, rfl⟩)
  have hq0 : 0 ≤ q0 ∧ q0 ≤ 1048576 := by
    have h5 : (ge == 0) = true := s5
    have h6 := hgr (by simpa using h5)
    obtain ⟨⟨_, _⟩, ⟨_, _⟩, ⟨_, _⟩, ⟨_, _⟩⟩ := hp
    obtain ⟨⟨_, _⟩, ⟨_, _⟩, ⟨_, _⟩, ⟨_, _⟩⟩ := hq
    unfold val at h6
    by_cases hv : q0 + 18446744073709551616 * q1 + 340282366920938463463374607431768211456 * q2 + 6277101735386680763835789423207666416102355444464034512896 * q3 = 0
    · omega
    · omega
  replace h := goA h (fun g => gd_t ⟨⟨code, inp, mem, out, pc, g, 0, err, (((code.data.1.getD pc.toNat 0).toNat : Nat) : Int), a0, a1, a2, a3, b0, b1, b2, b3, c0, c1, c2, c3⟩, es, q0, q1, q2, q3, rfl, rfl, he, hM g, hq0.1, hq0.2⟩)
  obtain ⟨c19, hc0, hc1, os19, h19⟩ := k70 (es := es) (n1 := q1) (n2 := q2) (n3 := q3) (hM 0) hq0.1 hq0.2
  obtain rfl := (e19 0).symm.trans (h19 0)
  clear e19 h19 e16 e17
  replace h := goA h (fun g => gd_t ⟨⟨code, inp, mem, out, pc, g, 0, err, (((code.data.1.getD pc.toNat 0).toNat : Nat) : Int), a0, a1, a2, a3, b0, b1, b2, b3, c0, c1, c2, c3⟩, es, _, rfl, rfl, he⟩)
  have hC : (IntKind.i64.wrap (IntKind.i64.wrap (G + gc) + c19)) = G + gc + c19 := by rw [w8in (n := G + gc) (by omega) (by omega), w8in (by omega) (by omega)]
  refine .inr ⟨G + gc + c19, by omega, by omega, fun gas hg => gn (h gas) (by show ile (IntKind.i64.wrap (IntKind.i64.wrap (G + gc) + c19)) gas = false; rw [hC]; exact ile_f' hg), ?_⟩
  replace h : ∀ g : {g : Int // G + gc + c19 ≤ g ∧ g ≤ 1099511627776}, r16 [FrA code inp es mem pc g.1 0 err out] [] = _ := fun g => go (h g.1) (by show ile (IntKind.i64.wrap (IntKind.i64.wrap (G + gc) + c19)) g.1 = true; rw [hC]; exact ile_t' g.2.1)
  have hG : ∀ g : {g : Int // G + gc + c19 ≤ g ∧ g ≤ 1099511627776}, IntKind.i64.wrap (g.1 - (IntKind.i64.wrap (IntKind.i64.wrap (G + gc) + c19))) = g.1 - (G + gc + c19) := fun g => by rw [hC]; exact w8in (by have := g.2; omega) (by have := g.2; omega)
  replace h := goI h (gd_t ⟨es, rfl, rfl, he, by omega⟩)
  have htk : T ≤ es.length := by
    have h3 : ile (T) (es.length : Int) = true := s3
    rw [ile_eq] at h3; exact of_decide_eq_true h3
  have hpc1 : IntKind.i64.wrap (pc + 1) = pc + 1 := w8in (by omega) (by omega)
  have hWt : IntKind.i64.wrap ((es.length : Int) - T) = (es.length : Int) - T := w8in (by omega) (by omega)
  have hN1 : ((IntKind.i64.wrap ((es.length : Int) - T)).toNat - 0) ≤ es.length := by rw [hWt]; omega
  have hs4 : ile (IntKind.i64.wrap (IntKind.i64.wrap ((es.length : Int) - T) + L)) 256 = true := s4
  rw [hWt, w8in (by omega) (by omega), ile_eq, decide_eq_true_eq] at hs4
  have hnm1 : (S.toList == (ByteArray.mk #[]).toList) = false := by
    have h3 : (!(S.toList == (ByteArray.mk #[]).toList)) = true := s1
    simpa using h3
  have hnm2 : (S.toList == (ByteArray.mk #[73, 78, 86, 65, 76, 73, 68]).toList) = false := by
    have h3 : (!(S.toList == (ByteArray.mk #[73, 78, 86, 65, 76, 73, 68]).toList)) = true := s2
    simpa using h3
  have hcost := hcost0 hnm1 hnm2
  clear s1 s2 s3 s5 hgr
  rcases sp2 h with ⟨m1, m2, h⟩ | h
  · rw [ile_eq, decide_eq_true_eq] at m1 m2
    have m1' : 95 ≤ (code.data.1.getD pc.toNat 0).toNat := by omega
    have m2' : (code.data.1.getD pc.toNat 0).toNat ≤ 159 := by omega
    replace h := giI h (fun g => gd_t ⟨⟨code, inp, t, out, pc, _, 0, err, (((code.data.1.getD pc.toNat 0).toNat : Nat) : Int), a0, a1, a2, a3, b0, b1, b2, b3, c0, c1, c2, c3⟩, es, (code.data.1.getD pc.toNat 0).toNat, (congrArg (fun s => [AV.ptr 0 0, st s]) hS.symm), rfl, hn, rfl, m1', m2', he, by omega, hc, hp0, by show pc ≤ 4000; omega, hT ▸ htk⟩)
    obtain ⟨b, pc', es', he', hl', hb', h22⟩ := k72 (m := ⟨code, inp, t, out, pc, 0, 0, err, (((code.data.1.getD pc.toNat 0).toNat : Nat) : Int), a0, a1, a2, a3, b0, b1, b2, b3, c0, c1, c2, c3⟩) hn rfl m1' m2' he (by omega) hc hp0 (by show pc ≤ 4000; omega) (hT ▸ htk)
    rw [hS] at h22
    obtain rfl := (e22 0).symm.trans (h22 0)
    cases b with
    | true =>
      obtain ⟨hb1, hb2⟩ := hb' rfl
      replace hb1 : pc ≤ pc' := hb1
      replace hb2 : pc' ≤ pc + 32 := hb2
      have hpc2 : IntKind.i64.wrap (pc' + 1) = pc' + 1 := w8in (by omega) (by omega)
      replace h := goI h rfl
      refine .inr ⟨fun _ => es', t, out, pc' + 1, 0, fun g => ⟨he', by show es'.length ≤ 300; omega⟩, .inr fun _ _ => rfl, ht1, by omega, by omega, .inr (.inr ⟨rfl, by omega, rfl, by omega⟩), fun gas hg0 hg1 => ?_⟩
      rw [← hG ⟨gas, hg0, hg1⟩, ← hpc2]
      exact h ⟨gas, hg0, hg1⟩
    | false =>
      replace h := gnI h rfl
      refine .inr ⟨fun _ => es', t, out, pc + 1, 0, fun g => ⟨he', by show es'.length ≤ 300; omega⟩, .inr fun _ _ => rfl, ht1, by omega, by omega, .inr (.inr ⟨rfl, by omega, rfl, by omega⟩), fun gas hg0 hg1 => ?_⟩
      rw [← hG ⟨gas, hg0, hg1⟩, ← hpc1]
      exact h ⟨gas, hg0, hg1⟩
  · replace h := goI h (dec2 (by show 0 ≤ IntKind.i64.wrap ((es.length : Int) - T); rw [hWt]; omega) (by show IntKind.i64.wrap ((es.length : Int) - T) ≤ (es.length : Int); rw [hWt]; omega))
    rcases sp2 h with ⟨o1, o2, h⟩ | h
    · replace h := giI h (fun g => gd_t ⟨⟨code, inp, t, out, pc, _, 0, err, (((code.data.1.getD pc.toNat 0).toNat : Nat) : Int), a0, a1, a2, a3, b0, b1, b2, b3, c0, c1, c2, c3⟩, es, ((IntKind.i64.wrap ((es.length : Int) - T)).toNat - 0), rfl, rfl, hMt _, he⟩)
      replace h := giI h (fun g => gd_t ⟨⟨code, inp, t, out, pc, _, 0, err, (((code.data.1.getD pc.toNat 0).toNat : Nat) : Int), a0, a1, a2, a3, b0, b1, b2, b3, c0, c1, c2, c3⟩, es, ((IntKind.i64.wrap ((es.length : Int) - T)).toNat - 0), z0, z1, z2, z3, rfl, rfl, hz, he, hN1, by omega⟩)
      refine .inr ⟨fun _ => es.take ((IntKind.i64.wrap ((es.length : Int) - T)).toNat - 0) ++ [[u z0, u z1, u z2, u z3]], t, out, pc + 1, 0, fun g => ⟨(he.take _).app ⟨_, _, _, _, hz, rfl⟩, by rw [List.length_append, List.length_take, List.length_singleton]; omega⟩, .inr fun _ _ => rfl, ht1, by omega, by omega, .inr (.inr ⟨rfl, ?_, rfl, by omega⟩), fun gas hg0 hg1 => ?_⟩
      · rw [ilt_eq, decide_eq_true_eq] at o1 o2
        omega
      · rw [← hG ⟨gas, hg0, hg1⟩, ← hpc1]
        exact h ⟨gas, hg0, hg1⟩
    · replace h := giI h (fun g => gd_t ⟨⟨code, inp, t, out, pc, _, 0, err, (((code.data.1.getD pc.toNat 0).toNat : Nat) : Int), a0, a1, a2, a3, b0, b1, b2, b3, c0, c1, c2, c3⟩, es, ((IntKind.i64.wrap ((es.length : Int) - T)).toNat - 0), rfl, rfl, hMt _, he, hN1, by omega⟩)
      have kk := k75 (es := es) (n := ((IntKind.i64.wrap ((es.length : Int) - T)).toNat - 0)) (hMt 0) he hN1 (by omega)
      rw [show nm (Ms.op ⟨code, inp, t, out, pc, 0, 0, err, (((code.data.1.getD pc.toNat 0).toNat : Nat) : Int), a0, a1, a2, a3, b0, b1, b2, b3, c0, c1, c2, c3⟩).toNat = S from (congrArg nm (Int.toNat_natCast _)).trans hS] at kk
      rcases kk with ⟨z, hz1, hz2, hz3, hz4, hz5, hz6⟩ | ⟨mem', out', pc', stand', k1, k2, k3, k4⟩ | k1
      · have hx : x20 = fun gas => some (.ret (.tuple [bo true, bo true, .agg (z gas), st .empty, i64 0, i64 0, st .empty]), []) := funext fun gas => (e20 gas).symm.trans (hz6 gas).2
        subst hx
        have hgz : (S.toList == bGAS.toList) = true ∨ ∀ g g', z g = z g' := hz2
        have hz3' : (S.toList == bSTOP.toList) = false := hz3
        have hz4' : (S.toList == bRETURN.toList) = false := hz4
        have hz5' : (S.toList == bREVERT.toList) = false := hz5
        have hend := hend0 hz3' hz4' hz5'
        replace h := goI h rfl
        refine .inr ⟨fun g => es.take ((IntKind.i64.wrap ((es.length : Int) - T)).toNat - 0) ++ [z (IntKind.i64.wrap (g - (IntKind.i64.wrap (IntKind.i64.wrap (G + gc) + c19))))], t, out, pc + 1, 0, fun g => ⟨(he.take _).app (hz1 _), by rw [List.length_append, List.length_take, List.length_singleton]; omega⟩, ?_, ht1, by omega, by omega, .inr (.inr ⟨rfl, by omega, rfl, by omega⟩), fun gas hg0 hg1 => ?_⟩
        · rcases hgz with hgz | hgz
          · exact .inl ⟨pc.toNat, by omega, hgas0 hgz⟩
          · exact .inr fun g g' => congrArg (fun w => es.take ((IntKind.i64.wrap ((es.length : Int) - T)).toNat - 0) ++ [w]) (hgz _ _)
        · obtain ⟨y0, y1, y2, y3, _, hy⟩ := hz1 (IntKind.i64.wrap (gas - (IntKind.i64.wrap (IntKind.i64.wrap (G + gc) + c19))))
          rw [← hG ⟨gas, hg0, hg1⟩, ← hpc1]
          refine (h ⟨gas, hg0, hg1⟩).trans ?_
          show some (AEnd.ret (.agg (Fr code inp (.sl 4 (es.take ((IntKind.i64.wrap ((es.length : Int) - T)).toNat - 0) ++ [tu4 (z (IntKind.i64.wrap (gas - (IntKind.i64.wrap (IntKind.i64.wrap (G + gc) + c19)))))])) t _ _ 0 err out)), _) = some (AEnd.ret (.agg (Fr code inp (.sl 4 (es.take ((IntKind.i64.wrap ((es.length : Int) - T)).toNat - 0) ++ [z (IntKind.i64.wrap (gas - (IntKind.i64.wrap (IntKind.i64.wrap (G + gc) + c19))))])) t _ _ 0 err out)), _)
          rw [hy]; rfl
      · have hx : x20 = fun gas => some (.ret (.tuple [bo false, bo true, J, st mem', i64 pc', i64 stand', st out']), []) := funext fun gas => (e20 gas).symm.trans (k4 gas).2
        subst hx
        replace h := gnI h rfl
        replace h := goI h rfl
        have k2' : pc' = pc ∨ (0 ≤ pc' + 1 ∧ pc' + 1 < code.size) := k2
        have k1' : mem'.size = t.size := k1
        have hpc2 : IntKind.i64.wrap (pc' + 1) = pc' + 1 := w8in (by omega) (by omega)
        refine .inr ⟨fun _ => es.take ((IntKind.i64.wrap ((es.length : Int) - T)).toNat - 0), mem', out', pc' + 1, stand', fun g => ⟨he.take _, by rw [List.length_take]; omega⟩, .inr fun _ _ => rfl, by omega, by omega, by omega, ?_, fun gas hg0 hg1 => ?_⟩
        · rcases k3 with k3 | k3 | ⟨k3, k5, hz3, hz4, hz5⟩
          · exact .inl k3
          · exact .inr (.inl k3)
          · have hz3' : (S.toList == bSTOP.toList) = false := hz3
            have hz4' : (S.toList == bRETURN.toList) = false := hz4
            have hz5' : (S.toList == bREVERT.toList) = false := hz5
            have hend := hend0 hz3' hz4' hz5'
            exact .inr (.inr ⟨k3, by omega, k5, by omega⟩)
        · rw [← hG ⟨gas, hg0, hg1⟩, ← hpc2]
          exact h ⟨gas, hg0, hg1⟩
      · have hx : x20 = fun gas => some (.ret (.tuple [bo false, bo false]), []) := funext fun gas => (e20 gas).symm.trans (k1 gas).2
        subst hx
        replace h := gnI h rfl
        replace h := gnI h rfl
        exact .inl fun gas hg0 hg1 => h ⟨gas, hg0, hg1⟩
theorem w16z {code inp mem out : ByteArray} {pc err : Int} {es : List (List AV)} (hc : code.size ≤ 2900) (hi : inp.size ≤ 65536) (hm : mem.size ≤ 4096) (he : AllU es) (hl : es.length ≤ 300) (hp0 : 0 ≤ pc) (hp2 : pc ≤ 3000) (hp1 : (code.size : Int) ≤ pc) : Steps code inp es mem pc err out := by
  obtain ⟨a0, a1, a2, a3, ha, ta⟩ := topE_u he 0
  obtain ⟨b0, b1, b2, b3, hb, tb⟩ := topE_u he 1
  obtain ⟨c0, c1, c2, c3, hcc, tc⟩ := topE_u he 2
  have hn : 0 < 256 := by omega
  obtain ⟨htk0, htk1, hly0, hly1, hgs0, hgs1⟩ := tab_rng hn
  have hcost0 := tab_cost hn
  have hend0 := @tab_end 0
  have hgas0 := @tab_gas _ hn
  have e11 := k62 0
  have e12 := k64 0
  have e18 := k69 0
  obtain ⟨S, hS⟩ : ∃ S, nm 0 = S := ⟨_, rfl⟩
  obtain ⟨T, hT⟩ : ∃ T, tk 0 = T := ⟨_, rfl⟩
  obtain ⟨L, hL⟩ : ∃ L, ly 0 = L := ⟨_, rfl⟩
  obtain ⟨G, hGs⟩ : ∃ G, gs 0 = G := ⟨_, rfl⟩
  rw [hS] at e11 hcost0 hend0 hgas0
  rw [hT] at e12 htk0 htk1
  rw [hL] at e12 hly0 hly1
  rw [hGs] at e18 hgs0 hgs1 hcost0
  have hM : ∀ gas, (⟨code, inp, mem, out, pc, gas, 0, err, ((0 : Nat) : Int), a0, a1, a2, a3, b0, b1, b2, b3, c0, c1, c2, c3⟩ : Ms).In := fun gas => ⟨⟨0, hn, rfl⟩, hc, hi, hm, ha, hb, hcc⟩
  obtain ⟨p0, p1, p2, p3, q0, q1, q2, q3, hp, hq, os16, e16⟩ := k66 (es := es) (hM 0)
  obtain ⟨t, gc, ge, e17, hgc0, hgc1, ht1, ht2, hgr⟩ := w67 hm hp hq
  have hMt : ∀ gas, (⟨code, inp, t, out, pc, gas, 0, err, ((0 : Nat) : Int), a0, a1, a2, a3, b0, b1, b2, b3, c0, c1, c2, c3⟩ : Ms).In := fun gas => ⟨⟨0, hn, rfl⟩, hc, hi, ht1, ha, hb, hcc⟩
  obtain ⟨x19, e19⟩ : ∃ x, ∀ gas : Int, v70 [.ptr 0 0, U q0 q1 q2 q3] [.cells (Mc code inp (.sl 4 es) mem pc gas 0 err out ((0 : Nat) : Int) a0 a1 a2 a3 b0 b1 b2 b3 c0 c1 c2 c3)] = x := ⟨r70 [.ptr 0 0, U q0 q1 q2 q3] [.cells (Mc code inp (.sl 4 es) mem pc 0 0 err out ((0 : Nat) : Int) a0 a1 a2 a3 b0 b1 b2 b3 c0 c1 c2 c3)], fun gas => rfl⟩
  obtain ⟨x20, e20⟩ : ∃ x : Int → RE, ∀ gas : Int, v75 [.ptr 0 0] [.cells (Mc code inp (.sref 1 0 ((IntKind.i64.wrap ((es.length : Int) - T)).toNat - 0)) t pc gas 0 err out ((0 : Nat) : Int) a0 a1 a2 a3 b0 b1 b2 b3 c0 c1 c2 c3), .row 4 es] = x gas := ⟨_, fun gas => rfl⟩
  have h : ∀ gas : Int, r16 [FrA code inp es mem pc gas 0 err out] [] = _ := fun gas => (q16 _ _).trans (T16 p62 v62 p63 p64 v64 p65 v65 p66 v66 p67 v67 p68 p69 v69 p70 v70 p71 p72 v72 p73 p74 v74 p75 v75 code inp mem out pc gas 0 err es _ fin
    _ e11 _ e12 _ (k65 (k := 0) ta rfl) _ (k65 (k := 1) tb rfl) _ (k65 (k := 2) tc rfl) _ (e16 gas) _ e17 _ e18 _ (e19 gas) _ (e20 _) _ rfl _ rfl _ rfl _ rfl _ rfl _ rfl _ rfl _ rfl _ rfl _ rfl _ rfl _ rfl)
  replace h := gnG h rfl
  replace h := goG h (ile_t' hp0)
  replace h := gnG h (by rw [ilt_eq]; exact decide_eq_false (by omega))
  replace h := goG h (gd_t ⟨0, hn, rfl, rfl⟩)
  rcases spG h with ⟨s1, h⟩ | ⟨_, h⟩
  rotate_left
  · exact .inl ⟨21, by decide, goG h (gd_t ⟨_, _, rfl, rfl⟩)⟩
  replace h := goG h (gd_t ⟨_, _, rfl, rfl⟩)
  rcases spG h with ⟨s2, h⟩ | ⟨_, h⟩
  rotate_left
  · exact .inl ⟨21, by decide, h⟩
  replace h := goG h (gd_t ⟨0, hn, rfl, rfl⟩)
  rcases spG h with ⟨s3, h⟩ | ⟨_, h⟩
  rotate_left
  · exact .inl ⟨19, by decide, goG h (gd_t ⟨_, _, rfl, rfl⟩)⟩
  replace h := goG h (gd_t ⟨_, _, rfl, rfl⟩)
  rcases spG h with ⟨s4, h⟩ | ⟨_, h⟩
  rotate_left
  · exact .inl ⟨19, by decide, h⟩
  replace h := goA h (fun g => gd_t ⟨⟨code, inp, mem, out, pc, g, 0, err, ((0 : Nat) : Int), 0, 0, 0, 0, 0, 0, 0, 0, 0, 0, 0, 0⟩, es, 0, rfl, rfl, he, by omega, by omega⟩)
  replace h := goA h (fun g => gd_t ⟨⟨code, inp, mem, out, pc, g, 0, err, ((0 : Nat) : Int), 0, 0, 0, 0, 0, 0, 0, 0, 0, 0, 0, 0⟩, es, 1, rfl, rfl, he, by omega, by omega⟩)
  replace h := goA h (fun g => gd_t ⟨⟨code, inp, mem, out, pc, g, 0, err, ((0 : Nat) : Int), 0, 0, 0, 0, 0, 0, 0, 0, 0, 0, 0, 0⟩, es, 2, rfl, rfl, he, by omega, by omega⟩)
  replace h := goA h (fun g => gd_t ⟨⟨code, inp, mem, out, pc, g, 0, err, ((0 : Nat) : Int), a0, a1, a2, a3, b0, b1, b2, b3, c0, c1, c2, c3⟩, es, rfl, rfl, he, hM g⟩)
  replace h := goG h (gd_t ⟨mem, p0, p1, p2, p3, q0, q1, q2, q3, rfl, rfl, hm, hp, hq⟩)
  replace h := goG h (gd_t ⟨_, _, rfl, rfl⟩)
  rcases spG h with ⟨s5, h⟩ | ⟨_, h⟩
  rotate_left
  · exact .inl ⟨3, by decide, h⟩
  replace h := goG h (gd_t ⟨0, hn, rfl, rfl⟩)
  have hq0 : 0 ≤ q0 ∧ q0 ≤ 1048576 := by
    have h5 : (ge == 0) = true := s5
    have h6 := hgr (by simpa using h5)
    obtain ⟨⟨_, _⟩, ⟨_, _⟩, ⟨_, _⟩, ⟨_, _⟩⟩ := hp
    obtain ⟨⟨_, _⟩, ⟨_, _⟩, ⟨_, _⟩, ⟨_, _⟩⟩ := hq
    unfold val at h6
    by_cases hv : q0 + 18446744073709551616 * q1 + 340282366920938463463374607431768211456 * q2 + 6277101735386680763835789423207666416102355444464034512896 * q3 = 0
    · omega
    · omega
  replace h := goA h (fun g => gd_t ⟨⟨code, inp, mem, out, pc, g, 0, err, ((0 : Nat) : Int), a0, a1, a2, a3, b0, b1, b2, b3, c0, c1, c2, c3⟩, es, q0, q1, q2, q3, rfl, rfl, he, hM g, hq0.1, hq0.2⟩)
  obtain ⟨c19, hc0, hc1, os19, h19⟩ := k70 (es := es) (n1 := q1) (n2 := q2) (n3 := q3) (hM 0) hq0.1 hq0.2
  obtain rfl := (e19 0).symm.trans (h19 0)
  clear e19 h19 e16 e17
  replace h := goA h (fun g => gd_t ⟨⟨code, inp, mem, out, pc, g, 0, err, ((0 : Nat) : Int), a0, a1, a2, a3, b0, b1, b2, b3, c0, c1, c2, c3⟩, es, _, rfl, rfl, he⟩)
  have hC : (IntKind.i64.wrap (IntKind.i64.wrap (G + gc) + c19)) = G + gc + c19 := by rw [w8in (n := G + gc) (by omega) (by omega), w8in (by omega) (by omega)]
  refine .inr ⟨G + gc + c19, by omega, by omega, fun gas hg => gn (h gas) (by show ile (IntKind.i64.wrap (IntKind.i64.wrap (G + gc) + c19)) gas = false; rw [hC]; exact ile_f' hg), ?_⟩
  replace h : ∀ g : {g : Int // G + gc + c19 ≤ g ∧ g ≤ 1099511627776}, r16 [FrA code inp es mem pc g.1 0 err out] [] = _ := fun g => go (h g.1) (by show ile (IntKind.i64.wrap (IntKind.i64.wrap (G + gc) + c19)) g.1 = true; rw [hC]; exact ile_t' g.2.1)
  have hG : ∀ g : {g : Int // G + gc + c19 ≤ g ∧ g ≤ 1099511627776}, IntKind.i64.wrap (g.1 - (IntKind.i64.wrap (IntKind.i64.wrap (G + gc) + c19))) = g.1 - (G + gc + c19) := fun g => by rw [hC]; exact w8in (by have := g.2; omega) (by have := g.2; omega)
  replace h := goI h (gd_t ⟨es, rfl, rfl, he, by omega⟩)
  have htk : T ≤ es.length := by
    have h3 : ile (T) (es.length : Int) = true := s3
    rw [ile_eq] at h3; exact of_decide_eq_true h3
  have hpc1 : IntKind.i64.wrap (pc + 1) = pc + 1 := w8in (by omega) (by omega)
  have hWt : IntKind.i64.wrap ((es.length : Int) - T) = (es.length : Int) - T := w8in (by omega) (by omega)
  have hN1 : ((IntKind.i64.wrap ((es.length : Int) - T)).toNat - 0) ≤ es.length := by rw [hWt]; omega
  have hs4 : ile (IntKind.i64.wrap (IntKind.i64.wrap ((es.length : Int) - T) + L)) 256 = true := s4
  rw [hWt, w8in (by omega) (by omega), ile_eq, decide_eq_true_eq] at hs4
  have hnm1 : (S.toList == (ByteArray.mk #[]).toList) = false := by
    have h3 : (!(S.toList == (ByteArray.mk #[]).toList)) = true := s1
    simpa using h3
  have hnm2 : (S.toList == (ByteArray.mk #[73, 78, 86, 65, 76, 73, 68]).toList) = false := by
    have h3 : (!(S.toList == (ByteArray.mk #[73, 78, 86, 65, 76, 73, 68]).toList)) = true := s2
    simpa using h3
  have hcost := hcost0 hnm1 hnm2
  clear s1 s2 s3 s5 hgr
  replace h := goI h (dec2 (by show 0 ≤ IntKind.i64.wrap ((es.length : Int) - T); rw [hWt]; omega) (by show IntKind.i64.wrap ((es.length : Int) - T) ≤ (es.length : Int); rw [hWt]; omega))
  replace h := giI h (fun g => gd_t ⟨⟨code, inp, t, out, pc, _, 0, err, ((0 : Nat) : Int), a0, a1, a2, a3, b0, b1, b2, b3, c0, c1, c2, c3⟩, es, ((IntKind.i64.wrap ((es.length : Int) - T)).toNat - 0), rfl, rfl, hMt _, he, hN1, by omega⟩)
  have kk := k75 (es := es) (n := ((IntKind.i64.wrap ((es.length : Int) - T)).toNat - 0)) (hMt 0) he hN1 (by omega)
  rw [show nm (Ms.op ⟨code, inp, t, out, pc, 0, 0, err, ((0 : Nat) : Int), a0, a1, a2, a3, b0, b1, b2, b3, c0, c1, c2, c3⟩).toNat = S from (congrArg nm (Int.toNat_natCast _)).trans hS] at kk
  rcases kk with ⟨z, hz1, hz2, hz3, hz4, hz5, hz6⟩ | ⟨mem', out', pc', stand', k1, k2, k3, k4⟩ | k1
  · have hx : x20 = fun gas => some (.ret (.tuple [bo true, bo true, .agg (z gas), st .empty, i64 0, i64 0, st .empty]), []) := funext fun gas => (e20 gas).symm.trans (hz6 gas).2
    subst hx
    have hgz : (S.toList == bGAS.toList) = true ∨ ∀ g g', z g = z g' := hz2
    have hz3' : (S.toList == bSTOP.toList) = false := hz3
    have hz4' : (S.toList == bRETURN.toList) = false := hz4
    have hz5' : (S.toList == bREVERT.toList) = false := hz5
    have hend := hend0 hz3' hz4' hz5'
    replace h := goI h rfl
    refine .inr ⟨fun g => es.take ((IntKind.i64.wrap ((es.length : Int) - T)).toNat - 0) ++ [z (IntKind.i64.wrap (g - (IntKind.i64.wrap (IntKind.i64.wrap (G + gc) + c19))))], t, out, pc + 1, 0, fun g => ⟨(he.take _).app (hz1 _), by rw [List.length_append, List.length_take, List.length_singleton]; omega⟩, ?_, ht1, by omega, by omega, .inr (.inr ⟨rfl, by omega, rfl, by omega⟩), fun gas hg0 hg1 => ?_⟩
    · rcases hgz with hgz | hgz
      · exact absurd (hgas0 hgz) (by omega)
      · exact .inr fun g g' => congrArg (fun w => es.take ((IntKind.i64.wrap ((es.length : Int) - T)).toNat - 0) ++ [w]) (hgz _ _)
    · obtain ⟨y0, y1, y2, y3, _, hy⟩ := hz1 (IntKind.i64.wrap (gas - (IntKind.i64.wrap (IntKind.i64.wrap (G + gc) + c19))))
      rw [← hG ⟨gas, hg0, hg1⟩, ← hpc1]
      refine (h ⟨gas, hg0, hg1⟩).trans ?_
      show some (AEnd.ret (.agg (Fr code inp (.sl 4 (es.take ((IntKind.i64.wrap ((es.length : Int) - T)).toNat - 0) ++ [tu4 (z (IntKind.i64.wrap (gas - (IntKind.i64.wrap (IntKind.i64.wrap (G + gc) + c19)))))])) t _ _ 0 err out)), _) = some (AEnd.ret (.agg (Fr code inp (.sl 4 (es.take ((IntKind.i64.wrap ((es.length : Int) - T)).toNat - 0) ++ [z (IntKind.i64.wrap (gas - (IntKind.i64.wrap (IntKind.i64.wrap (G + gc) + c19))))])) t _ _ 0 err out)), _)
      rw [hy]; rfl
  · have hx : x20 = fun gas => some (.ret (.tuple [bo false, bo true, J, st mem', i64 pc', i64 stand', st out']), []) := funext fun gas => (e20 gas).symm.trans (k4 gas).2
    subst hx
    replace h := gnI h rfl
    replace h := goI h rfl
    have k2' : pc' = pc ∨ (0 ≤ pc' + 1 ∧ pc' + 1 < code.size) := k2
    have k1' : mem'.size = t.size := k1
    have hpc2 : IntKind.i64.wrap (pc' + 1) = pc' + 1 := w8in (by omega) (by omega)
    refine .inr ⟨fun _ => es.take ((IntKind.i64.wrap ((es.length : Int) - T)).toNat - 0), mem', out', pc' + 1, stand', fun g => ⟨he.take _, by rw [List.length_take]; omega⟩, .inr fun _ _ => rfl, by omega, by omega, by omega, ?_, fun gas hg0 hg1 => ?_⟩
    · rcases k3 with k3 | k3 | ⟨k3, k5, hz3, hz4, hz5⟩
      · exact .inl k3
      · exact .inr (.inl k3)
      · have hz3' : (S.toList == bSTOP.toList) = false := hz3
        have hz4' : (S.toList == bRETURN.toList) = false := hz4
        have hz5' : (S.toList == bREVERT.toList) = false := hz5
        have hend := hend0 hz3' hz4' hz5'
        exact .inr (.inr ⟨k3, by omega, k5, by omega⟩)
    · rw [← hG ⟨gas, hg0, hg1⟩, ← hpc2]
      exact h ⟨gas, hg0, hg1⟩
  · have hx : x20 = fun gas => some (.ret (.tuple [bo false, bo false]), []) := funext fun gas => (e20 gas).symm.trans (k1 gas).2
    subst hx
    replace h := gnI h rfl
    replace h := gnI h rfl
    exact .inl fun gas hg0 hg1 => h ⟨gas, hg0, hg1⟩
end Go.Proofs.Vm
end
section
namespace Go.Proofs.Vm
open Go Go.Abs
set_option maxRecDepth 100000
set_option maxHeartbeats 1000000
structure FrIn (code inp : ByteArray) (es : List (List AV)) (mem : ByteArray) (pc gas stand : Int) : Prop where
  code : code.size ≤ 2900
  inp : inp.size ≤ 65536
  mem : mem.size ≤ 4096
  all : AllU es
  len : es.length ≤ 300
  pc0 : 0 ≤ pc
  pc1 : pc ≤ 3001
  pc2 : stand = 0 → pc ≤ 3000
  gas : gas ≤ 1099511627776
theorem w16 {code inp mem out : ByteArray} {pc err gas : Int} {es : List (List AV)} (h : FrIn code inp es mem pc gas 0) : Steps code inp es mem pc err out := by
  by_cases hp : pc < code.size
  · exact w16b h.code h.inp h.mem h.all h.len h.pc0 (h.pc2 rfl) hp
  · exact w16z h.code h.inp h.mem h.all h.len h.pc0 (h.pc2 rfl) (by omega)
theorem w16e (code inp mem out : ByteArray) (pc gas stand err : Int) (es : List (List AV)) (hs : stand ≠ 0) : r16 [FrA code inp es mem pc gas stand err out] [] = some (.ret (FrA code inp es mem pc gas stand err out), []) :=
  go ((q16 _ _).trans (T16 p62 v62 p63 p64 v64 p65 v65 p66 v66 p67 v67 p68 p69 v69 p70 v70 p71 p72 v72 p73 p74 v74 p75 v75 code inp mem out pc gas stand err es _ fin _ rfl _ rfl _ rfl _ rfl _ rfl _ rfl _ rfl _ rfl _ rfl _ rfl _ rfl _ rfl _ rfl _ rfl _ rfl _ rfl _ rfl _ rfl _ rfl _ rfl _ rfl _ rfl)) (by simpa using hs)
theorem x16 {code inp mem out : ByteArray} {pc gas stand err : Int} {es : List (List AV)} (h : FrIn code inp es mem pc gas stand) :
    ∃ (es' : List (List AV)) (mem' out' : ByteArray) (pc' gas' stand' err' : Int), FrIn code inp es' mem' pc' gas' stand' ∧ r16 [FrA code inp es mem pc gas stand err out] [] = some (.ret (FrA code inp es' mem' pc' gas' stand' err' out'), []) := by
  by_cases hs : stand = 0
  · subst hs
    have hw : ∀ e, Errs code inp es mem pc err out e gas → ∃ (es' : List (List AV)) (mem' out' : ByteArray) (pc' gas' stand' err' : Int), FrIn code inp es' mem' pc' gas' stand' ∧ r16 [FrA code inp es mem pc gas 0 err out] [] = some (.ret (FrA code inp es' mem' pc' gas' stand' err' out'), []) :=
      fun e he => ⟨es, mem, out, pc, 0, 3, e, ⟨h.code, h.inp, h.mem, h.all, h.len, h.pc0, h.pc1, (fun h => by cases h), by omega⟩, he⟩
    rcases w16 (err := err) (out := out) h with ⟨e, _, h1⟩ | ⟨c, hc0, hc1, h1, h2⟩
    · exact hw e (h1 gas)
    · by_cases hg : gas < c
      · exact hw 18 (h1 gas hg)
      · rcases h2 with h2 | ⟨es', mem', out', pc', stand', k1, k2, k3, k4, k5, k6, k7⟩
        · exact hw 20 (h2 gas (by omega) h.gas)
        · exact ⟨es' gas, mem', out', pc', gas - c, stand', err, ⟨h.code, h.inp, k3, (k1 gas).1, (k1 gas).2, k4, k5, fun e => by omega, by have := h.gas; omega⟩, k7 gas (by omega) h.gas⟩
  · exact ⟨es, mem, out, pc, gas, stand, err, h, w16e code inp mem out pc gas stand err es hs⟩
def frR (r : RE) : List AV := Fr (itm r 0).toStr (itm r 1).toStr (.sl 4 (itm r 2).toSl) (itm r 3).toStr (itm r 4).toInt (itm r 5).toInt (itm r 6).toInt (itm r 7).toInt (itm r 8).toStr
def S16 (v : RF) : ASpec := fun args os _ k => k (.ret (.agg (frR (v args os)))) os
def p16 (args : List AV) (os : List AObj) : Prop := ∃ code inp es mem pc gas stand err out, args = [FrA code inp es mem pc gas stand err out] ∧ os = [] ∧ FrIn code inp es mem pc gas stand
noncomputable def v16 : RF := r16
theorem okS16 : SpecOK P 16 (ask p16 (S16 v16)) := ok16.ask fun args os ⟨code, inp, es, mem, pc, gas, stand, err, out, e1, e2, h⟩ => by
  subst e1 e2
  obtain ⟨es', mem', out', pc', gas', stand', err', h1, h2⟩ := x16 (err := err) (out := out) h
  refine ⟨_, _, h2, ⟨a16, List.mem_singleton.2 rfl, okAlt_t rfl ?_ rfl⟩, fun X kk => ?_⟩
  · show okSs shF (Fr code inp (.sl 4 es') mem' pc' gas' stand' err' out') = true
    exact okSl h1.all rfl
  · unfold S16
    rw [show v16 _ _ = _ from h2]; rfl
end Go.Proofs.Vm
end
section
open Go Go.Abs
namespace Go.Proofs.Vm
set_option maxRecDepth 100000
set_option maxHeartbeats 0
noncomputable def E14_0 (p16 : List AV → List AObj → Prop) (v16 : RF) : Env := En 14 [(0, [6, 7], [6, 7])] [] [] [] [] [(16, ask p16 (S16 v16))]
noncomputable def a14_0 : BAlt := ⟨.normal, (sj 6 (.ptr 0 0 :: .ptr 1 0 :: sj 12 [])), [.cells [.str, .str, .nilS, .str, .int .i64, .int .i64, .int .i64, .int .i64, .str], .cells shF], []⟩
noncomputable def A14_0 : List BAlt := [a14_0]
noncomputable def h14_0 : RB := runB (blockRun (E14_0 p16 v16) (fun _ _ => 200000) 0)
theorem q14_0 (c : Code) (a : AAct) (os : List AObj) : h14_0 c a os = exec (E14_0 p16 v16) ((fun _ _ => 200000) a os) 0 (.block 0 c) a os _ finB := qB _ _ _ _ _ _
theorem k14_0 : blk Tryz.f14 0 = .loop (rnd Tryz.f14 0) := by kernel_rfl
theorem p14_0 (T : List AV) (os : List AObj) (F : Nat) (hF : (fun _ _ => 200000) (⟨T, [], 14, 0, false⟩ : AAct) os = F + 1) : h14_0 (blk Tryz.f14 0) ⟨T, [], 14, 0, false⟩ os = exec (E14_0 p16 v16) F 0 (.loop (rnd Tryz.f14 0)) ⟨T, [], 14, 0, false⟩ os _ (bK (E14_0 p16 v16) F 0 finB) := by
  rw [q14_0, hF, exec_block (by kernel_rfl), k14_0]
theorem okb14_0 : BlockOK P 14 0 (bShaped A14_0 [] (some [6, 7]) h14_0) := by
  unfold h14_0 E14_0
  refine okBl _ ?_ ?_ ?_ _ _ _
  · exact (tcons okS16 tnil)
  · exact trivial
  · exact hnil
theorem TL14_0r (p16 : List AV → List AObj → Prop) (v16 : RF) (code inp : ByteArray) (gas : Int) (d m : Nat) (L : AAct → List AObj → ∀ X : Type, (AExit → AAct → List AObj → Option X) → Option X) (X : Type) (k : AExit → AAct → List AObj → Option X)
    (x1 : RE) (e1 : v16 [AV.agg [st code, st inp, AV.sl 4 [], st (ByteArray.mk #[]), i64 0, i64 gas, i64 0, i64 0, st (ByteArray.mk #[])]] [] = x1) :
    roundL (E14_0 p16 v16) (d + 59) 0 (rnd Tryz.f14 0) L ⟨(jn 6 (.ptr 0 0 :: .ptr 1 0 :: jn 12 [])), [], 14, 0, false⟩ [.cells (Fr e0 e0 (.v (.slice none 0 0)) e0 0 0 0 0 e0), .cells (Fr code inp (.v (.slice none 0 0)) e0 0 gas 0 0 e0)] X (bK (E14_0 p16 v16) (m + 60) 0 k) =
    bif gd (p16 [AV.agg [st code, st inp, AV.sl 4 [], st (ByteArray.mk #[]), i64 0, i64 gas, i64 0, i64 0, st (ByteArray.mk #[])]] []) then L { tmps := (jn 6 (AV.ptr 0 0 :: AV.ptr 1 0 :: jn 12 [])), defers := [], fn := 14, foot := 0, round := false } [AObj.cells [st (ByteArray.mk #[]), st (ByteArray.mk #[]), AV.v (Value.slice none 0 0), st (ByteArray.mk #[]), i64 0, i64 0, i64 0, i64 0, st (ByteArray.mk #[])], AObj.cells [st ((rV x1).items.getD 0 J).toStr, st ((rV x1).items.getD 1 J).toStr, AV.sl 4 ((rV x1).items.getD 2 J).toSl, st ((rV x1).items.getD 3 J).toStr, i64 ((rV x1).items.getD 4 J).toInt, i64 ((rV x1).items.getD 5 J).toInt, i64 ((rV x1).items.getD 6 J).toInt, i64 ((rV x1).items.getD 7 J).toInt, st ((rV x1).items.getD 8 J).toStr]] X (bK (E14_0 p16 v16) (m + 60) 0 k) else none := by subst e1; kernel_rfl
theorem T14_0r (p16 : List AV → List AObj → Prop) (v16 : RF) (code inp : ByteArray) (gas : Int) (d m : Nat) (X : Type) (k : AExit → AAct → List AObj → Option X)
    (x1 : RE) (e1 : v16 [AV.agg [st code, st inp, AV.sl 4 [], st (ByteArray.mk #[]), i64 0, i64 gas, i64 0, i64 0, st (ByteArray.mk #[])]] [] = x1) :
    exec (E14_0 p16 v16) (d + 60) 0 (.loop (rnd Tryz.f14 0)) ⟨(jn 6 (.ptr 0 0 :: .ptr 1 0 :: jn 12 [])), [], 14, 0, false⟩ [.cells (Fr e0 e0 (.v (.slice none 0 0)) e0 0 0 0 0 e0), .cells (Fr code inp (.v (.slice none 0 0)) e0 0 gas 0 0 e0)] X (bK (E14_0 p16 v16) (m + 60) 0 k) =
    bif gd (p16 [AV.agg [st code, st inp, AV.sl 4 [], st (ByteArray.mk #[]), i64 0, i64 gas, i64 0, i64 0, st (ByteArray.mk #[])]] []) then exec (E14_0 p16 v16) (d + 59) 0 (.loop (rnd Tryz.f14 0)) { tmps := (jn 6 (AV.ptr 0 0 :: AV.ptr 1 0 :: jn 12 [])), defers := [], fn := 14, foot := 0, round := false } [AObj.cells [st (ByteArray.mk #[]), st (ByteArray.mk #[]), AV.v (Value.slice none 0 0), st (ByteArray.mk #[]), i64 0, i64 0, i64 0, i64 0, st (ByteArray.mk #[])], AObj.cells [st ((rV x1).items.getD 0 J).toStr, st ((rV x1).items.getD 1 J).toStr, AV.sl 4 ((rV x1).items.getD 2 J).toSl, st ((rV x1).items.getD 3 J).toStr, i64 ((rV x1).items.getD 4 J).toInt, i64 ((rV x1).items.getD 5 J).toInt, i64 ((rV x1).items.getD 6 J).toInt, i64 ((rV x1).items.getD 7 J).toInt, st ((rV x1).items.getD 8 J).toStr]] X (bK (E14_0 p16 v16) (m + 60) 0 k) else none := (exec_loop _ _ _ _ _ _ _ _).trans (TL14_0r p16 v16 code inp gas d m (fun a os X k => exec (E14_0 p16 v16) (d + 59) 0 (.loop (rnd Tryz.f14 0)) a os X k) X k _ e1)
theorem TL14_0s (p16 : List AV → List AObj → Prop) (v16 : RF) (code inp mem out : ByteArray) (pc gas stand err : Int) (es : List (List AV)) (d m : Nat) (L : AAct → List AObj → ∀ X : Type, (AExit → AAct → List AObj → Option X) → Option X) (X : Type) (k : AExit → AAct → List AObj → Option X)
    (x1 : RE) (e1 : v16 [AV.agg [st code, st inp, AV.sl 4 es, st mem, i64 pc, i64 gas, i64 stand, i64 err, st out]] [] = x1) :
    roundL (E14_0 p16 v16) (d + 59) 0 (rnd Tryz.f14 0) L ⟨(jn 6 (.ptr 0 0 :: .ptr 1 0 :: jn 12 [])), [], 14, 0, false⟩ [.cells (Fr e0 e0 (.v (.slice none 0 0)) e0 0 0 0 0 e0), .cells (Fr code inp (.sl 4 es) mem pc gas stand err out)] X (bK (E14_0 p16 v16) (m + 60) 0 k) =
    bif stand == 0 then bif gd (p16 [AV.agg [st code, st inp, AV.sl 4 es, st mem, i64 pc, i64 gas, i64 stand, i64 err, st out]] []) then L { tmps := (jn 6 (AV.ptr 0 0 :: AV.ptr 1 0 :: jn 12 [])), defers := [], fn := 14, foot := 0, round := false } [AObj.cells [st (ByteArray.mk #[]), st (ByteArray.mk #[]), AV.v (Value.slice none 0 0), st (ByteArray.mk #[]), i64 0, i64 0, i64 0, i64 0, st (ByteArray.mk #[])], AObj.cells [st ((rV x1).items.getD 0 J).toStr, st ((rV x1).items.getD 1 J).toStr, AV.sl 4 ((rV x1).items.getD 2 J).toSl, st ((rV x1).items.getD 3 J).toStr, i64 ((rV x1).items.getD 4 J).toInt, i64 ((rV x1).items.getD 5 J).toInt, i64 ((rV x1).items.getD 6 J).toInt, i64 ((rV x1).items.getD 7 J).toInt, st ((rV x1).items.getD 8 J).toStr]] X (bK (E14_0 p16 v16) (m + 60) 0 k) else none else k AExit.normal { tmps := (jn 6 (AV.ptr 0 0 :: AV.ptr 1 0 :: jn 12 [])), defers := [], fn := 14, foot := 0, round := false } [AObj.cells [st (ByteArray.mk #[]), st (ByteArray.mk #[]), AV.v (Value.slice none 0 0), st (ByteArray.mk #[]), i64 0, i64 0, i64 0, i64 0, st (ByteArray.mk #[])], AObj.cells [st code, st inp, AV.sl 4 es, st mem, i64 pc, i64 gas, i64 stand, i64 err, st out]] := by subst e1; kernel_rfl
theorem T14_0s (p16 : List AV → List AObj → Prop) (v16 : RF) (code inp mem out : ByteArray) (pc gas stand err : Int) (es : List (List AV)) (d m : Nat) (X : Type) (k : AExit → AAct → List AObj → Option X)
    (x1 : RE) (e1 : v16 [AV.agg [st code, st inp, AV.sl 4 es, st mem, i64 pc, i64 gas, i64 stand, i64 err, st out]] [] = x1) :
    exec (E14_0 p16 v16) (d + 60) 0 (.loop (rnd Tryz.f14 0)) ⟨(jn 6 (.ptr 0 0 :: .ptr 1 0 :: jn 12 [])), [], 14, 0, false⟩ [.cells (Fr e0 e0 (.v (.slice none 0 0)) e0 0 0 0 0 e0), .cells (Fr code inp (.sl 4 es) mem pc gas stand err out)] X (bK (E14_0 p16 v16) (m + 60) 0 k) =
    bif stand == 0 then bif gd (p16 [AV.agg [st code, st inp, AV.sl 4 es, st mem, i64 pc, i64 gas, i64 stand, i64 err, st out]] []) then exec (E14_0 p16 v16) (d + 59) 0 (.loop (rnd Tryz.f14 0)) { tmps := (jn 6 (AV.ptr 0 0 :: AV.ptr 1 0 :: jn 12 [])), defers := [], fn := 14, foot := 0, round := false } [AObj.cells [st (ByteArray.mk #[]), st (ByteArray.mk #[]), AV.v (Value.slice none 0 0), st (ByteArray.mk #[]), i64 0, i64 0, i64 0, i64 0, st (ByteArray.mk #[])], AObj.cells [st ((rV x1).items.getD 0 J).toStr, st ((rV x1).items.getD 1 J).toStr, AV.sl 4 ((rV x1).items.getD 2 J).toSl, st ((rV x1).items.getD 3 J).toStr, i64 ((rV x1).items.getD 4 J).toInt, i64 ((rV x1).items.getD 5 J).toInt, i64 ((rV x1).items.getD 6 J).toInt, i64 ((rV x1).items.getD 7 J).toInt, st ((rV x1).items.getD 8 J).toStr]] X (bK (E14_0 p16 v16) (m + 60) 0 k) else none else k AExit.normal { tmps := (jn 6 (AV.ptr 0 0 :: AV.ptr 1 0 :: jn 12 [])), defers := [], fn := 14, foot := 0, round := false } [AObj.cells [st (ByteArray.mk #[]), st (ByteArray.mk #[]), AV.v (Value.slice none 0 0), st (ByteArray.mk #[]), i64 0, i64 0, i64 0, i64 0, st (ByteArray.mk #[])], AObj.cells [st code, st inp, AV.sl 4 es, st mem, i64 pc, i64 gas, i64 stand, i64 err, st out]] := (exec_loop _ _ _ _ _ _ _ _).trans (TL14_0s p16 v16 code inp mem out pc gas stand err es d m (fun a os X k => exec (E14_0 p16 v16) (d + 59) 0 (.loop (rnd Tryz.f14 0)) a os X k) X k _ e1)
noncomputable def E14 (h14_0 : RB) : Env := En 14 [] [] [] [(0, bShaped A14_0 [] (some [6, 7]) h14_0)] [] []
noncomputable def a14 : Alt := ⟨false, .agg shF, []⟩
noncomputable def A14 : List Alt := [a14]
theorem T14 (h14_0 : RB) (code inp : ByteArray) (gas : Int) (X : Type) (k : AEnd → List AObj → Option X)
    (x1 : RBE) (e1 : h14_0 (blk Tryz.f14 0) { tmps := (jn 6 (AV.ptr 0 0 :: AV.ptr 1 0 :: jn 12 [])), defers := [], fn := 14, foot := 0, round := false } [AObj.cells [st (ByteArray.mk #[]), st (ByteArray.mk #[]), AV.v (Value.slice none 0 0), st (ByteArray.mk #[]), i64 0, i64 0, i64 0, i64 0, st (ByteArray.mk #[])], AObj.cells [st code, st inp, AV.v (Value.slice none 0 0), st (ByteArray.mk #[]), i64 0, i64 (bif decide ((bif decide (100000 < gas) then 100000 else gas) > 0) then bif decide (100000 < gas) then 100000 else gas else 0), i64 0, i64 0, st (ByteArray.mk #[])]] = x1) :
    body (E14 h14_0) 60 14 Tryz.f14 (cod Tryz.f14) [st code, st inp, i64 gas] [] X k =
    bif okB a14_0 14 0 false x1 then k (.ret (AV.agg [st (((bOs x1).getD 1 AObj.dead).cellsOf.getD 0 J).toStr, st (((bOs x1).getD 1 AObj.dead).cellsOf.getD 1 J).toStr, AV.sl 4 (List.map (fun e => rebs [sh6, sh6, sh6, sh6] e 0) (((bOs x1).getD 1 AObj.dead).cellsOf.getD 2 J).toSl), st (((bOs x1).getD 1 AObj.dead).cellsOf.getD 3 J).toStr, i64 (((bOs x1).getD 1 AObj.dead).cellsOf.getD 4 J).toInt, i64 (((bOs x1).getD 1 AObj.dead).cellsOf.getD 5 J).toInt, i64 (((bOs x1).getD 1 AObj.dead).cellsOf.getD 6 J).toInt, i64 (((bOs x1).getD 1 AObj.dead).cellsOf.getD 7 J).toInt, st (((bOs x1).getD 1 AObj.dead).cellsOf.getD 8 J).toStr])) [] else none := by subst e1; kernel_rfl
noncomputable def r14 : RF := runR (body (E14 h14_0) 60 14 Tryz.f14 (cod Tryz.f14))
theorem q14 (args : List AV) (os : List AObj) : r14 args os = body (E14 h14_0) 60 14 Tryz.f14 (cod Tryz.f14) args os _ fin := qR _ _ _
theorem ok14 : SpecOK P 14 (shaped A14 r14) := by
  unfold r14 E14
  refine okF 60 ?_ ?_ ?_ Tryz.func14 ?_ ?_ _
  · exact tnil
  · exact trivial
  · exact (hcons okb14_0 hnil)
  · kernel_rfl
  · kernel_rfl
end Go.Proofs.Vm
end
section
namespace Go.Proofs.Vm
open Go Go.Abs
set_option maxRecDepth 100000
set_option maxHeartbeats 1000000
structure Fm where
  (code inp : ByteArray) (es : List (List AV)) (mem : ByteArray) (pc gas stand err : Int) (out : ByteArray)
abbrev Fm.cs (f : Fm) : List AV := Fr f.code f.inp (.sl 4 f.es) f.mem f.pc f.gas f.stand f.err f.out
abbrev Fm.av (f : Fm) : AV := .agg f.cs
abbrev Fm.In (f : Fm) : Prop := FrIn f.code f.inp f.es f.mem f.pc f.gas f.stand
def fmR (r : RE) : Fm := ⟨(itm r 0).toStr, (itm r 1).toStr, (itm r 2).toSl, (itm r 3).toStr, (itm r 4).toInt, (itm r 5).toInt, (itm r 6).toInt, (itm r 7).toInt, (itm r 8).toStr⟩
noncomputable def stepF (f : Fm) : Fm := fmR (r16 [f.av] [])
theorem stepF_of {f g : Fm} (h : r16 [f.av] [] = some (.ret g.av, [])) : stepF f = g := by
  unfold stepF; rw [h]; rfl
theorem stepF_end {f : Fm} (h : f.stand ≠ 0) : stepF f = f := stepF_of (w16e _ _ _ _ _ _ _ _ _ h)
theorem stepF_ok {f : Fm} (h : f.In) : r16 [f.av] [] = some (.ret (stepF f).av, []) ∧ (stepF f).In ∧ (stepF f).code = f.code ∧ (stepF f).inp = f.inp := by
  obtain ⟨es', mem', out', pc', gas', stand', err', h1, h2⟩ := x16 (err := f.err) (out := f.out) h
  have := stepF_of (g := ⟨f.code, f.inp, es', mem', pc', gas', stand', err', out'⟩) h2
  rw [this]
  exact ⟨h2, h1, rfl, rfl⟩
noncomputable def runF : Nat → Fm → Fm
  | 0, f => f
  | n + 1, f => runF n (stepF f)
theorem runF_end {f : Fm} (h : f.stand ≠ 0) : ∀ n, runF n f = f
  | 0 => rfl
  | n + 1 => by rw [runF, stepF_end h]; exact runF_end h n
theorem runF_In : ∀ (n : Nat) {f : Fm}, f.In → (runF n f).In
  | 0, _, h => h
  | n + 1, _, h => runF_In n (stepF_ok h).2.1
theorem runF_add : ∀ (n m : Nat) (f : Fm), runF (n + m) f = runF m (runF n f)
  | 0, m, f => by rw [Nat.zero_add]; rfl
  | n + 1, m, f => by rw [Nat.succ_add]; exact runF_add n m (stepF f)
theorem runF_more {n m : Nat} {f : Fm} (h : (runF n f).stand ≠ 0) (hm : n ≤ m) : runF m f = runF n f := by
  obtain ⟨k, rfl⟩ := Nat.exists_eq_add_of_le hm
  rw [runF_add, runF_end h]
theorem stepF_cases {f : Fm} (h : f.In) (h0 : f.stand = 0) :
    (∃ e, e ≠ 0 ∧ ∀ g, stepF { f with gas := g } = { f with gas := 0, stand := 3, err := e }) ∨
    ∃ c : Int, 0 ≤ c ∧ (∀ g, g < c → stepF { f with gas := g } = { f with gas := 0, stand := 3, err := 18 }) ∧
      ((∀ g, c ≤ g → g ≤ 1099511627776 → stepF { f with gas := g } = { f with gas := 0, stand := 3, err := 20 }) ∨
       ∃ (es' : Int → List (List AV)) (mem' out' : ByteArray) (pc' stand' : Int), (hasGas f.code ∨ ∀ g g', es' g = es' g') ∧ (stand' = 1 ∨ stand' = 2 ∨ stand' = 0 ∧ 1 ≤ c ∧ out' = f.out) ∧
         ∀ g, c ≤ g → g ≤ 1099511627776 → stepF { f with gas := g } = { f with es := es' g, mem := mem', pc := pc', gas := g - c, stand := stand', out := out' }) := by
  obtain ⟨code, inp, es, mem, pc, gas, stand, err, out⟩ := f
  obtain rfl : stand = 0 := h0
  rcases w16 (err := err) (out := out) (gas := gas) h with ⟨e, he, h1⟩ | ⟨c, hc0, hc1, h1, h2⟩
  · exact .inl ⟨e, he, fun g => stepF_of (g := ⟨_, _, _, _, _, _, _, _, _⟩) (h1 g)⟩
  · refine .inr ⟨c, hc0, fun g hg => stepF_of (g := ⟨_, _, _, _, _, _, _, _, _⟩) (h1 g hg), ?_⟩
    rcases h2 with h2 | ⟨es', mem', out', pc', stand', k1, k2, k3, k4, k5, k6, k7⟩
    · exact .inl fun g hg hg' => stepF_of (g := ⟨_, _, _, _, _, _, _, _, _⟩) (h2 g hg hg')
    · refine .inr ⟨es', mem', out', pc', stand', k2, ?_, fun g hg hg' => stepF_of (g := ⟨_, _, _, _, _, _, _, _, _⟩) (k7 g hg hg')⟩
      rcases k6 with k6 | k6 | ⟨k6, k7, k8, _⟩
      · exact .inl k6
      · exact .inr (.inl k6)
      · exact .inr (.inr ⟨k6, k7, k8⟩)
def EndOK (f : Fm) (g : Fm) : Prop := (g.stand = 1 ∨ g.stand = 2 ∨ g.stand = 3) ∧ 0 ≤ g.gas ∧ g.gas ≤ f.gas ∧ (g.stand = 3 ↔ g.err ≠ 0) ∧ (g.stand = 3 → g.gas = 0 ∧ g.out = ByteArray.empty)
theorem runF_ends : ∀ (n : Nat) {f : Fm}, f.In → f.stand = 0 → f.err = 0 → f.out = ByteArray.empty → 0 ≤ f.gas → f.gas < n → EndOK f (runF n f) := by
  intro n
  induction n with
  | zero => intro f _ _ _ _ h1 h2; omega
  | succ n ih =>
    intro f h h0 he ho hg0 hg
    have hgas := h.gas
    have hend : ∀ {g : Fm} {e : Int}, e ≠ 0 → stepF f = { f with gas := 0, stand := 3, err := e } → EndOK f (runF (n + 1) f) := by
      intro g e hne heq
      have h3 : (stepF f).stand ≠ 0 := by rw [heq]; show (3 : Int) ≠ 0; decide
      rw [runF, runF_end h3, heq]
      exact ⟨.inr (.inr rfl), Int.le_refl 0, hg0, ⟨fun _ => hne, fun _ => rfl⟩, fun _ => ⟨rfl, ho⟩⟩
    rcases stepF_cases h h0 with ⟨e, hne, h1⟩ | ⟨c, hc0, h1, h2⟩
    · exact hend (g := f) hne (h1 f.gas)
    · by_cases hlt : f.gas < c
      · exact hend (g := f) (by decide) (h1 f.gas hlt)
      · rcases h2 with h2 | ⟨es', mem', out', pc', stand', _, k6, k7⟩
        · exact hend (g := f) (by decide) (h2 f.gas (by omega) hgas)
        · have heq : stepF f = { f with es := es' f.gas, mem := mem', pc := pc', gas := f.gas - c, stand := stand', out := out' } := k7 f.gas (by omega) hgas
          have hin := (stepF_ok h).2.1
          rcases k6 with k6 | k6 | ⟨k6, k8, k9⟩
          · have h3 : (stepF f).stand ≠ 0 := by rw [heq]; show stand' ≠ 0; omega
            rw [runF, runF_end h3, heq]
            exact ⟨.inl k6, by show 0 ≤ f.gas - c; omega, by show f.gas - c ≤ f.gas; omega, ⟨fun e => by have e : stand' = 3 := e; omega, fun e => absurd he e⟩, fun e => by have e : stand' = 3 := e; omega⟩
          · have h3 : (stepF f).stand ≠ 0 := by rw [heq]; show stand' ≠ 0; omega
            rw [runF, runF_end h3, heq]
            exact ⟨.inr (.inl k6), by show 0 ≤ f.gas - c; omega, by show f.gas - c ≤ f.gas; omega, ⟨fun e => by have e : stand' = 3 := e; omega, fun e => absurd he e⟩, fun e => by have e : stand' = 3 := e; omega⟩
          · obtain ⟨i1, i2, i3, i4, i5⟩ := ih hin (by rw [heq]; exact k6) (by rw [heq]; exact he) (by rw [heq]; show out' = _; rw [k9, ho]) (by rw [heq]; show 0 ≤ f.gas - c; omega) (by rw [heq]; show f.gas - c < n; omega)
            refine ⟨i1, i2, Int.le_trans i3 ?_, i4, i5⟩
            rw [heq]; show f.gas - c ≤ f.gas; omega
theorem runF_gas {d : Int} (hd : 0 ≤ d) : ∀ (n : Nat) {f : Fm}, f.In → f.gas + d ≤ 1099511627776 → 0 ≤ f.gas → ¬ hasGas f.code → ((runF n f).stand = 1 ∨ (runF n f).stand = 2) →
    runF n { f with gas := f.gas + d } = { runF n f with gas := (runF n f).gas + d } := by
  intro n
  induction n with
  | zero => intro f _ _ _ _ _; rfl
  | succ n ih =>
    intro f h hd2 hg0 hno hs
    by_cases h0 : f.stand = 0
    · have hbad : ∀ {e : Int}, stepF f = { f with gas := 0, stand := 3, err := e } → runF (n + 1) { f with gas := f.gas + d } = { runF (n + 1) f with gas := (runF (n + 1) f).gas + d } := by
        intro e heq
        have h3 : (stepF f).stand ≠ 0 := by rw [heq]; show (3 : Int) ≠ 0; decide
        rw [runF, runF_end h3, heq] at hs
        rcases hs with hs | hs <;> cases hs
      rcases stepF_cases h h0 with ⟨e, hne, h1⟩ | ⟨c, hc0, h1, h2⟩
      · exact hbad (h1 f.gas)
      · by_cases hlt : f.gas < c
        · exact hbad (h1 f.gas hlt)
        · rcases h2 with h2 | ⟨es', mem', out', pc', stand', k5, k6, k7⟩
          · exact hbad (h2 f.gas (by omega) (by omega))
          · have heq : stepF f = { f with es := es' f.gas, mem := mem', pc := pc', gas := f.gas - c, stand := stand', out := out' } := k7 f.gas (by omega) (by omega)
            have heq2 : stepF { f with gas := f.gas + d } = { f with es := es' (f.gas + d), mem := mem', pc := pc', gas := f.gas + d - c, stand := stand', out := out' } := k7 (f.gas + d) (by omega) hd2
            have hes := (k5.resolve_left hno) (f.gas + d) f.gas
            have hin := (stepF_ok h).2.1
            have hcode := (stepF_ok h).2.2.1
            have hg : (stepF f).gas = f.gas - c := by rw [heq]
            have hnx : stepF { f with gas := f.gas + d } = { stepF f with gas := (stepF f).gas + d } := by
              rw [heq2, heq, hes]
              show (⟨_, _, _, _, _, f.gas + d - c, _, _, _⟩ : Fm) = ⟨_, _, _, _, _, f.gas - c + d, _, _, _⟩
              rw [show f.gas + d - c = f.gas - c + d by omega]
            rw [runF, hnx]
            exact ih hin (by omega) (by omega) (by rw [hcode]; exact hno) hs
    · rw [runF_end h0, runF_end (f := { f with gas := f.gas + d }) h0]
abbrev FZ : AObj := .cells (Fr e0 e0 (.v (.slice none 0 0)) e0 0 0 0 0 e0)
abbrev A14t : AAct := ⟨(jn 6 (.ptr 0 0 :: .ptr 1 0 :: jn 12 [])), [], 14, 0, false⟩
theorem l14 : ∀ (n : Nat) {f : Fm}, f.In → (runF n f).stand ≠ 0 → ∀ (F m : Nat) (X : Type) (k : AExit → AAct → List AObj → Option X), n < F →
    exec (E14_0 p16 v16) (F + 60) 0 (.loop (rnd Tryz.f14 0)) A14t [FZ, .cells f.cs] X (bK (E14_0 p16 v16) (m + 60) 0 k) = k .normal A14t [FZ, .cells (runF n f).cs] := by
  have hend : ∀ {f : Fm}, f.stand ≠ 0 → ∀ (F m : Nat) (X : Type) (k : AExit → AAct → List AObj → Option X),
      exec (E14_0 p16 v16) (F + 60) 0 (.loop (rnd Tryz.f14 0)) A14t [FZ, .cells f.cs] X (bK (E14_0 p16 v16) (m + 60) 0 k) = k .normal A14t [FZ, .cells f.cs] := by
    intro f hs F m X k
    obtain ⟨x, hx⟩ : ∃ x, v16 [f.av] [] = x := ⟨_, rfl⟩
    have hh := T14_0s p16 v16 f.code f.inp f.mem f.out f.pc f.gas f.stand f.err f.es F m X k x hx
    exact gn hh (by simpa using hs)
  intro n
  induction n with
  | zero => exact fun h hs F m X k _ => hend hs F m X k
  | succ n ih =>
    intro f h hs F m X k hF
    by_cases h0 : f.stand = 0
    · obtain ⟨h1, h2, _⟩ := stepF_ok h
      rw [runF] at hs ⊢
      have h3 := ih h2 hs (F - 1) m X k (by omega)
      have hF2 : F = F - 1 + 1 := by omega
      rw [hF2]
      generalize F - 1 = F1 at h3
      generalize stepF f = g at h1 h2 hs h3 ⊢
      have hh := T14_0s p16 v16 f.code f.inp f.mem f.out f.pc f.gas f.stand f.err f.es (F1 + 1) m X k _ h1
      replace hh := go hh (by simpa using h0)
      replace hh := go hh (gd_t ⟨_, _, _, _, _, _, _, _, _, rfl, rfl, h⟩)
      exact hh.trans h3
    · rw [runF_end h0]
      exact hend h0 F m X k
def fm0 (code inp : ByteArray) (gas : Int) : Fm := ⟨code, inp, [], e0, 0, gas, 0, 0, e0⟩
end Go.Proofs.Vm
end
section
namespace Go.Proofs.Vm
open Go Go.Abs
set_option maxRecDepth 100000
set_option maxHeartbeats 1000000
def clampG (gas : Int) : Int := bif decide ((bif decide (100000 < gas) then 100000 else gas) > 0) then bif decide (100000 < gas) then 100000 else gas else 0
theorem clampG_rng (gas : Int) : 0 ≤ clampG gas ∧ clampG gas ≤ 100000 := by
  unfold clampG
  by_cases h : 100000 < gas
  · rw [decide_eq_true h]; simp
  · rw [decide_eq_false h]
    by_cases h2 : gas > 0
    · simp only [cond_false, decide_eq_true h2, cond_true]; omega
    · simp only [cond_false, decide_eq_false h2]; omega
theorem clampG_in {gas : Int} (h0 : 0 ≤ gas) (h1 : gas ≤ 100000) : clampG gas = gas := by
  unfold clampG
  rw [decide_eq_false (show ¬ 100000 < gas by omega)]
  by_cases h2 : gas > 0
  · simp only [cond_false, decide_eq_true h2, cond_true]
  · simp only [cond_false, decide_eq_false h2]; omega
theorem fm0_In {code inp : ByteArray} {g : Int} (hc : code.size ≤ 2900) (hi : inp.size ≤ 65536) (hg : g ≤ 100000) : (fm0 code inp g).In :=
  ⟨hc, hi, (by decide : e0.size ≤ 4096), (fun _ h => by cases h), Nat.zero_le _, (by decide : (0 : Int) ≤ 0), (by decide : (0 : Int) ≤ 3001), fun _ => (by decide : (0 : Int) ≤ 3000), by show g ≤ 1099511627776; omega⟩
noncomputable def endF (code inp : ByteArray) (gas : Int) : Fm := runF 100001 (fm0 code inp (clampG gas))
theorem endF_stand {code inp : ByteArray} {gas : Int} (hc : code.size ≤ 2900) (hi : inp.size ≤ 65536) : EndOK (fm0 code inp (clampG gas)) (endF code inp gas) := by
  obtain ⟨h0, h1⟩ := clampG_rng gas
  exact runF_ends 100001 (fm0_In hc hi h1) rfl rfl rfl h0 (by show clampG gas < ((100001 : Nat) : Int); omega)
theorem endF_ne {code inp : ByteArray} {gas : Int} (hc : code.size ≤ 2900) (hi : inp.size ≤ 65536) : (endF code inp gas).stand ≠ 0 := by
  rcases (endF_stand (gas := gas) hc hi).1 with h | h | h <;> omega
theorem endF_In {code inp : ByteArray} {gas : Int} (hc : code.size ≤ 2900) (hi : inp.size ≤ 65536) : (endF code inp gas).In := runF_In _ (fm0_In hc hi (clampG_rng gas).2)
theorem okSs_cons {s : Sh} {ss : List Sh} {c : AV} {cs : List AV} (h : okS s c = true) (hs : okSs ss cs = true) : okSs (s :: ss) (c :: cs) = true := by
  unfold okSs; rw [h, hs]; rfl
theorem okFr {f : Fm} (he : AllU f.es) : okO (.cells shF) (.cells f.cs) = true := by
  unfold okO
  exact okSs_cons rfl (okSs_cons rfl (okSl he rfl))
theorem runF_succ (n : Nat) (f : Fm) : runF (n + 1) f = runF n (stepF f) := rfl
theorem w14a {code inp : ByteArray} {gas : Int} (hc : code.size ≤ 2900) (hi : inp.size ≤ 65536) :
    exec (E14_0 p16 v16) 199999 0 (.loop (rnd Tryz.f14 0)) A14t [FZ, .cells (Fr code inp (.v (.slice none 0 0)) e0 0 (clampG gas) 0 0 e0)] _ (bK (E14_0 p16 v16) 199999 0 finB) = finB .normal A14t [FZ, .cells (endF code inp gas).cs] := by
  have hin := fm0_In hc hi (clampG_rng gas).2
  have hne := endF_ne (gas := gas) hc hi
  obtain ⟨h1, h2, _⟩ := stepF_ok hin
  have hrun : endF code inp gas = runF 100000 (stepF (fm0 code inp (clampG gas))) := by unfold endF; exact runF_succ 100000 _
  have hh := T14_0r p16 v16 code inp (clampG gas) 199939 199939 _ finB _ h1
  replace hh := go hh (gd_t ⟨_, _, _, _, _, _, _, _, _, rfl, rfl, hin⟩)
  refine hh.trans ?_
  rw [hrun] at hne ⊢
  have h3 := l14 100000 h2 hne 199938 199939 _ finB (by omega)
  generalize stepF (fm0 code inp (clampG gas)) = g at h1 h2 hne h3 ⊢
  exact h3
theorem w14b {code inp : ByteArray} {gas : Int} (hc : code.size ≤ 2900) (hi : inp.size ≤ 65536) :
    h14_0 (blk Tryz.f14 0) A14t [FZ, .cells (Fr code inp (.v (.slice none 0 0)) e0 0 (clampG gas) 0 0 e0)] = finB .normal A14t [FZ, .cells (endF code inp gas).cs] :=
  (p14_0 _ _ 199999 rfl).trans (w14a hc hi)
theorem w14 {code inp : ByteArray} {gas : Int} (hc : code.size ≤ 2900) (hi : inp.size ≤ 65536) : r14 [st code, st inp, i64 gas] [] = some (.ret (endF code inp gas).av, []) := by
  have hin := fm0_In hc hi (clampG_rng gas).2
  have hne := endF_ne (gas := gas) hc hi
  have hEn := endF_In (gas := gas) hc hi
  obtain ⟨h1, h2, _⟩ := stepF_ok hin
  have hrun : endF code inp gas = runF 100000 (stepF (fm0 code inp (clampG gas))) := by unfold endF; exact runF_succ 100000 _
  have e1 := w14b (gas := gas) hc hi
  have h := (q14 _ _).trans (T14 h14_0 code inp gas _ fin _ e1)
  generalize endF code inp gas = g at h hEn ⊢
  have hm : (List.map (fun e => rebs [sh6, sh6, sh6, sh6] e 0) g.es) = g.es := map_rebU hEn.all
  have hcs := okFr hEn.all
  replace h := go h (okB_t rfl rfl (okCons rfl (okCons hcs rfl)) rfl)
  have h2 : r14 [st code, st inp, i64 gas] [] = fin (AEnd.ret (.agg (Fr g.code g.inp (.sl 4 (List.map (fun e => rebs [sh6, sh6, sh6, sh6] e 0) g.es)) g.mem g.pc g.gas g.stand g.err g.out))) [] := by obtain ⟨a, b, c, d, e, f, g1, h1, i⟩ := g; exact h
  exact h2.trans (congrArg (fun l => fin (AEnd.ret (.agg (Fr g.code g.inp (.sl 4 l) g.mem g.pc g.gas g.stand g.err g.out))) []) hm)
end Go.Proofs.Vm
end
section
namespace Go.Proofs.Vm
open Go Go.Abs
set_option maxRecDepth 100000
set_option maxHeartbeats 1000000
theorem u16mod {g n : Int} (h0 : 0 ≤ g) (h1 : g ≤ 65535) (hn : 0 < n) (hn1 : n ≤ 100000) : (IntKind.i64.wrap g).tmod n = g % n ∧ 0 ≤ g % n ∧ g % n < n := by
  rw [w8in (n := g) (by omega) (by omega), Int.tmod_eq_emod_of_nonneg h0]
  exact ⟨rfl, Int.emod_nonneg _ (by omega), Int.emod_lt_of_pos _ hn⟩
noncomputable def v14 : RF := r14
def p14 (args : List AV) (os : List AObj) : Prop := ∃ (code inp : ByteArray) (gas : Int), args = [st code, st inp, i64 gas] ∧ os = [] ∧ code.size ≤ 2900 ∧ inp.size ≤ 65536
theorem okS14 : SpecOK P 14 (ask p14 (S16 v14)) := ok14.ask fun args os ⟨code, inp, gas, e1, e2, hc, hi⟩ => by
  subst e1 e2
  have h := w14 (gas := gas) hc hi
  have hin := endF_In (gas := gas) hc hi
  generalize endF code inp gas = g at h hin
  refine ⟨_, _, h, ⟨a14, List.mem_singleton.2 rfl, okAlt_t rfl ?_ rfl⟩, fun X kk => ?_⟩
  · exact okFr hin.all
  · unfold S16
    rw [show v14 _ _ = _ from h]
    obtain ⟨a, b, c, d, e, f, g1, h1, i⟩ := g
    rfl
def S12 : ASpec := fun _ os _ k => k (.ret (bo true)) os
def p12 (args : List AV) (os : List AObj) : Prop := args = [] ∧ os = []
end Go.Proofs.Vm
end
section
open Go Go.Abs
namespace Go.Proofs.Vm
set_option maxRecDepth 100000
set_option maxHeartbeats 0
noncomputable def E13_0 : Env := En 13 [(0, [2, 3, 5], [])] [] [] [] [] []
noncomputable def a13_0 : BAlt := ⟨.normal, (sj 87 []), [], []⟩
noncomputable def A13_0 : List BAlt := [a13_0]
noncomputable def h13_0 : RB := runB (blockRun (E13_0) (fun _ _ => 2000) 0)
theorem q13_0 (c : Code) (a : AAct) (os : List AObj) : h13_0 c a os = exec (E13_0) ((fun _ _ => 2000) a os) 0 (.block 0 c) a os _ finB := qB _ _ _ _ _ _
theorem k13_0 : blk Tryz.f13 0 = .loop (rnd Tryz.f13 0) := by kernel_rfl
theorem p13_0 (T : List AV) (os : List AObj) (F : Nat) (hF : (fun _ _ => 2000) (⟨T, [], 13, 0, false⟩ : AAct) os = F + 1) : h13_0 (blk Tryz.f13 0) ⟨T, [], 13, 0, false⟩ os = exec (E13_0) F 0 (.loop (rnd Tryz.f13 0)) ⟨T, [], 13, 0, false⟩ os _ (bK (E13_0) F 0 finB) := by
  rw [q13_0, hF, exec_block (by kernel_rfl), k13_0]
theorem okb13_0 : BlockOK P 13 0 (bShaped A13_0 [] (some [2, 3, 5]) h13_0) := by
  unfold h13_0 E13_0
  refine okBl _ ?_ ?_ ?_ _ _ _
  · exact tnil
  · exact trivial
  · exact hnil
theorem TL13_0r (code inp mem out : ByteArray) (pc gas stand err : Int) (es : List (List AV)) (i : Int) (d m : Nat) (L : AAct → List AObj → ∀ X : Type, (AExit → AAct → List AObj → Option X) → Option X) (X : Type) (k : AExit → AAct → List AObj → Option X) :
    roundL (E13_0) (d + 59) 0 (rnd Tryz.f13 0) L ⟨(J :: J :: .ptr 0 0 :: .ptr 1 0 :: J :: i64 i :: jn 81 []), [], 13, 0, false⟩ [.cells (Fr code inp (.sl 4 es) mem pc gas stand err out), .cells (Fr code inp (.sl 4 es) mem pc gas stand err out)] X (bK (E13_0) (m + 60) 0 k) =
    bif ilt i (↑es.length : Int) then bif decide (0 ≤ i) && decide (i < (↑es.length : Int)) then bif decide (0 < (es.getD i.toNat []).length) && (AV.isInt IntKind.u64 ((es.getD i.toNat []).getD 0 J) && (decide (0 + 1 < (es.getD i.toNat []).length) && (AV.isInt IntKind.u64 ((es.getD i.toNat []).getD 1 J) && (decide (0 + 1 + 1 < (es.getD i.toNat []).length) && (AV.isInt IntKind.u64 ((es.getD i.toNat []).getD 2 J) && (decide (0 + 1 + 1 + 1 < (es.getD i.toNat []).length) && (AV.isInt IntKind.u64 ((es.getD i.toNat []).getD 3 J) && true))))))) then bif decide (0 ≤ i) && decide (i < (↑es.length : Int)) then bif decide (0 < (es.getD i.toNat []).length) && (AV.isInt IntKind.u64 ((es.getD i.toNat []).getD 0 J) && (decide (0 + 1 < (es.getD i.toNat []).length) && (AV.isInt IntKind.u64 ((es.getD i.toNat []).getD 1 J) && (decide (0 + 1 + 1 < (es.getD i.toNat []).length) && (AV.isInt IntKind.u64 ((es.getD i.toNat []).getD 2 J) && (decide (0 + 1 + 1 + 1 < (es.getD i.toNat []).length) && (AV.isInt IntKind.u64 ((es.getD i.toNat []).getD 3 J) && true))))))) then bif !(((es.getD i.toNat []).getD 0 J).toInt == ((es.getD i.toNat []).getD 0 J).toInt && (((es.getD i.toNat []).getD 1 J).toInt == ((es.getD i.toNat []).getD 1 J).toInt && (((es.getD i.toNat []).getD 2 J).toInt == ((es.getD i.toNat []).getD 2 J).toInt && (((es.getD i.toNat []).getD 3 J).toInt == ((es.getD i.toNat []).getD 3 J).toInt && true)))) then k AExit.ret { tmps := (J :: J :: AV.ptr 0 0 :: AV.ptr 1 0 :: bo false :: i64 i :: jn 63 (i64 i :: AV.ptr 0 2 :: AV.sl 4 es :: i64 (↑es.length : Int) :: bo (ilt i (↑es.length : Int)) :: J :: J :: AV.ptr 0 2 :: AV.sl 4 es :: i64 i :: AV.dptr (es.getD i.toNat []) :: AV.agg (tu4 (es.getD i.toNat [])) :: AV.ptr 1 2 :: AV.sl 4 es :: i64 i :: AV.dptr (es.getD i.toNat []) :: AV.agg (tu4 (es.getD i.toNat [])) :: bo (!(((es.getD i.toNat []).getD 0 J).toInt == ((es.getD i.toNat []).getD 0 J).toInt && (((es.getD i.toNat []).getD 1 J).toInt == ((es.getD i.toNat []).getD 1 J).toInt && (((es.getD i.toNat []).getD 2 J).toInt == ((es.getD i.toNat []).getD 2 J).toInt && (((es.getD i.toNat []).getD 3 J).toInt == ((es.getD i.toNat []).getD 3 J).toInt && true))))) :: [])), defers := [], fn := 13, foot := 0, round := false } [AObj.cells [st code, st inp, AV.sl 4 es, st mem, i64 pc, i64 gas, i64 stand, i64 err, st out], AObj.cells [st code, st inp, AV.sl 4 es, st mem, i64 pc, i64 gas, i64 stand, i64 err, st out], AObj.dead, AObj.dead, AObj.dead, AObj.dead, AObj.dead, AObj.dead, AObj.dead, AObj.dead, AObj.dead, AObj.dead, AObj.dead] else L { tmps := (J :: J :: AV.ptr 0 0 :: AV.ptr 1 0 :: J :: i64 (IntKind.i64.wrap (i + 1)) :: jn 81 []), defers := [], fn := 13, foot := 0, round := false } [AObj.cells [st code, st inp, AV.sl 4 es, st mem, i64 pc, i64 gas, i64 stand, i64 err, st out], AObj.cells [st code, st inp, AV.sl 4 es, st mem, i64 pc, i64 gas, i64 stand, i64 err, st out]] X (bK E13_0 (m + 60) 0 k) else none else none else none else none else k AExit.normal { tmps := (jn 87 []), defers := [], fn := 13, foot := 0, round := false } [] := by kernel_rfl
theorem T13_0r (code inp mem out : ByteArray) (pc gas stand err : Int) (es : List (List AV)) (i : Int) (d m : Nat) (X : Type) (k : AExit → AAct → List AObj → Option X) :
    exec (E13_0) (d + 60) 0 (.loop (rnd Tryz.f13 0)) ⟨(J :: J :: .ptr 0 0 :: .ptr 1 0 :: J :: i64 i :: jn 81 []), [], 13, 0, false⟩ [.cells (Fr code inp (.sl 4 es) mem pc gas stand err out), .cells (Fr code inp (.sl 4 es) mem pc gas stand err out)] X (bK (E13_0) (m + 60) 0 k) =
    bif ilt i (↑es.length : Int) then bif decide (0 ≤ i) && decide (i < (↑es.length : Int)) then bif decide (0 < (es.getD i.toNat []).length) && (AV.isInt IntKind.u64 ((es.getD i.toNat []).getD 0 J) && (decide (0 + 1 < (es.getD i.toNat []).length) && (AV.isInt IntKind.u64 ((es.getD i.toNat []).getD 1 J) && (decide (0 + 1 + 1 < (es.getD i.toNat []).length) && (AV.isInt IntKind.u64 ((es.getD i.toNat []).getD 2 J) && (decide (0 + 1 + 1 + 1 < (es.getD i.toNat []).length) && (AV.isInt IntKind.u64 ((es.getD i.toNat []).getD 3 J) && true))))))) then bif decide (0 ≤ i) && decide (i < (↑es.length : Int)) then bif decide (0 < (es.getD i.toNat []).length) && (AV.isInt IntKind.u64 ((es.getD i.toNat []).getD 0 J) && (decide (0 + 1 < (es.getD i.toNat []).length) && (AV.isInt IntKind.u64 ((es.getD i.toNat []).getD 1 J) && (decide (0 + 1 + 1 < (es.getD i.toNat []).length) && (AV.isInt IntKind.u64 ((es.getD i.toNat []).getD 2 J) && (decide (0 + 1 + 1 + 1 < (es.getD i.toNat []).length) && (AV.isInt IntKind.u64 ((es.getD i.toNat []).getD 3 J) && true))))))) then bif !(((es.getD i.toNat []).getD 0 J).toInt == ((es.getD i.toNat []).getD 0 J).toInt && (((es.getD i.toNat []).getD 1 J).toInt == ((es.getD i.toNat []).getD 1 J).toInt && (((es.getD i.toNat []).getD 2 J).toInt == ((es.getD i.toNat []).getD 2 J).toInt && (((es.getD i.toNat []).getD 3 J).toInt == ((es.getD i.toNat []).getD 3 J).toInt && true)))) then k AExit.ret { tmps := (J :: J :: AV.ptr 0 0 :: AV.ptr 1 0 :: bo false :: i64 i :: jn 63 (i64 i :: AV.ptr 0 2 :: AV.sl 4 es :: i64 (↑es.length : Int) :: bo (ilt i (↑es.length : Int)) :: J :: J :: AV.ptr 0 2 :: AV.sl 4 es :: i64 i :: AV.dptr (es.getD i.toNat []) :: AV.agg (tu4 (es.getD i.toNat [])) :: AV.ptr 1 2 :: AV.sl 4 es :: i64 i :: AV.dptr (es.getD i.toNat []) :: AV.agg (tu4 (es.getD i.toNat [])) :: bo (!(((es.getD i.toNat []).getD 0 J).toInt == ((es.getD i.toNat []).getD 0 J).toInt && (((es.getD i.toNat []).getD 1 J).toInt == ((es.getD i.toNat []).getD 1 J).toInt && (((es.getD i.toNat []).getD 2 J).toInt == ((es.getD i.toNat []).getD 2 J).toInt && (((es.getD i.toNat []).getD 3 J).toInt == ((es.getD i.toNat []).getD 3 J).toInt && true))))) :: [])), defers := [], fn := 13, foot := 0, round := false } [AObj.cells [st code, st inp, AV.sl 4 es, st mem, i64 pc, i64 gas, i64 stand, i64 err, st out], AObj.cells [st code, st inp, AV.sl 4 es, st mem, i64 pc, i64 gas, i64 stand, i64 err, st out], AObj.dead, AObj.dead, AObj.dead, AObj.dead, AObj.dead, AObj.dead, AObj.dead, AObj.dead, AObj.dead, AObj.dead, AObj.dead] else exec (E13_0) (d + 59) 0 (.loop (rnd Tryz.f13 0)) { tmps := (J :: J :: AV.ptr 0 0 :: AV.ptr 1 0 :: J :: i64 (IntKind.i64.wrap (i + 1)) :: jn 81 []), defers := [], fn := 13, foot := 0, round := false } [AObj.cells [st code, st inp, AV.sl 4 es, st mem, i64 pc, i64 gas, i64 stand, i64 err, st out], AObj.cells [st code, st inp, AV.sl 4 es, st mem, i64 pc, i64 gas, i64 stand, i64 err, st out]] X (bK E13_0 (m + 60) 0 k) else none else none else none else none else k AExit.normal { tmps := (jn 87 []), defers := [], fn := 13, foot := 0, round := false } [] := (exec_loop _ _ _ _ _ _ _ _).trans (TL13_0r code inp mem out pc gas stand err es i d m (fun a os X k => exec (E13_0) (d + 59) 0 (.loop (rnd Tryz.f13 0)) a os X k) X k)
noncomputable def E13 (h13_0 : RB) : Env := En 13 [] [] [] [(0, bShaped A13_0 [] (some [2, 3, 5]) h13_0)] [] []
noncomputable def a13 : Alt := ⟨false, .bool, []⟩
noncomputable def A13 : List Alt := [a13]
theorem T13 (h13_0 : RB) (code inp mem out : ByteArray) (pc gas stand err : Int) (es : List (List AV)) (X : Type) (k : AEnd → List AObj → Option X)
    (x1 : RBE) (e1 : h13_0 (blk Tryz.f13 0) { tmps := (J :: J :: AV.ptr 0 0 :: AV.ptr 1 0 :: J :: i64 0 :: jn 81 []), defers := [], fn := 13, foot := 0, round := false } [AObj.cells [st code, st inp, AV.sl 4 es, st mem, i64 pc, i64 gas, i64 stand, i64 err, st out], AObj.cells [st code, st inp, AV.sl 4 es, st mem, i64 pc, i64 gas, i64 stand, i64 err, st out]] = x1) :
    body (E13 h13_0) 60 13 Tryz.f13 (cod Tryz.f13) [.agg (Fr code inp (.sl 4 es) mem pc gas stand err out), .agg (Fr code inp (.sl 4 es) mem pc gas stand err out)] [] X k =
    bif !code.toList == code.toList then k (.ret (bo false)) [] else bif !inp.toList == inp.toList then k (.ret (bo false)) [] else bif !mem.toList == mem.toList then k (.ret (bo false)) [] else bif pc != pc then k (.ret (bo false)) [] else bif gas != gas then k (.ret (bo false)) [] else bif stand != stand then k (.ret (bo false)) [] else bif err != err then k (.ret (bo false)) [] else bif !out.toList == out.toList then k (.ret (bo false)) [] else bif (↑es.length : Int) != (↑es.length : Int) then k (.ret (bo false)) [] else bif okB a13_0 13 0 false x1 then k (.ret (bo true)) [] else none := by subst e1; kernel_rfl
noncomputable def r13 : RF := runR (body (E13 h13_0) 60 13 Tryz.f13 (cod Tryz.f13))
theorem q13 (args : List AV) (os : List AObj) : r13 args os = body (E13 h13_0) 60 13 Tryz.f13 (cod Tryz.f13) args os _ fin := qR _ _ _
theorem ok13 : SpecOK P 13 (shaped A13 r13) := by
  unfold r13 E13
  refine okF 60 ?_ ?_ ?_ Tryz.func13 ?_ ?_ _
  · exact tnil
  · exact trivial
  · exact (hcons okb13_0 hnil)
  · kernel_rfl
  · kernel_rfl
end Go.Proofs.Vm
end
section
namespace Go.Proofs.Vm
open Go Go.Abs
set_option maxRecDepth 100000
set_option maxHeartbeats 1000000
theorem l13 {f : Fm} (he : AllU f.es) (hl : f.es.length ≤ 300) (m : Nat) : ∀ (n : Nat) (i : Int), 0 ≤ i → i ≤ f.es.length → f.es.length - i ≤ n → ∀ r,
    r = exec (E13_0) (n + 60) 0 (.loop (rnd Tryz.f13 0)) ⟨(J :: J :: .ptr 0 0 :: .ptr 1 0 :: J :: i64 i :: jn 81 []), [], 13, 0, false⟩ [.cells f.cs, .cells f.cs] _ (bK (E13_0) (m + 60) 0 finB) →
    r = finB .normal ⟨jn 87 [], [], 13, 0, false⟩ [] := by
  intro n
  induction n with
  | zero =>
    intro i h0 h1 hf r h
    replace h := h.trans (T13_0r f.code f.inp f.mem f.out f.pc f.gas f.stand f.err f.es i 0 m _ finB)
    exact gn h (ilt_f' (by omega))
  | succ n ih =>
    intro i h0 h1 hf r h
    replace h := h.trans (T13_0r f.code f.inp f.mem f.out f.pc f.gas f.stand f.err f.es i (n + 1) m _ finB)
    by_cases hi : i < f.es.length
    · obtain ⟨x0, x1, x2, x3, _, hx⟩ := he.get (i := i.toNat) (by omega)
      rw [hx] at h
      replace h := go h (ilt_t' hi)
      replace h := go h (dec2 h0 hi)
      replace h := go h rfl
      replace h := go h (dec2 h0 hi)
      replace h := go h rfl
      replace h := gn h (by show (!(x0 == x0 && (x1 == x1 && (x2 == x2 && (x3 == x3 && true))))) = false; simp)
      have hw : IntKind.i64.wrap (i + 1) = i + 1 := w8in (by omega) (by omega)
      rw [hw] at h
      exact ih (i + 1) (by omega) (by omega) (by omega) r h
    · exact gn h (ilt_f' (by omega))
theorem w13 {f : Fm} (he : AllU f.es) (hl : f.es.length ≤ 300) : r13 [f.av, f.av] [] = some (.ret (bo true), []) := by
  have e1 := l13 he hl 1939 1939 0 (by omega) (by omega) (by omega) _ rfl
  replace e1 := (p13_0 _ _ 1999 rfl).trans e1
  have h := (q13 _ _).trans (T13 h13_0 f.code f.inp f.mem f.out f.pc f.gas f.stand f.err f.es _ fin _ e1)
  have hb : ∀ (l : List UInt8), (!(l == l)) = false := fun l => by simp
  have hi : ∀ (x : Int), (x != x) = false := fun x => by simp
  replace h := gn h (hb _)
  replace h := gn h (hb _)
  replace h := gn h (hb _)
  replace h := gn h (hi _)
  replace h := gn h (hi _)
  replace h := gn h (hi _)
  replace h := gn h (hi _)
  replace h := gn h (hb _)
  replace h := gn h (hi _)
  exact go h (okB_t rfl rfl rfl rfl)
def p13 (args : List AV) (os : List AObj) : Prop := ∃ f : Fm, args = [f.av, f.av] ∧ os = [] ∧ AllU f.es ∧ f.es.length ≤ 300
theorem okS13 : SpecOK P 13 (ask p13 S12) := ok13.ask fun args os ⟨f, e1, e2, he, hl⟩ => by
  subst e1 e2
  exact ⟨_, _, w13 he hl, ⟨a13, List.mem_singleton.2 rfl, rfl⟩, fun X kk => rfl⟩
end Go.Proofs.Vm
end
section
open Go Go.Abs
namespace Go.Proofs.Vm
set_option maxRecDepth 100000
set_option maxHeartbeats 0
noncomputable def E198c (r253 : RF) (r264 : RF) : Env := En 198 [] [] [(263, Tryz.f263, cod Tryz.f263)] [] [] [(253, shaped A253 r253), (264, shaped A264 r264)]
noncomputable def a198c : Alt := ⟨false, .sl 1 [shB], []⟩
noncomputable def A198c : List Alt := [a198c]
noncomputable def r198c : RF := runR (body (E198c r253 r264) 200 198 Tryz.f198 (cod Tryz.f198))
theorem q198c (args : List AV) (os : List AObj) : r198c args os = body (E198c r253 r264) 200 198 Tryz.f198 (cod Tryz.f198) args os _ fin := qR _ _ _
theorem ok198c : SpecOK P 198 (shaped A198c r198c) := by
  unfold r198c E198c
  refine okF 200 ?_ ?_ ?_ Tryz.func198 ?_ ?_ _
  · exact (tcons ok253 (tcons ok264 tnil))
  · exact (And.intro (And.intro Tryz.func263 (And.intro (by kernel_rfl) (by kernel_rfl))) trivial)
  · exact hnil
  · kernel_rfl
  · kernel_rfl
noncomputable def E132c (r63 : RF) (r83 : RF) (r110 : RF) (r198c : RF) : Env := En 132 [] [] [] [] [] [(63, shaped A63 r63), (83, shaped A83 r83), (110, shaped A110 r110), (198, shaped A198c r198c)]
noncomputable def a132c : Alt := ⟨false, .tup [], [.cells (shM (.sref 1)), .row 4 [sh6, sh6, sh6, sh6]]⟩
noncomputable def a132cy : Alt := ⟨true, .iface 63 (.int .i64), [.cells (shM (.sref 1)), .row 4 [sh6, sh6, sh6, sh6]]⟩
noncomputable def A132c : List Alt := [a132c, a132cy]
noncomputable def r132c : RF := runR (body (E132c r63 r83 r110 r198c) 60 132 Tryz.f132 (cod Tryz.f132))
theorem q132c (args : List AV) (os : List AObj) : r132c args os = body (E132c r63 r83 r110 r198c) 60 132 Tryz.f132 (cod Tryz.f132) args os _ fin := qR _ _ _
theorem ok132c : SpecOK P 132 (shaped A132c r132c) := by
  unfold r132c E132c
  refine okF 60 ?_ ?_ ?_ Tryz.func132 ?_ ?_ _
  · exact (tcons ok63 (tcons ok83 (tcons ok110 (tcons ok198c tnil))))
  · exact trivial
  · exact hnil
  · kernel_rfl
  · kernel_rfl
noncomputable def E75c (r62 : RF) (r73 : RF) (r82 : RF) (r83 : RF) (r116 : RF) (r117 : RF) (r129 : RF) (r130 : RF) (r131 : RF) (r132c : RF) : Env := En 75 [] [] [] [] [] [(62, shaped A62 r62), (73, shaped A73 r73), (82, shaped A82 r82), (83, shaped A83 r83), (116, shaped A116 r116), (117, shaped A117 r117), (129, shaped A129 r129), (130, shaped A130 r130), (131, shaped A131 r131), (132, shaped A132c r132c)]
noncomputable def a75c : Alt := ⟨false, .tup [], [.cells (shM (.sref 1)), .row 4 [sh6, sh6, sh6, sh6]]⟩
noncomputable def a75cy : Alt := ⟨false, .tup [], [.cells (shM (.wref 2)), .dead, .row 4 [sh6, sh6, sh6, sh6]]⟩
noncomputable def a75cz : Alt := ⟨true, .iface 63 (.int .i64), [.cells (shM (.sref 1)), .row 4 [sh6, sh6, sh6, sh6]]⟩
noncomputable def A75c : List Alt := [a75c, a75cy, a75cz]
noncomputable def r75c : RF := runR (body (E75c r62 r73 r82 r83 r116 r117 r129 r130 r131 r132c) 60 75 Tryz.f75 (cod Tryz.f75))
theorem q75c (args : List AV) (os : List AObj) : r75c args os = body (E75c r62 r73 r82 r83 r116 r117 r129 r130 r131 r132c) 60 75 Tryz.f75 (cod Tryz.f75) args os _ fin := qR _ _ _
theorem ok75c : SpecOK P 75 (shaped A75c r75c) := by
  unfold r75c E75c
  refine okF 60 ?_ ?_ ?_ Tryz.func75 ?_ ?_ _
  · exact (tcons ok62 (tcons ok73 (tcons ok82 (tcons ok83 (tcons ok116 (tcons ok117 (tcons ok129 (tcons ok130 (tcons ok131 (tcons ok132c tnil))))))))))
  · exact trivial
  · exact hnil
  · kernel_rfl
  · kernel_rfl
noncomputable def E35c (r62 : RF) (r63 : RF) (r64 : RF) (r65 : RF) (r66 : RF) (r67 : RF) (r68 : RF) (r69 : RF) (r70 : RF) (r71 : RF) (r72 : RF) (r73 : RF) (r74 : RF) (r75c : RF) : Env := En 35 [] [] [] [] [] [(62, shaped A62 r62), (63, shaped A63 r63), (64, shaped A64 r64), (65, shaped A65 r65), (66, shaped A66 r66), (67, shaped A67 r67), (68, shaped A68 r68), (69, shaped A69 r69), (70, shaped A70 r70), (71, shaped A71 r71), (72, shaped A72 r72), (73, shaped A73 r73), (74, shaped A74 r74), (75, shaped A75c r75c)]
noncomputable def a35c : Alt := ⟨false, .tup [], [.cells (shM (.sref 1)), .row 4 [sh6, sh6, sh6, sh6]]⟩
noncomputable def a35cy : Alt := ⟨false, .tup [], [.cells (shM (.wref 1)), .row 4 [sh6, sh6, sh6, sh6]]⟩
noncomputable def a35cz : Alt := ⟨true, .iface 63 (.int .i64), [.cells (shM (.sl 4 [sh6, sh6, sh6, sh6]))]⟩
noncomputable def a35cw : Alt := ⟨true, .iface 63 (.int .i64), [.cells (shM (.sref 1)), .row 4 [sh6, sh6, sh6, sh6]]⟩
noncomputable def a35cv : Alt := ⟨true, .iface 63 (.int .i64), [.cells (shM (.wref 1)), .row 4 [sh6, sh6, sh6, sh6]]⟩
noncomputable def A35c : List Alt := [a35c, a35cy, a35cz, a35cw, a35cv]
noncomputable def r35c : RF := runR (body (E35c r62 r63 r64 r65 r66 r67 r68 r69 r70 r71 r72 r73 r74 r75c) 60 35 Tryz.f35 (cod Tryz.f35))
theorem q35c (args : List AV) (os : List AObj) : r35c args os = body (E35c r62 r63 r64 r65 r66 r67 r68 r69 r70 r71 r72 r73 r74 r75c) 60 35 Tryz.f35 (cod Tryz.f35) args os _ fin := qR _ _ _
theorem ok35c : SpecOK P 35 (shaped A35c r35c) := by
  unfold r35c E35c
  refine okF 60 ?_ ?_ ?_ Tryz.func35 ?_ ?_ _
  · exact (tcons ok62 (tcons ok63 (tcons ok64 (tcons ok65 (tcons ok66 (tcons ok67 (tcons ok68 (tcons ok69 (tcons ok70 (tcons ok71 (tcons ok72 (tcons ok73 (tcons ok74 (tcons ok75c tnil))))))))))))))
  · exact trivial
  · exact hnil
  · kernel_rfl
  · kernel_rfl
noncomputable def E16c (r35c : RF) : Env := En 16 [] [] [(34, Tryz.f34, cod Tryz.f34)] [] [] [(35, shaped A35c r35c)]
noncomputable def a16c : Alt := ⟨false, .agg shF, []⟩
noncomputable def A16c : List Alt := [a16c]
noncomputable def r16c : RF := runR (body (E16c r35c) 60 16 Tryz.f16 (cod Tryz.f16))
theorem q16c (args : List AV) (os : List AObj) : r16c args os = body (E16c r35c) 60 16 Tryz.f16 (cod Tryz.f16) args os _ fin := qR _ _ _
theorem ok16c : SpecOK P 16 (shaped A16c r16c) := by
  unfold r16c E16c
  refine okF 60 ?_ ?_ ?_ Tryz.func16 ?_ ?_ _
  · exact (tcons ok35c tnil)
  · exact (And.intro (And.intro Tryz.func34 (And.intro (by kernel_rfl) (by kernel_rfl))) trivial)
  · exact hnil
  · kernel_rfl
  · kernel_rfl
noncomputable def E14_0c (r16c : RF) : Env := En 14 [(0, [6, 7], [6, 7])] [] [] [] [] [(16, shaped A16c r16c)]
noncomputable def a14_0c : BAlt := ⟨.normal, (sj 6 (.ptr 0 0 :: .ptr 1 0 :: sj 12 [])), [.cells [.str, .str, .nilS, .str, .int .i64, .int .i64, .int .i64, .int .i64, .str], .cells shF], []⟩
noncomputable def A14_0c : List BAlt := [a14_0c]
noncomputable def h14_0c : RB := runB (blockRun (E14_0c r16c) (fun _ _ => 200) 0)
theorem q14_0c (c : Code) (a : AAct) (os : List AObj) : h14_0c c a os = exec (E14_0c r16c) ((fun _ _ => 200) a os) 0 (.block 0 c) a os _ finB := qB _ _ _ _ _ _
theorem k14_0c : blk Tryz.f14 0 = .loop (rnd Tryz.f14 0) := by kernel_rfl
theorem p14_0c (T : List AV) (os : List AObj) (F : Nat) (hF : (fun _ _ => 200) (⟨T, [], 14, 0, false⟩ : AAct) os = F + 1) : h14_0c (blk Tryz.f14 0) ⟨T, [], 14, 0, false⟩ os = exec (E14_0c r16c) F 0 (.loop (rnd Tryz.f14 0)) ⟨T, [], 14, 0, false⟩ os _ (bK (E14_0c r16c) F 0 finB) := by
  rw [q14_0c, hF, exec_block (by kernel_rfl), k14_0c]
theorem okb14_0c : BlockOK P 14 0 (bShaped A14_0c [] (some [6, 7]) h14_0c) := by
  unfold h14_0c E14_0c
  refine okBl _ ?_ ?_ ?_ _ _ _
  · exact (tcons ok16c tnil)
  · exact trivial
  · exact hnil
theorem TL14_0cr (r16c : RF) (code inp : ByteArray) (gas : Int) (d m : Nat) (L : AAct → List AObj → ∀ X : Type, (AExit → AAct → List AObj → Option X) → Option X) (X : Type) (k : AExit → AAct → List AObj → Option X)
    (x1 : RE) (e1 : r16c [AV.agg [st code, st inp, AV.sl 4 [], st (ByteArray.mk #[]), i64 0, i64 gas, i64 0, i64 0, st (ByteArray.mk #[])]] [] = x1) :
    roundL (E14_0c r16c) (d + 59) 0 (rnd Tryz.f14 0) L ⟨(jn 6 (.ptr 0 0 :: .ptr 1 0 :: jn 12 [])), [], 14, 0, false⟩ [.cells (Fr e0 e0 (.v (.slice none 0 0)) e0 0 0 0 0 e0), .cells (Fr code inp (.v (.slice none 0 0)) e0 0 gas 0 0 e0)] X (bK (E14_0c r16c) (m + 60) 0 k) =
    bif okAlt a16c x1 then L { tmps := (jn 6 (AV.ptr 0 0 :: AV.ptr 1 0 :: jn 12 [])), defers := [], fn := 14, foot := 0, round := false } [AObj.cells [st (ByteArray.mk #[]), st (ByteArray.mk #[]), AV.v (Value.slice none 0 0), st (ByteArray.mk #[]), i64 0, i64 0, i64 0, i64 0, st (ByteArray.mk #[])], AObj.cells [st ((rV x1).items.getD 0 J).toStr, st ((rV x1).items.getD 1 J).toStr, AV.sl 4 (List.map (fun e => rebs [sh6, sh6, sh6, sh6] e 0) ((rV x1).items.getD 2 J).toSl), st ((rV x1).items.getD 3 J).toStr, i64 ((rV x1).items.getD 4 J).toInt, i64 ((rV x1).items.getD 5 J).toInt, i64 ((rV x1).items.getD 6 J).toInt, i64 ((rV x1).items.getD 7 J).toInt, st ((rV x1).items.getD 8 J).toStr]] X (bK (E14_0c r16c) (m + 60) 0 k) else none := by subst e1; kernel_rfl
theorem T14_0cr (r16c : RF) (code inp : ByteArray) (gas : Int) (d m : Nat) (X : Type) (k : AExit → AAct → List AObj → Option X)
    (x1 : RE) (e1 : r16c [AV.agg [st code, st inp, AV.sl 4 [], st (ByteArray.mk #[]), i64 0, i64 gas, i64 0, i64 0, st (ByteArray.mk #[])]] [] = x1) :
    exec (E14_0c r16c) (d + 60) 0 (.loop (rnd Tryz.f14 0)) ⟨(jn 6 (.ptr 0 0 :: .ptr 1 0 :: jn 12 [])), [], 14, 0, false⟩ [.cells (Fr e0 e0 (.v (.slice none 0 0)) e0 0 0 0 0 e0), .cells (Fr code inp (.v (.slice none 0 0)) e0 0 gas 0 0 e0)] X (bK (E14_0c r16c) (m + 60) 0 k) =
    bif okAlt a16c x1 then exec (E14_0c r16c) (d + 59) 0 (.loop (rnd Tryz.f14 0)) { tmps := (jn 6 (AV.ptr 0 0 :: AV.ptr 1 0 :: jn 12 [])), defers := [], fn := 14, foot := 0, round := false } [AObj.cells [st (ByteArray.mk #[]), st (ByteArray.mk #[]), AV.v (Value.slice none 0 0), st (ByteArray.mk #[]), i64 0, i64 0, i64 0, i64 0, st (ByteArray.mk #[])], AObj.cells [st ((rV x1).items.getD 0 J).toStr, st ((rV x1).items.getD 1 J).toStr, AV.sl 4 (List.map (fun e => rebs [sh6, sh6, sh6, sh6] e 0) ((rV x1).items.getD 2 J).toSl), st ((rV x1).items.getD 3 J).toStr, i64 ((rV x1).items.getD 4 J).toInt, i64 ((rV x1).items.getD 5 J).toInt, i64 ((rV x1).items.getD 6 J).toInt, i64 ((rV x1).items.getD 7 J).toInt, st ((rV x1).items.getD 8 J).toStr]] X (bK (E14_0c r16c) (m + 60) 0 k) else none := (exec_loop _ _ _ _ _ _ _ _).trans (TL14_0cr r16c code inp gas d m (fun a os X k => exec (E14_0c r16c) (d + 59) 0 (.loop (rnd Tryz.f14 0)) a os X k) X k _ e1)
theorem TL14_0cs (r16c : RF) (code inp mem out : ByteArray) (pc gas stand err : Int) (es : List (List AV)) (d m : Nat) (L : AAct → List AObj → ∀ X : Type, (AExit → AAct → List AObj → Option X) → Option X) (X : Type) (k : AExit → AAct → List AObj → Option X)
    (x1 : RE) (e1 : r16c [AV.agg [st code, st inp, AV.sl 4 es, st mem, i64 pc, i64 gas, i64 stand, i64 err, st out]] [] = x1) :
    roundL (E14_0c r16c) (d + 59) 0 (rnd Tryz.f14 0) L ⟨(jn 6 (.ptr 0 0 :: .ptr 1 0 :: jn 12 [])), [], 14, 0, false⟩ [.cells (Fr e0 e0 (.v (.slice none 0 0)) e0 0 0 0 0 e0), .cells (Fr code inp (.sl 4 es) mem pc gas stand err out)] X (bK (E14_0c r16c) (m + 60) 0 k) =
    bif stand == 0 then bif okAlt a16c x1 then L { tmps := (jn 6 (AV.ptr 0 0 :: AV.ptr 1 0 :: jn 12 [])), defers := [], fn := 14, foot := 0, round := false } [AObj.cells [st (ByteArray.mk #[]), st (ByteArray.mk #[]), AV.v (Value.slice none 0 0), st (ByteArray.mk #[]), i64 0, i64 0, i64 0, i64 0, st (ByteArray.mk #[])], AObj.cells [st ((rV x1).items.getD 0 J).toStr, st ((rV x1).items.getD 1 J).toStr, AV.sl 4 (List.map (fun e => rebs [sh6, sh6, sh6, sh6] e 0) ((rV x1).items.getD 2 J).toSl), st ((rV x1).items.getD 3 J).toStr, i64 ((rV x1).items.getD 4 J).toInt, i64 ((rV x1).items.getD 5 J).toInt, i64 ((rV x1).items.getD 6 J).toInt, i64 ((rV x1).items.getD 7 J).toInt, st ((rV x1).items.getD 8 J).toStr]] X (bK (E14_0c r16c) (m + 60) 0 k) else none else k AExit.normal { tmps := (jn 6 (AV.ptr 0 0 :: AV.ptr 1 0 :: jn 12 [])), defers := [], fn := 14, foot := 0, round := false } [AObj.cells [st (ByteArray.mk #[]), st (ByteArray.mk #[]), AV.v (Value.slice none 0 0), st (ByteArray.mk #[]), i64 0, i64 0, i64 0, i64 0, st (ByteArray.mk #[])], AObj.cells [st code, st inp, AV.sl 4 es, st mem, i64 pc, i64 gas, i64 stand, i64 err, st out]] := by subst e1; kernel_rfl
theorem T14_0cs (r16c : RF) (code inp mem out : ByteArray) (pc gas stand err : Int) (es : List (List AV)) (d m : Nat) (X : Type) (k : AExit → AAct → List AObj → Option X)
    (x1 : RE) (e1 : r16c [AV.agg [st code, st inp, AV.sl 4 es, st mem, i64 pc, i64 gas, i64 stand, i64 err, st out]] [] = x1) :
    exec (E14_0c r16c) (d + 60) 0 (.loop (rnd Tryz.f14 0)) ⟨(jn 6 (.ptr 0 0 :: .ptr 1 0 :: jn 12 [])), [], 14, 0, false⟩ [.cells (Fr e0 e0 (.v (.slice none 0 0)) e0 0 0 0 0 e0), .cells (Fr code inp (.sl 4 es) mem pc gas stand err out)] X (bK (E14_0c r16c) (m + 60) 0 k) =
    bif stand == 0 then bif okAlt a16c x1 then exec (E14_0c r16c) (d + 59) 0 (.loop (rnd Tryz.f14 0)) { tmps := (jn 6 (AV.ptr 0 0 :: AV.ptr 1 0 :: jn 12 [])), defers := [], fn := 14, foot := 0, round := false } [AObj.cells [st (ByteArray.mk #[]), st (ByteArray.mk #[]), AV.v (Value.slice none 0 0), st (ByteArray.mk #[]), i64 0, i64 0, i64 0, i64 0, st (ByteArray.mk #[])], AObj.cells [st ((rV x1).items.getD 0 J).toStr, st ((rV x1).items.getD 1 J).toStr, AV.sl 4 (List.map (fun e => rebs [sh6, sh6, sh6, sh6] e 0) ((rV x1).items.getD 2 J).toSl), st ((rV x1).items.getD 3 J).toStr, i64 ((rV x1).items.getD 4 J).toInt, i64 ((rV x1).items.getD 5 J).toInt, i64 ((rV x1).items.getD 6 J).toInt, i64 ((rV x1).items.getD 7 J).toInt, st ((rV x1).items.getD 8 J).toStr]] X (bK (E14_0c r16c) (m + 60) 0 k) else none else k AExit.normal { tmps := (jn 6 (AV.ptr 0 0 :: AV.ptr 1 0 :: jn 12 [])), defers := [], fn := 14, foot := 0, round := false } [AObj.cells [st (ByteArray.mk #[]), st (ByteArray.mk #[]), AV.v (Value.slice none 0 0), st (ByteArray.mk #[]), i64 0, i64 0, i64 0, i64 0, st (ByteArray.mk #[])], AObj.cells [st code, st inp, AV.sl 4 es, st mem, i64 pc, i64 gas, i64 stand, i64 err, st out]] := (exec_loop _ _ _ _ _ _ _ _).trans (TL14_0cs r16c code inp mem out pc gas stand err es d m (fun a os X k => exec (E14_0c r16c) (d + 59) 0 (.loop (rnd Tryz.f14 0)) a os X k) X k _ e1)
noncomputable def E14c (h14_0c : RB) : Env := En 14 [] [] [] [(0, bShaped A14_0c [] (some [6, 7]) h14_0c)] [] []
noncomputable def a14c : Alt := ⟨false, .agg shF, []⟩
noncomputable def A14c : List Alt := [a14c]
theorem T14c (h14_0c : RB) (code inp : ByteArray) (gas : Int) (X : Type) (k : AEnd → List AObj → Option X)
    (x1 : RBE) (e1 : h14_0c (blk Tryz.f14 0) { tmps := (jn 6 (AV.ptr 0 0 :: AV.ptr 1 0 :: jn 12 [])), defers := [], fn := 14, foot := 0, round := false } [AObj.cells [st (ByteArray.mk #[]), st (ByteArray.mk #[]), AV.v (Value.slice none 0 0), st (ByteArray.mk #[]), i64 0, i64 0, i64 0, i64 0, st (ByteArray.mk #[])], AObj.cells [st code, st inp, AV.v (Value.slice none 0 0), st (ByteArray.mk #[]), i64 0, i64 (bif decide ((bif decide (100000 < gas) then 100000 else gas) > 0) then bif decide (100000 < gas) then 100000 else gas else 0), i64 0, i64 0, st (ByteArray.mk #[])]] = x1) :
    body (E14c h14_0c) 60 14 Tryz.f14 (cod Tryz.f14) [st code, st inp, i64 gas] [] X k =
    bif okB a14_0c 14 0 false x1 then k (.ret (AV.agg [st (((bOs x1).getD 1 AObj.dead).cellsOf.getD 0 J).toStr, st (((bOs x1).getD 1 AObj.dead).cellsOf.getD 1 J).toStr, AV.sl 4 (List.map (fun e => rebs [sh6, sh6, sh6, sh6] e 0) (((bOs x1).getD 1 AObj.dead).cellsOf.getD 2 J).toSl), st (((bOs x1).getD 1 AObj.dead).cellsOf.getD 3 J).toStr, i64 (((bOs x1).getD 1 AObj.dead).cellsOf.getD 4 J).toInt, i64 (((bOs x1).getD 1 AObj.dead).cellsOf.getD 5 J).toInt, i64 (((bOs x1).getD 1 AObj.dead).cellsOf.getD 6 J).toInt, i64 (((bOs x1).getD 1 AObj.dead).cellsOf.getD 7 J).toInt, st (((bOs x1).getD 1 AObj.dead).cellsOf.getD 8 J).toStr])) [] else none := by subst e1; kernel_rfl
noncomputable def r14c : RF := runR (body (E14c h14_0c) 60 14 Tryz.f14 (cod Tryz.f14))
theorem q14c (args : List AV) (os : List AObj) : r14c args os = body (E14c h14_0c) 60 14 Tryz.f14 (cod Tryz.f14) args os _ fin := qR _ _ _
theorem ok14c : SpecOK P 14 (shaped A14c r14c) := by
  unfold r14c E14c
  refine okF 60 ?_ ?_ ?_ Tryz.func14 ?_ ?_ _
  · exact tnil
  · exact trivial
  · exact (hcons okb14_0c hnil)
  · kernel_rfl
  · kernel_rfl
noncomputable def E32c : Env := En 32 [] [] [(53, Tryz.f53, cod Tryz.f53), (96, Tryz.f96, cod Tryz.f96), (97, Tryz.f97, cod Tryz.f97)] [] [] []
noncomputable def a32c : Alt := ⟨false, .str, []⟩
noncomputable def A32c : List Alt := [a32c]
noncomputable def r32c : RF := runR (body (E32c) 600 32 Tryz.f32 (cod Tryz.f32))
theorem q32c (args : List AV) (os : List AObj) : r32c args os = body (E32c) 600 32 Tryz.f32 (cod Tryz.f32) args os _ fin := qR _ _ _
theorem ok32c : SpecOK P 32 (shaped A32c r32c) := by
  unfold r32c E32c
  refine okF 600 ?_ ?_ ?_ Tryz.func32 ?_ ?_ _
  · exact tnil
  · exact (And.intro (And.intro Tryz.func53 (And.intro (by kernel_rfl) (by kernel_rfl))) (And.intro (And.intro Tryz.func96 (And.intro (by kernel_rfl) (by kernel_rfl))) (And.intro (And.intro Tryz.func97 (And.intro (by kernel_rfl) (by kernel_rfl))) trivial)))
  · exact hnil
  · kernel_rfl
  · kernel_rfl
noncomputable def E12 (r14c : RF) (r32c : RF) : Env := En 12 [] [] [] [] [] [(14, shaped A14c r14c), (32, shaped A32c r32c)]
noncomputable def a12 : Alt := ⟨false, .bool, []⟩
noncomputable def A12 : List Alt := [a12]
theorem T12 (r14c : RF) (r32c : RF) (X : Type) (k : AEnd → List AObj → Option X)
    (x1 : RE) (e1 : r14c [st (ByteArray.mk #[96, 2, 96, 3, 1, 95, 82, 96, 32, 95, 243]), st (ByteArray.mk #[]), i64 1000] [] = x1)
    (x2 : RE) (e2 : r14c [st (ByteArray.mk #[1]), st (ByteArray.mk #[]), i64 1000] [] = x2)
    (x3 : RE) (e3 : r14c [st (ByteArray.mk #[96, 9, 86]), st (ByteArray.mk #[]), i64 1000] [] = x3)
    (x4 : RE) (e4 : r32c [u8 1] [] = x4) :
    body (E12 r14c r32c) 60 12 Tryz.f12 (cod Tryz.f12) [] [] X k =
    bif okAlt a14c x1 then bif okAlt a14c x2 then bif okAlt a14c x3 then bif okAlt a32c x4 then bif (rV x4).toStr.toList == (ByteArray.mk #[65, 68, 68]).toList then bif ((rV x1).items.getD 6 J).toInt == 1 then bif (↑((rV x1).items.getD 8 J).toStr.size : Int) == 32 then bif decide (0 ≤ 31) && decide (31 < (↑((rV x1).items.getD 8 J).toStr.size : Int)) then bif (↑(((rV x1).items.getD 8 J).toStr.data.1.getD (Int.toNat 31) 0).toNat : Int) == 5 then bif ((rV x2).items.getD 7 J).toInt == 19 then k (.ret (bo (((rV x3).items.getD 7 J).toInt == 20))) [] else k (.ret (bo false)) [] else k (.ret (bo false)) [] else none else k (.ret (bo false)) [] else k (.ret (bo false)) [] else k (.ret (bo false)) [] else none else none else none else none := by subst e1 e2 e3 e4; kernel_rfl
noncomputable def r12 : RF := runR (body (E12 r14c r32c) 60 12 Tryz.f12 (cod Tryz.f12))
theorem q12 (args : List AV) (os : List AObj) : r12 args os = body (E12 r14c r32c) 60 12 Tryz.f12 (cod Tryz.f12) args os _ fin := qR _ _ _
theorem ok12 : SpecOK P 12 (shaped A12 r12) := by
  unfold r12 E12
  refine okF 60 ?_ ?_ ?_ Tryz.func12 ?_ ?_ _
  · exact (tcons ok14c (tcons ok32c tnil))
  · exact trivial
  · exact hnil
  · kernel_rfl
  · kernel_rfl
end Go.Proofs.Vm
end
section
open Go Go.Abs
namespace Go.Proofs.Vm
set_option maxRecDepth 100000
set_option maxHeartbeats 0
theorem s16a0 : r16c [FrA (ByteArray.mk #[96, 2, 96, 3, 1, 95, 82, 96, 32, 95, 243]) (ByteArray.mk #[]) [] (ByteArray.mk #[]) 0 1000 0 0 (ByteArray.mk #[])] [] = some (.ret (FrA (ByteArray.mk #[96, 2, 96, 3, 1, 95, 82, 96, 32, 95, 243]) (ByteArray.mk #[]) [[u 2, u 0, u 0, u 0]] (ByteArray.mk #[]) 2 997 0 0 (ByteArray.mk #[])), []) := by kernel_rfl
theorem s16a4 : r16c [FrA (ByteArray.mk #[96, 2, 96, 3, 1, 95, 82, 96, 32, 95, 243]) (ByteArray.mk #[]) [[u 5, u 0, u 0, u 0], [u 0, u 0, u 0, u 0]] (ByteArray.mk #[]) 6 989 0 0 (ByteArray.mk #[])] [] = some (.ret (FrA (ByteArray.mk #[96, 2, 96, 3, 1, 95, 82, 96, 32, 95, 243]) (ByteArray.mk #[]) [] (ByteArray.mk #[0, 0, 0, 0, 0, 0, 0, 0, 0, 0, 0, 0, 0, 0, 0, 0, 0, 0, 0, 0, 0, 0, 0, 0, 0, 0, 0, 0, 0, 0, 0, 5]) 7 983 0 0 (ByteArray.mk #[])), []) := by kernel_rfl
theorem s16b0 : r16c [FrA (ByteArray.mk #[1]) (ByteArray.mk #[]) [] (ByteArray.mk #[]) 0 1000 0 0 (ByteArray.mk #[])] [] = some (.ret (FrA (ByteArray.mk #[1]) (ByteArray.mk #[]) [] (ByteArray.mk #[]) 0 0 3 19 (ByteArray.mk #[])), []) := by kernel_rfl
end Go.Proofs.Vm
end
section
open Go Go.Abs
namespace Go.Proofs.Vm
set_option maxRecDepth 100000
set_option maxHeartbeats 0
theorem s16a1 : r16c [FrA (ByteArray.mk #[96, 2, 96, 3, 1, 95, 82, 96, 32, 95, 243]) (ByteArray.mk #[]) [[u 2, u 0, u 0, u 0]] (ByteArray.mk #[]) 2 997 0 0 (ByteArray.mk #[])] [] = some (.ret (FrA (ByteArray.mk #[96, 2, 96, 3, 1, 95, 82, 96, 32, 95, 243]) (ByteArray.mk #[]) [[u 2, u 0, u 0, u 0], [u 3, u 0, u 0, u 0]] (ByteArray.mk #[]) 4 994 0 0 (ByteArray.mk #[])), []) := by kernel_rfl
theorem s16a5 : r16c [FrA (ByteArray.mk #[96, 2, 96, 3, 1, 95, 82, 96, 32, 95, 243]) (ByteArray.mk #[]) [] (ByteArray.mk #[0, 0, 0, 0, 0, 0, 0, 0, 0, 0, 0, 0, 0, 0, 0, 0, 0, 0, 0, 0, 0, 0, 0, 0, 0, 0, 0, 0, 0, 0, 0, 5]) 7 983 0 0 (ByteArray.mk #[])] [] = some (.ret (FrA (ByteArray.mk #[96, 2, 96, 3, 1, 95, 82, 96, 32, 95, 243]) (ByteArray.mk #[]) [[u 32, u 0, u 0, u 0]] (ByteArray.mk #[0, 0, 0, 0, 0, 0, 0, 0, 0, 0, 0, 0, 0, 0, 0, 0, 0, 0, 0, 0, 0, 0, 0, 0, 0, 0, 0, 0, 0, 0, 0, 5]) 9 980 0 0 (ByteArray.mk #[])), []) := by kernel_rfl
theorem s16c0 : r16c [FrA (ByteArray.mk #[96, 9, 86]) (ByteArray.mk #[]) [] (ByteArray.mk #[]) 0 1000 0 0 (ByteArray.mk #[])] [] = some (.ret (FrA (ByteArray.mk #[96, 9, 86]) (ByteArray.mk #[]) [[u 9, u 0, u 0, u 0]] (ByteArray.mk #[]) 2 997 0 0 (ByteArray.mk #[])), []) := by kernel_rfl
end Go.Proofs.Vm
end
section
open Go Go.Abs
namespace Go.Proofs.Vm
set_option maxRecDepth 100000
set_option maxHeartbeats 0
theorem s16a2 : r16c [FrA (ByteArray.mk #[96, 2, 96, 3, 1, 95, 82, 96, 32, 95, 243]) (ByteArray.mk #[]) [[u 2, u 0, u 0, u 0], [u 3, u 0, u 0, u 0]] (ByteArray.mk #[]) 4 994 0 0 (ByteArray.mk #[])] [] = some (.ret (FrA (ByteArray.mk #[96, 2, 96, 3, 1, 95, 82, 96, 32, 95, 243]) (ByteArray.mk #[]) [[u 5, u 0, u 0, u 0]] (ByteArray.mk #[]) 5 991 0 0 (ByteArray.mk #[])), []) := by kernel_rfl
theorem s16a6 : r16c [FrA (ByteArray.mk #[96, 2, 96, 3, 1, 95, 82, 96, 32, 95, 243]) (ByteArray.mk #[]) [[u 32, u 0, u 0, u 0]] (ByteArray.mk #[0, 0, 0, 0, 0, 0, 0, 0, 0, 0, 0, 0, 0, 0, 0, 0, 0, 0, 0, 0, 0, 0, 0, 0, 0, 0, 0, 0, 0, 0, 0, 5]) 9 980 0 0 (ByteArray.mk #[])] [] = some (.ret (FrA (ByteArray.mk #[96, 2, 96, 3, 1, 95, 82, 96, 32, 95, 243]) (ByteArray.mk #[]) [[u 32, u 0, u 0, u 0], [u 0, u 0, u 0, u 0]] (ByteArray.mk #[0, 0, 0, 0, 0, 0, 0, 0, 0, 0, 0, 0, 0, 0, 0, 0, 0, 0, 0, 0, 0, 0, 0, 0, 0, 0, 0, 0, 0, 0, 0, 5]) 10 978 0 0 (ByteArray.mk #[])), []) := by kernel_rfl
theorem s16c1 : r16c [FrA (ByteArray.mk #[96, 9, 86]) (ByteArray.mk #[]) [[u 9, u 0, u 0, u 0]] (ByteArray.mk #[]) 2 997 0 0 (ByteArray.mk #[])] [] = some (.ret (FrA (ByteArray.mk #[96, 9, 86]) (ByteArray.mk #[]) [[u 9, u 0, u 0, u 0]] (ByteArray.mk #[]) 2 0 3 20 (ByteArray.mk #[])), []) := by kernel_rfl
end Go.Proofs.Vm
end
section
open Go Go.Abs
namespace Go.Proofs.Vm
set_option maxRecDepth 100000
set_option maxHeartbeats 0
theorem s16a3 : r16c [FrA (ByteArray.mk #[96, 2, 96, 3, 1, 95, 82, 96, 32, 95, 243]) (ByteArray.mk #[]) [[u 5, u 0, u 0, u 0]] (ByteArray.mk #[]) 5 991 0 0 (ByteArray.mk #[])] [] = some (.ret (FrA (ByteArray.mk #[96, 2, 96, 3, 1, 95, 82, 96, 32, 95, 243]) (ByteArray.mk #[]) [[u 5, u 0, u 0, u 0], [u 0, u 0, u 0, u 0]] (ByteArray.mk #[]) 6 989 0 0 (ByteArray.mk #[])), []) := by kernel_rfl
theorem s16a7 : r16c [FrA (ByteArray.mk #[96, 2, 96, 3, 1, 95, 82, 96, 32, 95, 243]) (ByteArray.mk #[]) [[u 32, u 0, u 0, u 0], [u 0, u 0, u 0, u 0]] (ByteArray.mk #[0, 0, 0, 0, 0, 0, 0, 0, 0, 0, 0, 0, 0, 0, 0, 0, 0, 0, 0, 0, 0, 0, 0, 0, 0, 0, 0, 0, 0, 0, 0, 5]) 10 978 0 0 (ByteArray.mk #[])] [] = some (.ret (FrA (ByteArray.mk #[96, 2, 96, 3, 1, 95, 82, 96, 32, 95, 243]) (ByteArray.mk #[]) [] (ByteArray.mk #[0, 0, 0, 0, 0, 0, 0, 0, 0, 0, 0, 0, 0, 0, 0, 0, 0, 0, 0, 0, 0, 0, 0, 0, 0, 0, 0, 0, 0, 0, 0, 5]) 11 978 1 0 (ByteArray.mk #[0, 0, 0, 0, 0, 0, 0, 0, 0, 0, 0, 0, 0, 0, 0, 0, 0, 0, 0, 0, 0, 0, 0, 0, 0, 0, 0, 0, 0, 0, 0, 5])), []) := by kernel_rfl
end Go.Proofs.Vm
end
section
open Go Go.Abs
namespace Go.Proofs.Vm
set_option maxRecDepth 100000
set_option maxHeartbeats 1000000
theorem okFrS {f : Fm} (he : AllU f.es) : okSs shF f.cs = true := okSs_cons rfl (okSs_cons rfl (okSl he rfl))
theorem st14c {f g : Fm} (h : r16c [f.av] [] = some (.ret g.av, [])) (h0 : f.stand = 0) (he : AllU g.es) (F m : Nat) (X : Type) (k : AExit → AAct → List AObj → Option X) :
    exec (E14_0c r16c) (F + 60) 0 (.loop (rnd Tryz.f14 0)) A14t [FZ, .cells f.cs] X (bK (E14_0c r16c) (m + 60) 0 k) = exec (E14_0c r16c) (F + 59) 0 (.loop (rnd Tryz.f14 0)) A14t [FZ, .cells g.cs] X (bK (E14_0c r16c) (m + 60) 0 k) := by
  have hm := map_rebU he
  have ho := okFrS he
  have hh := T14_0cs r16c f.code f.inp f.mem f.out f.pc f.gas f.stand f.err f.es F m X k _ h
  replace hh := go hh (by simpa using h0)
  replace hh := go hh (okAlt_t rfl ho rfl)
  obtain ⟨g1, g2, g3, g4, g5, g6, g7, g8, g9⟩ := g
  have h2 : exec (E14_0c r16c) (F + 60) 0 (.loop (rnd Tryz.f14 0)) A14t [FZ, .cells f.cs] X (bK (E14_0c r16c) (m + 60) 0 k) = exec (E14_0c r16c) (F + 59) 0 (.loop (rnd Tryz.f14 0)) A14t [FZ, .cells (Fr g1 g2 (.sl 4 (List.map (fun e => rebs [sh6, sh6, sh6, sh6] e 0) g3)) g4 g5 g6 g7 g8 g9)] X (bK (E14_0c r16c) (m + 60) 0 k) := hh
  rw [hm] at h2
  exact h2
theorem en14c {f : Fm} (h0 : f.stand ≠ 0) (F m : Nat) (X : Type) (k : AExit → AAct → List AObj → Option X) :
    exec (E14_0c r16c) (F + 60) 0 (.loop (rnd Tryz.f14 0)) A14t [FZ, .cells f.cs] X (bK (E14_0c r16c) (m + 60) 0 k) = k .normal A14t [FZ, .cells f.cs] :=
  gn (T14_0cs r16c f.code f.inp f.mem f.out f.pc f.gas f.stand f.err f.es F m X k _ rfl) (by simpa using h0)
inductive Ch : Nat → Fm → Fm → Prop
  | nil {f : Fm} (h : f.stand ≠ 0) : Ch 0 f f
  | cons {n : Nat} {f g e : Fm} (h : r16c [f.av] [] = some (.ret g.av, [])) (h0 : f.stand = 0) (he : AllU g.es) (hc : Ch n g e) : Ch (n + 1) f e
theorem Ch.run {n : Nat} {f e : Fm} (h : Ch n f e) : ∀ (F m : Nat) (X : Type) (k : AExit → AAct → List AObj → Option X), n ≤ F →
    exec (E14_0c r16c) (F + 60) 0 (.loop (rnd Tryz.f14 0)) A14t [FZ, .cells f.cs] X (bK (E14_0c r16c) (m + 60) 0 k) = k .normal A14t [FZ, .cells e.cs] := by
  induction h with
  | nil h => intro F m X k _; exact en14c h F m X k
  | cons h h0 he hc ih =>
    intro F m X k hF
    obtain ⟨F, rfl⟩ : ∃ F', F = F' + 1 := ⟨F - 1, by omega⟩
    exact (st14c h h0 he (F + 1) m X k).trans (ih F m X k (by omega))
theorem ru14c {n : Nat} {code : ByteArray} {g e : Fm} (h : r16c [(fm0 code e0 1000).av] [] = some (.ret g.av, [])) (hg : AllU g.es) (hc : Ch n g e) (hn : n ≤ 100) (he : AllU e.es) : r14c [st code, st e0, i64 1000] [] = some (.ret e.av, []) := by
  have hm := map_rebU hg
  have ho := okFrS hg
  have hh := T14_0cr r16c code e0 1000 139 139 _ finB _ h
  replace hh := go hh (okAlt_t rfl ho rfl)
  have h2 : exec (E14_0c r16c) 199 0 (.loop (rnd Tryz.f14 0)) A14t [FZ, .cells (Fr code e0 (.v (.slice none 0 0)) e0 0 1000 0 0 e0)] _ (bK (E14_0c r16c) 199 0 finB) = exec (E14_0c r16c) 198 0 (.loop (rnd Tryz.f14 0)) A14t [FZ, .cells (Fr g.code g.inp (.sl 4 (List.map (fun e => rebs [sh6, sh6, sh6, sh6] e 0) g.es)) g.mem g.pc g.gas g.stand g.err g.out)] _ (bK (E14_0c r16c) 199 0 finB) := by
    obtain ⟨g1, g2, g3, g4, g5, g6, g7, g8, g9⟩ := g
    exact hh
  rw [hm] at h2
  have h3 := h2.trans (hc.run 138 139 _ finB (by omega))
  have e1 : h14_0c (blk Tryz.f14 0) A14t [FZ, .cells (Fr code e0 (.v (.slice none 0 0)) e0 0 1000 0 0 e0)] = finB .normal A14t [FZ, .cells e.cs] := (p14_0c _ _ 199 rfl).trans h3
  have h4 := (q14c _ _).trans (T14c h14_0c code e0 1000 _ fin _ e1)
  have hme := map_rebU he
  have hoe := okFr he
  replace h4 := go h4 (okB_t rfl rfl (okCons rfl (okCons hoe rfl)) rfl)
  have h5 : r14c [st code, st e0, i64 1000] [] = fin (AEnd.ret (.agg (Fr e.code e.inp (.sl 4 (List.map (fun e => rebs [sh6, sh6, sh6, sh6] e 0) e.es)) e.mem e.pc e.gas e.stand e.err e.out))) [] := by
    obtain ⟨g1, g2, g3, g4, g5, g6, g7, g8, g9⟩ := e
    exact h4
  rw [hme] at h5
  exact h5
theorem uE (x : Int) (h0 : 0 ≤ x) (h1 : x ≤ 1000) : isU [u x, u 0, u 0, u 0] := ⟨x, 0, 0, 0, r4c ⟨h0, by omega⟩, rfl⟩
theorem u0 : AllU [] := fun _ h => by cases h
theorem u1 {x : Int} (h0 : 0 ≤ x) (h1 : x ≤ 1000) : AllU [[u x, u 0, u 0, u 0]] := fun e h => by rw [List.mem_singleton.1 h]; exact uE x h0 h1
theorem u2 {x y : Int} (h0 : 0 ≤ x) (h1 : x ≤ 1000) (h2 : 0 ≤ y) (h3 : y ≤ 1000) : AllU [[u x, u 0, u 0, u 0], [u y, u 0, u 0, u 0]] := fun e h => by
  rcases List.mem_cons.1 h with h | h
  · rw [h]; exact uE x h0 h1
  · rw [List.mem_singleton.1 h]; exact uE y h2 h3
def fa0 : Fm := ⟨(ByteArray.mk #[96, 2, 96, 3, 1, 95, 82, 96, 32, 95, 243]), (ByteArray.mk #[]), [], (ByteArray.mk #[]), 0, 1000, 0, 0, (ByteArray.mk #[])⟩
def fa1 : Fm := ⟨(ByteArray.mk #[96, 2, 96, 3, 1, 95, 82, 96, 32, 95, 243]), (ByteArray.mk #[]), [[u 2, u 0, u 0, u 0]], (ByteArray.mk #[]), 2, 997, 0, 0, (ByteArray.mk #[])⟩
theorem ya1 : AllU fa1.es := (u1 (by decide) (by decide))
def fa2 : Fm := ⟨(ByteArray.mk #[96, 2, 96, 3, 1, 95, 82, 96, 32, 95, 243]), (ByteArray.mk #[]), [[u 2, u 0, u 0, u 0], [u 3, u 0, u 0, u 0]], (ByteArray.mk #[]), 4, 994, 0, 0, (ByteArray.mk #[])⟩
theorem ya2 : AllU fa2.es := (u2 (by decide) (by decide) (by decide) (by decide))
def fa3 : Fm := ⟨(ByteArray.mk #[96, 2, 96, 3, 1, 95, 82, 96, 32, 95, 243]), (ByteArray.mk #[]), [[u 5, u 0, u 0, u 0]], (ByteArray.mk #[]), 5, 991, 0, 0, (ByteArray.mk #[])⟩
theorem ya3 : AllU fa3.es := (u1 (by decide) (by decide))
def fa4 : Fm := ⟨(ByteArray.mk #[96, 2, 96, 3, 1, 95, 82, 96, 32, 95, 243]), (ByteArray.mk #[]), [[u 5, u 0, u 0, u 0], [u 0, u 0, u 0, u 0]], (ByteArray.mk #[]), 6, 989, 0, 0, (ByteArray.mk #[])⟩
theorem ya4 : AllU fa4.es := (u2 (by decide) (by decide) (by decide) (by decide))
def fa5 : Fm := ⟨(ByteArray.mk #[96, 2, 96, 3, 1, 95, 82, 96, 32, 95, 243]), (ByteArray.mk #[]), [], (ByteArray.mk #[0, 0, 0, 0, 0, 0, 0, 0, 0, 0, 0, 0, 0, 0, 0, 0, 0, 0, 0, 0, 0, 0, 0, 0, 0, 0, 0, 0, 0, 0, 0, 5]), 7, 983, 0, 0, (ByteArray.mk #[])⟩
theorem ya5 : AllU fa5.es := u0
def fa6 : Fm := ⟨(ByteArray.mk #[96, 2, 96, 3, 1, 95, 82, 96, 32, 95, 243]), (ByteArray.mk #[]), [[u 32, u 0, u 0, u 0]], (ByteArray.mk #[0, 0, 0, 0, 0, 0, 0, 0, 0, 0, 0, 0, 0, 0, 0, 0, 0, 0, 0, 0, 0, 0, 0, 0, 0, 0, 0, 0, 0, 0, 0, 5]), 9, 980, 0, 0, (ByteArray.mk #[])⟩
theorem ya6 : AllU fa6.es := (u1 (by decide) (by decide))
def fa7 : Fm := ⟨(ByteArray.mk #[96, 2, 96, 3, 1, 95, 82, 96, 32, 95, 243]), (ByteArray.mk #[]), [[u 32, u 0, u 0, u 0], [u 0, u 0, u 0, u 0]], (ByteArray.mk #[0, 0, 0, 0, 0, 0, 0, 0, 0, 0, 0, 0, 0, 0, 0, 0, 0, 0, 0, 0, 0, 0, 0, 0, 0, 0, 0, 0, 0, 0, 0, 5]), 10, 978, 0, 0, (ByteArray.mk #[])⟩
theorem ya7 : AllU fa7.es := (u2 (by decide) (by decide) (by decide) (by decide))
def fa8 : Fm := ⟨(ByteArray.mk #[96, 2, 96, 3, 1, 95, 82, 96, 32, 95, 243]), (ByteArray.mk #[]), [], (ByteArray.mk #[0, 0, 0, 0, 0, 0, 0, 0, 0, 0, 0, 0, 0, 0, 0, 0, 0, 0, 0, 0, 0, 0, 0, 0, 0, 0, 0, 0, 0, 0, 0, 5]), 11, 978, 1, 0, (ByteArray.mk #[0, 0, 0, 0, 0, 0, 0, 0, 0, 0, 0, 0, 0, 0, 0, 0, 0, 0, 0, 0, 0, 0, 0, 0, 0, 0, 0, 0, 0, 0, 0, 5])⟩
theorem ya8 : AllU fa8.es := u0
theorem za8 : Ch 0 fa8 fa8 := .nil (show (1 : Int) ≠ 0 by decide)
theorem za7 : Ch 1 fa7 fa8 := .cons (g := fa8) s16a7 rfl ya8 za8
theorem za6 : Ch 2 fa6 fa8 := .cons (g := fa7) s16a6 rfl ya7 za7
theorem za5 : Ch 3 fa5 fa8 := .cons (g := fa6) s16a5 rfl ya6 za6
theorem za4 : Ch 4 fa4 fa8 := .cons (g := fa5) s16a4 rfl ya5 za5
theorem za3 : Ch 5 fa3 fa8 := .cons (g := fa4) s16a3 rfl ya4 za4
theorem za2 : Ch 6 fa2 fa8 := .cons (g := fa3) s16a2 rfl ya3 za3
theorem za1 : Ch 7 fa1 fa8 := .cons (g := fa2) s16a1 rfl ya2 za2
theorem t14a : r14c [st (ByteArray.mk #[96, 2, 96, 3, 1, 95, 82, 96, 32, 95, 243]), st (ByteArray.mk #[]), i64 1000] [] = some (.ret (FrA (ByteArray.mk #[96, 2, 96, 3, 1, 95, 82, 96, 32, 95, 243]) (ByteArray.mk #[]) [] (ByteArray.mk #[0, 0, 0, 0, 0, 0, 0, 0, 0, 0, 0, 0, 0, 0, 0, 0, 0, 0, 0, 0, 0, 0, 0, 0, 0, 0, 0, 0, 0, 0, 0, 5]) 11 978 1 0 (ByteArray.mk #[0, 0, 0, 0, 0, 0, 0, 0, 0, 0, 0, 0, 0, 0, 0, 0, 0, 0, 0, 0, 0, 0, 0, 0, 0, 0, 0, 0, 0, 0, 0, 5])), []) :=
  ru14c (g := fa1) (e := fa8) s16a0 ya1 za1 (by decide) ya8
def fb0 : Fm := ⟨(ByteArray.mk #[1]), (ByteArray.mk #[]), [], (ByteArray.mk #[]), 0, 1000, 0, 0, (ByteArray.mk #[])⟩
def fb1 : Fm := ⟨(ByteArray.mk #[1]), (ByteArray.mk #[]), [], (ByteArray.mk #[]), 0, 0, 3, 19, (ByteArray.mk #[])⟩
theorem yb1 : AllU fb1.es := u0
theorem zb1 : Ch 0 fb1 fb1 := .nil (show (3 : Int) ≠ 0 by decide)
theorem t14b : r14c [st (ByteArray.mk #[1]), st (ByteArray.mk #[]), i64 1000] [] = some (.ret (FrA (ByteArray.mk #[1]) (ByteArray.mk #[]) [] (ByteArray.mk #[]) 0 0 3 19 (ByteArray.mk #[])), []) :=
  ru14c (g := fb1) (e := fb1) s16b0 yb1 zb1 (by decide) yb1
def fc0 : Fm := ⟨(ByteArray.mk #[96, 9, 86]), (ByteArray.mk #[]), [], (ByteArray.mk #[]), 0, 1000, 0, 0, (ByteArray.mk #[])⟩
def fc1 : Fm := ⟨(ByteArray.mk #[96, 9, 86]), (ByteArray.mk #[]), [[u 9, u 0, u 0, u 0]], (ByteArray.mk #[]), 2, 997, 0, 0, (ByteArray.mk #[])⟩
theorem yc1 : AllU fc1.es := (u1 (by decide) (by decide))
def fc2 : Fm := ⟨(ByteArray.mk #[96, 9, 86]), (ByteArray.mk #[]), [[u 9, u 0, u 0, u 0]], (ByteArray.mk #[]), 2, 0, 3, 20, (ByteArray.mk #[])⟩
theorem yc2 : AllU fc2.es := (u1 (by decide) (by decide))
theorem zc2 : Ch 0 fc2 fc2 := .nil (show (3 : Int) ≠ 0 by decide)
theorem zc1 : Ch 1 fc1 fc2 := .cons (g := fc2) s16c1 rfl yc2 zc2
theorem t14c : r14c [st (ByteArray.mk #[96, 9, 86]), st (ByteArray.mk #[]), i64 1000] [] = some (.ret (FrA (ByteArray.mk #[96, 9, 86]) (ByteArray.mk #[]) [[u 9, u 0, u 0, u 0]] (ByteArray.mk #[]) 2 0 3 20 (ByteArray.mk #[])), []) :=
  ru14c (g := fc1) (e := fc2) s16c0 yc1 zc1 (by decide) yc2
theorem t32c : r32c [u8 1] [] = some (.ret (st (ByteArray.mk #[65, 68, 68])), []) := by kernel_rfl
theorem t12 : r12 [] [] = some (.ret (bo true), []) :=
  ((q12 _ _).trans (T12 r14c r32c _ fin _ t14a _ t14b _ t14c _ t32c)).trans (by kernel_rfl)
theorem okS12 : SpecOK P 12 (ask p12 S12) := ok12.ask fun args os ⟨e1, e2⟩ => by
  subst e1 e2
  exact ⟨_, _, t12, ⟨a12, List.mem_singleton.2 rfl, rfl⟩, fun X kk => rfl⟩
end Go.Proofs.Vm
end
section
open Go Go.Abs
namespace Go.Proofs.Vm
set_option maxRecDepth 100000
set_option maxHeartbeats 0
noncomputable def E4_0 (p12 : List AV → List AObj → Prop) : Env := En 4 [(0, [0, 1, 2, 3, 9], [0, 1, 2, 3])] [] [] [] [] [(12, ask p12 S12)]
noncomputable def a4_0 : BAlt := ⟨.normal, (.str :: .str :: .int .u16 :: .int .u16 :: sj 66 []), [], []⟩
noncomputable def a4_0y : BAlt := ⟨.ret, (.str :: .str :: .int .u16 :: .int .u16 :: sj 4 (.bool :: .int .i64 :: sj 13 (.int .i64 :: .str :: .int .i64 :: .bool :: .junk :: .junk :: .str :: .int .i64 :: .int .u8 :: .bool :: .bool :: sj 36 []))), [], []⟩
noncomputable def A4_0 : List BAlt := [a4_0, a4_0y]
noncomputable def h4_0 : RB := runB (blockRun (E4_0 p12) (fun _ _ => 2000) 0)
theorem q4_0 (c : Code) (a : AAct) (os : List AObj) : h4_0 c a os = exec (E4_0 p12) ((fun _ _ => 2000) a os) 0 (.block 0 c) a os _ finB := qB _ _ _ _ _ _
theorem k4_0 : blk Tryz.f4 0 = .loop (rnd Tryz.f4 0) := by kernel_rfl
theorem p4_0 (T : List AV) (os : List AObj) (F : Nat) (hF : (fun _ _ => 2000) (⟨T, [], 4, 0, false⟩ : AAct) os = F + 1) : h4_0 (blk Tryz.f4 0) ⟨T, [], 4, 0, false⟩ os = exec (E4_0 p12) F 0 (.loop (rnd Tryz.f4 0)) ⟨T, [], 4, 0, false⟩ os _ (bK (E4_0 p12) F 0 finB) := by
  rw [q4_0, hF, exec_block (by kernel_rfl), k4_0]
theorem okb4_0 : BlockOK P 4 0 (bShaped A4_0 [] (some [0, 1, 2, 3, 9]) h4_0) := by
  unfold h4_0 E4_0
  refine okBl _ ?_ ?_ ?_ _ _ _
  · exact (tcons okS12 tnil)
  · exact trivial
  · exact hnil
theorem TL4_0r (p12 : List AV → List AObj → Prop) (code inp : ByteArray) (g n i : Int) (d m : Nat) (L : AAct → List AObj → ∀ X : Type, (AExit → AAct → List AObj → Option X) → Option X) (X : Type) (k : AExit → AAct → List AObj → Option X) :
    roundL (E4_0 p12) (d + 59) 0 (rnd Tryz.f4 0) L ⟨(st code :: st inp :: .v (.int .u16 g) :: .v (.int .u16 n) :: jn 5 (i64 i :: jn 60 [])), [], 4, 0, false⟩ [] X (bK (E4_0 p12) (m + 60) 0 k) =
    bif ilt i (↑code.size : Int) then bif decide (0 ≤ i) && decide (i < (↑code.size : Int)) then bif (↑(code.data.1.getD i.toNat 0).toNat : Int) == 90 then bif gd (p12 [] []) then k AExit.ret { tmps := (st code :: st inp :: AV.v (Value.int IntKind.u16 g) :: AV.v (Value.int IntKind.u16 n) :: jn 4 (bo true :: i64 i :: jn 13 (i64 i :: st code :: i64 (↑code.size : Int) :: bo (ilt i (↑code.size : Int)) :: J :: J :: st code :: i64 i :: u8 (↑(code.data.1.getD i.toNat 0).toNat : Int) :: bo ((↑(code.data.1.getD i.toNat 0).toNat : Int) == 90) :: bo true :: jn 36 []))), defers := [], fn := 4, foot := 0, round := false } [] else none else L { tmps := (st code :: st inp :: AV.v (Value.int IntKind.u16 g) :: AV.v (Value.int IntKind.u16 n) :: jn 5 (i64 (IntKind.i64.wrap (i + 1)) :: jn 60 [])), defers := [], fn := 4, foot := 0, round := false } [] X (bK (E4_0 p12) (m + 60) 0 k) else none else k AExit.normal { tmps := (st code :: st inp :: AV.v (Value.int IntKind.u16 g) :: AV.v (Value.int IntKind.u16 n) :: jn 66 []), defers := [], fn := 4, foot := 0, round := false } [] := by kernel_rfl
theorem T4_0r (p12 : List AV → List AObj → Prop) (code inp : ByteArray) (g n i : Int) (d m : Nat) (X : Type) (k : AExit → AAct → List AObj → Option X) :
    exec (E4_0 p12) (d + 60) 0 (.loop (rnd Tryz.f4 0)) ⟨(st code :: st inp :: .v (.int .u16 g) :: .v (.int .u16 n) :: jn 5 (i64 i :: jn 60 [])), [], 4, 0, false⟩ [] X (bK (E4_0 p12) (m + 60) 0 k) =
    bif ilt i (↑code.size : Int) then bif decide (0 ≤ i) && decide (i < (↑code.size : Int)) then bif (↑(code.data.1.getD i.toNat 0).toNat : Int) == 90 then bif gd (p12 [] []) then k AExit.ret { tmps := (st code :: st inp :: AV.v (Value.int IntKind.u16 g) :: AV.v (Value.int IntKind.u16 n) :: jn 4 (bo true :: i64 i :: jn 13 (i64 i :: st code :: i64 (↑code.size : Int) :: bo (ilt i (↑code.size : Int)) :: J :: J :: st code :: i64 i :: u8 (↑(code.data.1.getD i.toNat 0).toNat : Int) :: bo ((↑(code.data.1.getD i.toNat 0).toNat : Int) == 90) :: bo true :: jn 36 []))), defers := [], fn := 4, foot := 0, round := false } [] else none else exec (E4_0 p12) (d + 59) 0 (.loop (rnd Tryz.f4 0)) { tmps := (st code :: st inp :: AV.v (Value.int IntKind.u16 g) :: AV.v (Value.int IntKind.u16 n) :: jn 5 (i64 (IntKind.i64.wrap (i + 1)) :: jn 60 [])), defers := [], fn := 4, foot := 0, round := false } [] X (bK (E4_0 p12) (m + 60) 0 k) else none else k AExit.normal { tmps := (st code :: st inp :: AV.v (Value.int IntKind.u16 g) :: AV.v (Value.int IntKind.u16 n) :: jn 66 []), defers := [], fn := 4, foot := 0, round := false } [] := (exec_loop _ _ _ _ _ _ _ _).trans (TL4_0r p12 code inp g n i d m (fun a os X k => exec (E4_0 p12) (d + 59) 0 (.loop (rnd Tryz.f4 0)) a os X k) X k)
noncomputable def E4 (p12 : List AV → List AObj → Prop) (p13 : List AV → List AObj → Prop) (p14 : List AV → List AObj → Prop) (v14 : RF) (h4_0 : RB) : Env := En 4 [] [] [] [(0, bShaped A4_0 [] (some [0, 1, 2, 3, 9]) h4_0)] [] [(12, ask p12 S12), (13, ask p13 S12), (14, ask p14 (S16 v14))]
noncomputable def a4 : Alt := ⟨false, .bool, []⟩
noncomputable def A4 : List Alt := [a4]
theorem T4 (p12 : List AV → List AObj → Prop) (p13 : List AV → List AObj → Prop) (p14 : List AV → List AObj → Prop) (v14 : RF) (h4_0 : RB) (code inp : ByteArray) (g n : Int) (X : Type) (k : AEnd → List AObj → Option X)
    (x1 : RBE) (e1 : h4_0 (blk Tryz.f4 0) { tmps := (st code :: st inp :: AV.v (Value.int IntKind.u16 g) :: AV.v (Value.int IntKind.u16 n) :: jn 5 (i64 0 :: jn 60 [])), defers := [], fn := 4, foot := 0, round := false } [] = x1)
    (x2 : RE) (e2 : v14 [st ((bT x1).getD 0 J).toStr, st ((bT x1).getD 1 J).toStr, i64 ((IntKind.i64.wrap ((bT x1).getD 2 J).toInt).tmod 3000)] [] = x2)
    (x3 : RE) (e3 : v14 [st ((bT x1).getD 0 J).toStr, st ((bT x1).getD 1 J).toStr, i64 (IntKind.i64.wrap ((IntKind.i64.wrap ((bT x1).getD 2 J).toInt).tmod 3000 + (IntKind.i64.wrap ((bT x1).getD 3 J).toInt).tmod 3000))] [] = x3) :
    body (E4 p12 p13 p14 v14 h4_0) 60 4 Tryz.f4 (cod Tryz.f4) [st code, st inp, .v (.int .u16 g), .v (.int .u16 n)] [] X k =
    bif ilt 1000 (↑code.size : Int) then bif gd (p12 [] []) then k (.ret (bo true)) [] else none else bif ilt 1000 (↑inp.size : Int) then bif gd (p12 [] []) then k (.ret (bo true)) [] else none else bif okB a4_0 4 0 false x1 then bif gd (p14 [st ((bT x1).getD 0 J).toStr, st ((bT x1).getD 1 J).toStr, i64 ((IntKind.i64.wrap ((bT x1).getD 2 J).toInt).tmod 3000)] []) then bif gd (p14 [st ((bT x1).getD 0 J).toStr, st ((bT x1).getD 1 J).toStr, i64 (IntKind.i64.wrap ((IntKind.i64.wrap ((bT x1).getD 2 J).toInt).tmod 3000 + (IntKind.i64.wrap ((bT x1).getD 3 J).toInt).tmod 3000))] []) then bif ((rV x2).items.getD 6 J).toInt != 1 then bif ((rV x2).items.getD 6 J).toInt != 2 then bif gd (p12 [] []) then k (.ret (bo true)) [] else none else bif gd (p13 [AV.agg [st ((rV x2).items.getD 0 J).toStr, st ((rV x2).items.getD 1 J).toStr, AV.sl 4 ((rV x2).items.getD 2 J).toSl, st ((rV x2).items.getD 3 J).toStr, i64 ((rV x2).items.getD 4 J).toInt, i64 ((rV x2).items.getD 5 J).toInt, i64 ((rV x2).items.getD 6 J).toInt, i64 ((rV x2).items.getD 7 J).toInt, st ((rV x2).items.getD 8 J).toStr], AV.agg [st ((rV x3).items.getD 0 J).toStr, st ((rV x3).items.getD 1 J).toStr, AV.sl 4 ((rV x3).items.getD 2 J).toSl, st ((rV x3).items.getD 3 J).toStr, i64 ((rV x3).items.getD 4 J).toInt, i64 (IntKind.i64.wrap (((rV x3).items.getD 5 J).toInt - (IntKind.i64.wrap ((bT x1).getD 3 J).toInt).tmod 3000)), i64 ((rV x3).items.getD 6 J).toInt, i64 ((rV x3).items.getD 7 J).toInt, st ((rV x3).items.getD 8 J).toStr]] []) then bif gd (p12 [] []) then k (.ret (bo true)) [] else none else none else bif gd (p13 [AV.agg [st ((rV x2).items.getD 0 J).toStr, st ((rV x2).items.getD 1 J).toStr, AV.sl 4 ((rV x2).items.getD 2 J).toSl, st ((rV x2).items.getD 3 J).toStr, i64 ((rV x2).items.getD 4 J).toInt, i64 ((rV x2).items.getD 5 J).toInt, i64 ((rV x2).items.getD 6 J).toInt, i64 ((rV x2).items.getD 7 J).toInt, st ((rV x2).items.getD 8 J).toStr], AV.agg [st ((rV x3).items.getD 0 J).toStr, st ((rV x3).items.getD 1 J).toStr, AV.sl 4 ((rV x3).items.getD 2 J).toSl, st ((rV x3).items.getD 3 J).toStr, i64 ((rV x3).items.getD 4 J).toInt, i64 (IntKind.i64.wrap (((rV x3).items.getD 5 J).toInt - (IntKind.i64.wrap ((bT x1).getD 3 J).toInt).tmod 3000)), i64 ((rV x3).items.getD 6 J).toInt, i64 ((rV x3).items.getD 7 J).toInt, st ((rV x3).items.getD 8 J).toStr]] []) then bif gd (p12 [] []) then k (.ret (bo true)) [] else none else none else none else none else bif okB a4_0y 4 0 false x1 then k (.ret (bo ((bT x1).getD 8 J).toBool)) [] else none := by subst e1 e2 e3; kernel_rfl
noncomputable def r4 : RF := runR (body (E4 p12 p13 p14 v14 h4_0) 60 4 Tryz.f4 (cod Tryz.f4))
theorem q4 (args : List AV) (os : List AObj) : r4 args os = body (E4 p12 p13 p14 v14 h4_0) 60 4 Tryz.f4 (cod Tryz.f4) args os _ fin := qR _ _ _
theorem ok4 : SpecOK P 4 (shaped A4 r4) := by
  unfold r4 E4
  refine okF 60 ?_ ?_ ?_ Tryz.func4 ?_ ?_ _
  · exact (tcons okS12 (tcons okS13 (tcons okS14 tnil)))
  · exact trivial
  · exact (hcons okb4_0 hnil)
  · kernel_rfl
  · kernel_rfl
end Go.Proofs.Vm
end
section
namespace Go.Proofs.Vm
open Go Go.Abs
set_option maxRecDepth 100000
set_option maxHeartbeats 1000000
abbrev A4t (c0 i0 : ByteArray) (g n i : Int) : AAct := ⟨(st c0 :: st i0 :: .v (.int .u16 g) :: .v (.int .u16 n) :: jn 5 (i64 i :: jn 60 [])), [], 4, 0, false⟩
abbrev A4e (c0 i0 : ByteArray) (g n : Int) : AAct := ⟨(st c0 :: st i0 :: .v (.int .u16 g) :: .v (.int .u16 n) :: jn 66 []), [], 4, 0, false⟩
abbrev A4r (code inp : ByteArray) (g n i : Int) (b1 b2 : Bool) (x : Int) : AAct := ⟨(st code :: st inp :: .v (.int .u16 g) :: .v (.int .u16 n) :: jn 4 (bo true :: i64 i :: jn 13 (i64 i :: st code :: i64 (code.size : Int) :: bo b1 :: J :: J :: st code :: i64 i :: u8 x :: bo b2 :: bo true :: jn 36 []))), [], 4, 0, false⟩
theorem spY {α : Type} {b : Bool} {x y r : α} (h : r = (bif b then x else y)) : (b = true ∧ r = x) ∨ (b = false ∧ r = y) := by cases b; exact .inr ⟨rfl, h⟩; exact .inl ⟨rfl, h⟩
theorem l4 (code inp : ByteArray) (g n : Int) (hc : code.size ≤ 1000) (m : Nat) : ∀ (k : Nat) (i : Int), 0 ≤ i → i ≤ code.size → code.size - i ≤ k → ∀ r,
    r = exec (E4_0 p12) (k + 60) 0 (.loop (rnd Tryz.f4 0)) (A4t code inp g n i) [] _ (bK (E4_0 p12) (m + 60) 0 finB) →
    ((∀ j : Nat, i ≤ j → j < code.size → (code.data.1.getD j 0).toNat ≠ 90) ∧ r = finB .normal (A4e code inp g n) []) ∨ ∃ i' b1 b2 x, r = finB .ret (A4r code inp g n i' b1 b2 x) [] := by
  intro k
  induction k with
  | zero =>
    intro i h0 h1 hk r h
    exact .inl ⟨fun j h2 h3 => by omega, gn (h.trans (T4_0r p12 code inp g n i 0 m _ finB)) (ilt_f' (by omega))⟩
  | succ k ih =>
    intro i h0 h1 hk r h
    replace h := h.trans (T4_0r p12 code inp g n i (k + 1) m _ finB)
    by_cases hi : i < code.size
    · replace h := go h (ilt_t' hi)
      replace h := go h (dec2 h0 hi)
      rcases spY h with ⟨hb, h⟩ | ⟨hb, h⟩
      · replace h := go h (gd_t ⟨rfl, rfl⟩)
        exact .inr ⟨_, _, _, _, h⟩
      · rw [w8in (n := i + 1) (by omega) (by omega)] at h
        rcases ih (i + 1) (by omega) (by omega) (by omega) r h with ⟨h2, h3⟩ | h2
        · refine .inl ⟨fun j hj hj2 => ?_, h3⟩
          by_cases he : (j : Int) = i
          · have : i.toNat = j := by omega
            rw [this] at hb
            intro h90
            rw [h90] at hb
            exact absurd hb (by decide)
          · exact h2 j (by omega) hj2
        · exact .inr h2
    · exact .inl ⟨fun j h2 h3 => by omega, gn h (ilt_f' (by omega))⟩
theorem w4 {code inp : ByteArray} {g n : Int} (h0 : 0 ≤ g) (h1 : g ≤ 65535) (h2 : 0 ≤ n) (h3 : n ≤ 65535) : r4 [st code, st inp, .v (.int .u16 g), .v (.int .u16 n)] [] = some (.ret (bo true), []) := by
  obtain ⟨hm, hg0, hg1⟩ := u16mod (n := 3000) h0 h1 (by omega) (by omega)
  obtain ⟨hm', hn0, hn1⟩ := u16mod (n := 3000) h2 h3 (by omega) (by omega)
  have hp : gd (p12 [] []) = true := gd_t ⟨rfl, rfl⟩
  by_cases hc : 1000 < code.size
  · exact go (go ((q4 _ _).trans (T4 p12 p13 p14 v14 h4_0 code inp g n _ fin _ rfl _ rfl _ rfl)) (ilt_t' (by omega))) hp
  by_cases hi : 1000 < inp.size
  · exact go (go (gn ((q4 _ _).trans (T4 p12 p13 p14 v14 h4_0 code inp g n _ fin _ rfl _ rfl _ rfl)) (ilt_f' (by omega))) (ilt_t' (by omega))) hp
  rcases l4 code inp g n (by omega) 1939 1939 0 (by omega) (by omega) (by omega) _ rfl with ⟨hno, e1⟩ | ⟨i', b1, b2, x, e1⟩
  · replace e1 := (p4_0 _ _ 1999 rfl).trans e1
    have hsum : IntKind.i64.wrap ((IntKind.i64.wrap g).tmod 3000 + (IntKind.i64.wrap n).tmod 3000) = g % 3000 + n % 3000 := by rw [hm, hm']; exact w8in (by omega) (by omega)
    have e2 : v14 [st code, st inp, i64 ((IntKind.i64.wrap g).tmod 3000)] [] = some (.ret (endF code inp (g % 3000)).av, []) := by
      rw [hm]; exact w14 (by omega) (by omega)
    have e3 : v14 [st code, st inp, i64 (IntKind.i64.wrap ((IntKind.i64.wrap g).tmod 3000 + (IntKind.i64.wrap n).tmod 3000))] [] = some (.ret (endF code inp (g % 3000 + n % 3000)).av, []) := by
      rw [hsum]; exact w14 (by omega) (by omega)
    have hin := fm0_In (code := code) (inp := inp) (g := g % 3000) (by omega) (by omega) (by omega)
    have hE := endF_stand (code := code) (inp := inp) (gas := g % 3000) (by omega) (by omega)
    have hEn := endF_In (code := code) (inp := inp) (gas := g % 3000) (by omega) (by omega)
    have hmore : (endF code inp (g % 3000)).stand = 1 ∨ (endF code inp (g % 3000)).stand = 2 → endF code inp (g % 3000 + n % 3000) = { endF code inp (g % 3000) with gas := (endF code inp (g % 3000)).gas + n % 3000 } := by
      unfold endF
      rw [clampG_in hg0 (by omega), clampG_in (gas := g % 3000 + n % 3000) (by omega) (by omega)]
      have hbig : (fm0 code inp (g % 3000)).gas + n % 3000 ≤ 1099511627776 := by show g % 3000 + n % 3000 ≤ 1099511627776; omega
      have hno' : ¬ hasGas (fm0 code inp (g % 3000)).code := fun ⟨j, hj, hj2⟩ => hno j (by omega) hj hj2
      have key : ∀ N : Nat, (runF N (fm0 code inp (g % 3000))).stand = 1 ∨ (runF N (fm0 code inp (g % 3000))).stand = 2 → runF N (fm0 code inp (g % 3000 + n % 3000)) = { runF N (fm0 code inp (g % 3000)) with gas := (runF N (fm0 code inp (g % 3000))).gas + n % 3000 } := fun N hs => runF_gas hn0 N hin hbig hg0 hno' hs
      exact key 100001
    have h := (q4 _ _).trans (T4 p12 p13 p14 v14 h4_0 code inp g n _ fin _ e1 _ e2 _ e3)
    have hgas : 0 ≤ (endF code inp (g % 3000)).gas ∧ (endF code inp (g % 3000)).gas ≤ g % 3000 := by
      have h4 := hE.2.1
      have h5 : (endF code inp (g % 3000)).gas ≤ clampG (g % 3000) := hE.2.2.1
      rw [clampG_in hg0 (by omega)] at h5
      exact ⟨h4, h5⟩
    generalize endF code inp (g % 3000 + n % 3000) = f2 at h hmore
    generalize endF code inp (g % 3000) = f at h hmore hEn hgas
    replace h := gn h (ilt_f' (by omega))
    replace h := gn h (ilt_f' (by omega))
    replace h := go h (okB_t rfl rfl rfl rfl)
    replace h := go h (gd_t ⟨code, inp, g % 3000, congrArg (fun x => [st code, st inp, i64 x]) hm, rfl, by omega, by omega⟩)
    replace h := go h (gd_t ⟨code, inp, g % 3000 + n % 3000, congrArg (fun x => [st code, st inp, i64 x]) hsum, rfl, by omega, by omega⟩)
    obtain ⟨a, b, c, d, e, gs, s, r, o⟩ := f
    have hfin : s = 1 ∨ s = 2 → gd (p13 [.agg (Fr a b (.sl 4 c) d e gs s r o), .agg (Fr f2.code f2.inp (.sl 4 f2.es) f2.mem f2.pc (IntKind.i64.wrap (f2.gas - (IntKind.i64.wrap n).tmod 3000)) f2.stand f2.err f2.out)] []) = true := by
      intro hs
      have hq : f2 = ⟨a, b, c, d, e, gs + n % 3000, s, r, o⟩ := hmore hs
      subst hq
      have hw : IntKind.i64.wrap (gs + n % 3000 - n % 3000) = gs := by
        have : 0 ≤ gs ∧ gs ≤ g % 3000 := hgas
        rw [w8in (by omega) (by omega)]; omega
      refine gd_t ⟨⟨a, b, c, d, e, gs, s, r, o⟩, ?_, rfl, hEn.all, hEn.len⟩
      show [AV.agg _, AV.agg (Fr a b (.sl 4 c) d e (IntKind.i64.wrap (gs + n % 3000 - (IntKind.i64.wrap n).tmod 3000)) s r o)] = _
      rw [hm', hw]
    obtain ⟨a2, b2, c2, d2, e2', gs2, s2, r2, o2⟩ := f2
    by_cases hs1 : s = 1
    · replace h := gn h (by show (s != 1) = false; simp [hs1])
      exact go (go h (hfin (.inl hs1))) hp
    · replace h := go h (by show (s != 1) = true; simpa using hs1)
      by_cases hs2 : s = 2
      · replace h := gn h (by show (s != 2) = false; simp [hs2])
        exact go (go h (hfin (.inr hs2))) hp
      · replace h := go h (by show (s != 2) = true; simpa using hs2)
        exact go h hp
  · replace e1 := (p4_0 _ _ 1999 rfl).trans e1
    have h := (q4 _ _).trans (T4 p12 p13 p14 v14 h4_0 code inp g n _ fin _ e1 _ rfl _ rfl)
    replace h := gn h (ilt_f' (by omega))
    replace h := gn h (ilt_f' (by omega))
    replace h := gn h rfl
    exact go h (okB_t rfl rfl rfl rfl)
end Go.Proofs.Vm
end
section
namespace Go.Proofs.Vm
open Go Go.Abs
theorem does_text {f : FuncId} {fn : Func} {vals : Array Value} {w : World} {R : Ending → World → Prop} (hf : P.funcs[f]? = some fn) {c : Code} (hb : fn.body = some c) (hnm : (fn.name == "runtime.NumGoroutine") = false) (h : Does P f vals w R) : Calls P f vals w R := by
  have hrun : (callFunc f vals).run P w = .ok (.enter f vals) w := by
    unfold callFunc
    rw [Sem.run_bind, run_program]
    simp only [Result.andThen_ok, hf, hnm, hb, Option.isNone_some, Bool.false_eq_true, if_false]
    rfl
  rcases h with ⟨v, w', h1, _⟩ | ⟨_, h2⟩
  · rw [hrun] at h1; cases h1
  · exact h2
def emb0 : Emb := { at_ := fun _ => none, F := fun _ => False }
theorem dead0 (i : Nat) : (Abs.look [] i).live = true → False := fun h => by simp [Abs.look, AObj.live] at h
theorem rel0 (w : World) : Rel emb0 (Abs.look []) w where
  obj := fun _ => trivial
  inj := fun i _ _ _ h => (dead0 i h).elim
  out := fun i _ h => (dead0 i h).elim
  old := fun _ h => h.elim
theorem lv0 (b : Nat) : ¬ Lv emb0 (Abs.look []) b := fun h => by
  rcases h with h | ⟨i, _, h, _⟩
  · exact h
  · exact dead0 i h
theorem calls_of {f : FuncId} {fn : Func} {c : Code} {ts : List Alt} {r : RF} (hs : SpecOK P f (shaped ts r)) (hf : P.funcs[f]? = some fn) (hb : fn.body = some c) (hnm : (fn.name == "runtime.NumGoroutine") = false)
    {args : List AV} {b : Bool} (hr : r args [] = some (.ret (bo b), [])) (ht : endSpec (X := RE) (some (.ret (bo b), [])) (fun e os => some (some (e, os))) ts = some (some (.ret (bo b), []))) {vals : Array Value} {w : World}
    (hv : VRs emb0 (Lv emb0 (Abs.look [])) w args vals.toList) : Calls P f vals w fun e w' => e = .returned (.bool b) ∧ Go.RowKit.Below w.heap.size w w' := by
  have h1 : ∀ (X : Type) (k : AEnd → List AObj → Option X), shaped ts r args [] X k = k (.ret (bo b)) [] := fun X k => by
    unfold shaped
    rw [hr]
    rcases endSpec_cases (some (.ret (bo b), [])) ts with ⟨e, os, h2, h3⟩ | h3
    · cases h2; exact h3 X k
    · rw [h3] at ht; cases ht
  refine (does_text hf hb hnm (hs.ok args [] _ [] h1 emb0 w vals (rel0 w) (fun _ _ => rfl) hv)).mono fun e w' ⟨φ', h2⟩ => ?_
  cases e with
  | returned v =>
    have h3 : Post emb0 (Abs.look []) ([] : List AObj).length w (bo b) [] v w' φ' := h2
    refine ⟨?_, ⟨h3.keep.os, h3.keep.tape, h3.keep.output, h3.keep.size, fun k hk => h3.keep.block k hk (lv0 k)⟩⟩
    have h4 := h3.val
    simp only [bo, VR] at h4
    rw [h4]
  | panicked ch => exact h2.elim
  | _ => exact h2.elim
end Go.Proofs.Vm
end
section
namespace Go.Proofs.YtiejicekncnofaaGreat
open Go.ChangeShapes Go.WideShapes Go.ChangeAt Go.RowKit
open Go.ChangeMaps (open_string shut_string)
theorem vmGas_own : ownKnob Tryz.prog.godebug = none := by kernel_rfl
set_option maxRecDepth 100000 in
theorem vmGas_lifted (os : Os) (started : os.Started) (H : Type) (enc : TypeId × Value → H) :
    ReturnsInHanded {} Tryz.checked os 4 .any (Rows.vmGasSpec.pre6 enc Tryz.prog Tryz.f4 Rows.vmGasRow.domain false) (Rows.vmGasSpec.post enc Tryz.prog Tryz.f4 false true false false) := by
  refine returnsInHanded_of_change (C := Tryz.checked) vmGas_own started (by kernel_rfl) Tryz.func4
    (ChangeSpec.witness6 (enc := enc) (C := Tryz.checked) false ⟨#[], #[.string ⟨#[]⟩, .string ⟨#[]⟩, .int .u16 0, .int .u16 0], []⟩ 8 (by kernel_rfl) (by kernel_rfl) (by kernel_rfl) (by kernel_rfl)) ?_
  intro W base args ds gs before hval0 hW hcnd _
  have hval : ∀ (j : Nat) t v, Tryz.f4.params[j]? = some t → args[j]? = some v → Value.okWide Tryz.prog W .any base t v := hval0
  have hW' := hW
  obtain ⟨p, q, hA0, hV, rfl, hfz, hnd⟩ := hW
  have hA : DataW.TrodAll enc Tryz.prog W 0 (fun _ => true) true Tryz.f4.params.toList args.toList ds p := hA0
  rw [Tryz.params4] at hA hval
  obtain ⟨v0, v1, v2, v3, d0, d1, d2, d3, p0, p1, p2, p3, rfl, rfl, rfl, h0, h1, h2, h3⟩ := trodAll_four hA
  obtain ⟨rfl, rfl⟩ := trodVars_none hV
  obtain ⟨a, rfl, rfl, rfl, wa⟩ := open_string Tryz.underlying9 (hval 0 9 v0 rfl rfl) h0
  obtain ⟨b, rfl, rfl, rfl, wb⟩ := open_string Tryz.underlying9 (hval 1 9 v1 rfl rfl) h1
  obtain ⟨g, rfl, rfl, rfl, wg⟩ := open_int Tryz.underlying30 (hval 2 30 v2 rfl rfl) h2
  obtain ⟨n, rfl, rfl, rfl, wn⟩ := open_int Tryz.underlying30 (hval 3 30 v3 rfl rfl) h3
  clear hA0 hval0
  simp only [List.append_nil] at hW'
  have wg' : 0 ≤ g ∧ g ≤ 65535 := by
    have h3 : (decide (IntKind.u16.min ≤ g) && decide (g ≤ IntKind.u16.max)) = true := wg
    have h4 : IntKind.u16.min ≤ g ∧ g ≤ IntKind.u16.max := by simpa only [Bool.and_eq_true, decide_eq_true_eq] using h3
    exact ⟨h4.1, h4.2⟩
  have wn' : 0 ≤ n ∧ n ≤ 65535 := by
    have h3 : (decide (IntKind.u16.min ≤ n) && decide (n ≤ IntKind.u16.max)) = true := wn
    have h4 : IntKind.u16.min ≤ n ∧ n ≤ IntKind.u16.max := by simpa only [Bool.and_eq_true, decide_eq_true_eq] using h3
    exact ⟨h4.1, h4.2⟩
  have hr := Vm.w4 (code := a) (inp := b) (g := g) (n := n) wg'.1 wg'.2 wn'.1 wn'.2
  refine (Vm.calls_of Vm.ok4 Tryz.func4 (c := Vm.cod Tryz.f4) (by kernel_rfl) (by kernel_rfl) hr (by kernel_rfl) (vals := #[.string a, .string b, .int .u16 g, .int .u16 n]) (w := W) (by simp only [Vm.st, Abs.VRs, Abs.VR]; exact ⟨_, _, rfl, rfl, _, _, rfl, rfl, _, _, rfl, rfl, _, _, rfl, rfl, rfl⟩)).mono fun e W' ⟨he, hB⟩ => ?_
  subst he
  refine ⟨_, rfl, _, _, _, [], [], [], hW', ?_, ?_, rfl, hB.frame _, fun h => by cases h⟩
  · exact trodAll_mk1 (shut_bool Tryz.underlying4 true)
  · exact trodAll_mk4 (shut_string Tryz.underlying9 wa) (shut_string Tryz.underlying9 wb) (shut_int Tryz.underlying30 wg) (shut_int Tryz.underlying30 wn)
theorem vmGas_holds : Rows.VmGasSaid :=
  OpenClaim.holds_of_wide 4 Tryz.f4 rfl rfl rfl rfl rfl rfl rfl ⟨rfl, rfl, rfl, rfl, rfl⟩ rfl rfl rfl rfl rfl (by kernel_rfl) Tryz.func4 (by kernel_rfl)
    (of_decide_eq_true (by kernel_rfl)) (by unfold Func.isWrapper; first | (rw [if_pos (by decide +kernel)]; kernel_rfl) | (rw [if_neg (by decide +kernel)]; exact ⟨rfl, rfl⟩))
    (fun os started H enc _ => vmGas_lifted os started H enc)
#print axioms vmGas_holds
end Go.Proofs.YtiejicekncnofaaGreat
end
