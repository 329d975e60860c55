/- Calls that a closed call makes, and what they answer (2). -/
import Derived.KernelRfl
import Derived.WalkKit
import Derived.Orders
import Derived.Test.YtlceligcgelbdaaGreatMK3
set_option linter.unusedVariables false
set_option maxRecDepth 100000
set_option maxHeartbeats 4000000
namespace Go.Proofs.YtlceligcgelbdaaGreat
open Go.CE
def e99:dA:=⟨267,[.c (.v (.slice none 0 0)),.c (.sl 0 0 1 1)],[.cells 3 [.v (.int .i64 100),.v (.int .i64 0)]],.tup [.c (.sl 1 0 0 1),.c (.v (.slice none 0 0))],[(1,.cells 3 [])]⟩
theorem m99:aT Tryz.prog e99:=aQ mixed gX cP 100000 200 (by kernel_rfl)
def bYW:dA:=⟨267,[.c (.sl 0 0 1 1),.c (.sl 1 0 1 1)],[.cells 3 [.v (.int .i64 100),.v (.int .i64 0)],.cells 3 [.v (.int .i64 100),.v (.int .i64 0)]],.tup [.c (.sl 2 0 1 1),.c (.sl 5 0 0 1)],[(2,.cells 3 [.v (.int .i64 1)]),(5,.cells 3 [.v (.int .i64 0)])]⟩
theorem bM1:aT Tryz.prog bYW:=aQ mixed gX (aS cP (aU m0 (fun p hp=>absurd hp List.not_mem_nil))) 100000 200 (by kernel_rfl)
def cBs:dA:=⟨267,[.c (.sl 0 0 1 1),.c (.sl 1 0 1 1)],[.cells 3 [.v (.int .i64 2500),.v (.int .i64 0)],.cells 3 [.v (.int .i64 10000),.v (.int .i64 0)]],.tup [.c (.sl 2 0 0 1),.c (.sl 5 0 1 1)],[(2,.cells 3 [.v (.int .i64 0)]),(5,.cells 3 [.v (.int .i64 2500)])]⟩
theorem bYQ:aT Tryz.prog cBs:=aQ mixed gX (aS cP (aU m1 (fun p hp=>absurd hp List.not_mem_nil))) 100000 200 (by kernel_rfl)
def cAV:dA:=⟨267,[.c (.sl 0 0 1 1),.c (.sl 1 0 1 1)],[.cells 3 [.v (.int .i64 10000),.v (.int .i64 0)],.cells 3 [.v (.int .i64 2500)]],.tup [.c (.sl 2 0 1 1),.c (.sl 5 0 0 1)],[(2,.cells 3 [.v (.int .i64 4)]),(5,.cells 3 [.v (.int .i64 0)])]⟩
theorem bZz:aT Tryz.prog cAV:=aQ mixed gX (aS cP (aU m2 (fun p hp=>absurd hp List.not_mem_nil))) 100000 200 (by kernel_rfl)
def cAl:dA:=⟨267,[.c (.sl 0 0 1 1),.c (.sl 1 0 1 1)],[.cells 3 [.v (.int .i64 2500),.v (.int .i64 0)],.cells 3 [.v (.int .i64 2500),.v (.int .i64 0)]],.tup [.c (.sl 2 0 1 1),.c (.sl 5 0 0 1)],[(2,.cells 3 [.v (.int .i64 1)]),(5,.cells 3 [.v (.int .i64 0)])]⟩
theorem bYe:aT Tryz.prog cAl:=aQ mixed gX (aS cP (aU m3 (fun p hp=>absurd hp List.not_mem_nil))) 100000 200 (by kernel_rfl)
def bVT:dA:=⟨267,[.c (.sl 0 0 1 1),.c (.sl 1 0 1 1)],[.cells 3 [.v (.int .i64 10000),.v (.int .i64 0)],.cells 3 [.v (.int .i64 2500),.v (.int .i64 0)]],.tup [.c (.sl 2 0 1 1),.c (.sl 5 0 0 1)],[(2,.cells 3 [.v (.int .i64 4)]),(5,.cells 3 [.v (.int .i64 0)])]⟩
theorem bXf:aT Tryz.prog bVT:=aQ mixed gX (aS cP (aU m4 (fun p hp=>absurd hp List.not_mem_nil))) 100000 200 (by kernel_rfl)
def bXa:dA:=⟨267,[.c (.sl 0 0 1 1),.c (.sl 1 0 1 1)],[.cells 3 [.v (.int .i64 7500),.v (.int .i64 0)],.cells 3 [.v (.int .i64 10000),.v (.int .i64 0)]],.tup [.c (.sl 2 0 0 1),.c (.sl 5 0 1 1)],[(2,.cells 3 [.v (.int .i64 0)]),(5,.cells 3 [.v (.int .i64 7500)])]⟩
theorem bVo:aT Tryz.prog bXa:=aQ mixed gX (aS cP (aU m5 (fun p hp=>absurd hp List.not_mem_nil))) 100000 200 (by kernel_rfl)
def bUC:dA:=⟨267,[.c (.sl 0 0 1 1),.c (.sl 1 0 1 1)],[.cells 3 [.v (.int .i64 10000),.v (.int .i64 0)],.cells 3 [.v (.int .i64 7500)]],.tup [.c (.sl 2 0 1 1),.c (.sl 5 0 1 1)],[(2,.cells 3 [.v (.int .i64 1)]),(5,.cells 3 [.v (.int .i64 2500)])]⟩
theorem cCz:aT Tryz.prog bUC:=aQ mixed gX (aS cP (aU m6 (fun p hp=>absurd hp List.not_mem_nil))) 100000 200 (by kernel_rfl)
def bVX:dA:=⟨267,[.c (.sl 0 0 1 1),.c (.sl 1 0 1 1)],[.cells 3 [.v (.int .i64 7500)],.cells 3 [.v (.int .i64 2500)]],.tup [.c (.sl 2 0 1 1),.c (.sl 5 0 0 1)],[(2,.cells 3 [.v (.int .i64 3)]),(5,.cells 3 [.v (.int .i64 0)])]⟩
theorem bW9:aT Tryz.prog bVX:=aQ mixed gX (aS cP (aU m7 (fun p hp=>absurd hp List.not_mem_nil))) 100000 200 (by kernel_rfl)
def cCM:dA:=⟨267,[.c (.sl 0 0 1 1),.c (.sl 1 0 1 1)],[.cells 3 [.v (.int .i64 7500),.v (.int .i64 0)],.cells 3 [.v (.int .i64 2500),.v (.int .i64 0)]],.tup [.c (.sl 2 0 1 1),.c (.sl 5 0 0 1)],[(2,.cells 3 [.v (.int .i64 3)]),(5,.cells 3 [.v (.int .i64 0)])]⟩
theorem bXw:aT Tryz.prog cCM:=aQ mixed gX (aS cP (aU m8 (fun p hp=>absurd hp List.not_mem_nil))) 100000 200 (by kernel_rfl)
def bZ5:dA:=⟨267,[.c (.sl 0 0 1 1),.c (.sl 1 0 1 1)],[.cells 3 [.v (.int .i64 5000),.v (.int .i64 0)],.cells 3 [.v (.int .i64 10000),.v (.int .i64 0)]],.tup [.c (.sl 2 0 0 1),.c (.sl 5 0 1 1)],[(2,.cells 3 [.v (.int .i64 0)]),(5,.cells 3 [.v (.int .i64 5000)])]⟩
theorem bWg:aT Tryz.prog bZ5:=aQ mixed gX (aS cP (aU m9 (fun p hp=>absurd hp List.not_mem_nil))) 100000 200 (by kernel_rfl)
def cAR:dA:=⟨267,[.c (.sl 0 0 1 1),.c (.sl 1 0 1 1)],[.cells 3 [.v (.int .i64 10000),.v (.int .i64 0)],.cells 3 [.v (.int .i64 5000)]],.tup [.c (.sl 2 0 1 1),.c (.sl 5 0 0 1)],[(2,.cells 3 [.v (.int .i64 2)]),(5,.cells 3 [.v (.int .i64 0)])]⟩
theorem cAb:aT Tryz.prog cAR:=aQ mixed gX (aS cP (aU m10 (fun p hp=>absurd hp List.not_mem_nil))) 100000 200 (by kernel_rfl)
def bX6:dA:=⟨267,[.c (.sl 0 0 1 1),.c (.sl 1 0 1 1)],[.cells 3 [.v (.int .i64 5000),.v (.int .i64 0)],.cells 3 [.v (.int .i64 5000),.v (.int .i64 0)]],.tup [.c (.sl 2 0 1 1),.c (.sl 5 0 0 1)],[(2,.cells 3 [.v (.int .i64 1)]),(5,.cells 3 [.v (.int .i64 0)])]⟩
theorem bZj:aT Tryz.prog bX6:=aQ mixed gX (aS cP (aU m11 (fun p hp=>absurd hp List.not_mem_nil))) 100000 200 (by kernel_rfl)
def cBC:dA:=⟨267,[.c (.sl 0 0 1 1),.c (.sl 1 0 1 1)],[.cells 3 [.v (.int .i64 10000),.v (.int .i64 0)],.cells 3 [.v (.int .i64 5000),.v (.int .i64 0)]],.tup [.c (.sl 2 0 1 1),.c (.sl 5 0 0 1)],[(2,.cells 3 [.v (.int .i64 2)]),(5,.cells 3 [.v (.int .i64 0)])]⟩
theorem cB0:aT Tryz.prog cBC:=aQ mixed gX (aS cP (aU m12 (fun p hp=>absurd hp List.not_mem_nil))) 100000 200 (by kernel_rfl)
def bWx:dA:=⟨267,[.c (.sl 0 0 1 1),.c (.sl 1 0 1 1)],[.cells 3 [.v (.int .i64 3000),.v (.int .i64 0)],.cells 3 [.v (.int .i64 10000),.v (.int .i64 0)]],.tup [.c (.sl 2 0 0 1),.c (.sl 5 0 1 1)],[(2,.cells 3 [.v (.int .i64 0)]),(5,.cells 3 [.v (.int .i64 3000)])]⟩
theorem bXU:aT Tryz.prog bWx:=aQ mixed gX (aS cP (aU m13 (fun p hp=>absurd hp List.not_mem_nil))) 100000 200 (by kernel_rfl)
def cAD:dA:=⟨267,[.c (.sl 0 0 1 1),.c (.sl 1 0 1 1)],[.cells 3 [.v (.int .i64 10000),.v (.int .i64 0)],.cells 3 [.v (.int .i64 3000)]],.tup [.c (.sl 2 0 1 1),.c (.sl 5 0 1 1)],[(2,.cells 3 [.v (.int .i64 3)]),(5,.cells 3 [.v (.int .i64 1000)])]⟩
theorem bYX:aT Tryz.prog cAD:=aQ mixed gX (aS cP (aU m14 (fun p hp=>absurd hp List.not_mem_nil))) 100000 200 (by kernel_rfl)
def cDp:dA:=⟨267,[.c (.sl 0 0 1 1),.c (.sl 1 0 1 1)],[.cells 3 [.v (.int .i64 3000)],.cells 3 [.v (.int .i64 1000)]],.tup [.c (.sl 2 0 1 1),.c (.sl 5 0 0 1)],[(2,.cells 3 [.v (.int .i64 3)]),(5,.cells 3 [.v (.int .i64 0)])]⟩
theorem bWH:aT Tryz.prog cDp:=aQ mixed gX (aS cP (aU m15 (fun p hp=>absurd hp List.not_mem_nil))) 100000 200 (by kernel_rfl)
def bWZ:dA:=⟨267,[.c (.sl 0 0 1 1),.c (.sl 1 0 1 1)],[.cells 3 [.v (.int .i64 3000),.v (.int .i64 0)],.cells 3 [.v (.int .i64 1000),.v (.int .i64 0)]],.tup [.c (.sl 2 0 1 1),.c (.sl 5 0 0 1)],[(2,.cells 3 [.v (.int .i64 3)]),(5,.cells 3 [.v (.int .i64 0)])]⟩
theorem bXd:aT Tryz.prog bWZ:=aQ mixed gX (aS cP (aU m16 (fun p hp=>absurd hp List.not_mem_nil))) 100000 200 (by kernel_rfl)
def cC2:dA:=⟨267,[.c (.sl 0 0 1 1),.c (.sl 1 0 1 1)],[.cells 3 [.v (.int .i64 10000),.v (.int .i64 0)],.cells 3 [.v (.int .i64 1000),.v (.int .i64 0)]],.tup [.c (.sl 2 0 1 1),.c (.sl 5 0 0 1)],[(2,.cells 3 [.v (.int .i64 10)]),(5,.cells 3 [.v (.int .i64 0)])]⟩
theorem bWy:aT Tryz.prog cC2:=aQ mixed gX (aS cP (aU m17 (fun p hp=>absurd hp List.not_mem_nil))) 100000 200 (by kernel_rfl)
def bWT:dA:=⟨267,[.c (.sl 0 0 1 1),.c (.sl 1 0 1 1)],[.cells 3 [.v (.int .i64 1000),.v (.int .i64 0)],.cells 3 [.v (.int .i64 10000),.v (.int .i64 0)]],.tup [.c (.sl 2 0 0 1),.c (.sl 5 0 1 1)],[(2,.cells 3 [.v (.int .i64 0)]),(5,.cells 3 [.v (.int .i64 1000)])]⟩
theorem bUz:aT Tryz.prog bWT:=aQ mixed gX (aS cP (aU m18 (fun p hp=>absurd hp List.not_mem_nil))) 100000 200 (by kernel_rfl)
def bYa:dA:=⟨267,[.c (.sl 0 0 1 1),.c (.sl 1 0 1 1)],[.cells 3 [.v (.int .i64 10000),.v (.int .i64 0)],.cells 3 [.v (.int .i64 1000)]],.tup [.c (.sl 2 0 1 1),.c (.sl 5 0 0 1)],[(2,.cells 3 [.v (.int .i64 10)]),(5,.cells 3 [.v (.int .i64 0)])]⟩
theorem bXQ:aT Tryz.prog bYa:=aQ mixed gX (aS cP (aU m19 (fun p hp=>absurd hp List.not_mem_nil))) 100000 200 (by kernel_rfl)
def cBp:dA:=⟨267,[.c (.sl 0 0 1 1),.c (.sl 1 0 1 1)],[.cells 3 [.v (.int .i64 1000),.v (.int .i64 0)],.cells 3 [.v (.int .i64 1000),.v (.int .i64 0)]],.tup [.c (.sl 2 0 1 1),.c (.sl 5 0 0 1)],[(2,.cells 3 [.v (.int .i64 1)]),(5,.cells 3 [.v (.int .i64 0)])]⟩
theorem bZF:aT Tryz.prog cBp:=aQ mixed gX (aS cP (aU m20 (fun p hp=>absurd hp List.not_mem_nil))) 100000 200 (by kernel_rfl)
def bXY:dA:=⟨267,[.c (.sl 0 0 2 1),.c (.sl 1 0 1 1)],[.cells 3 [.v (.int .i64 34464),.v (.int .i64 1)],.cells 3 [.v (.int .i64 100),.v (.int .i64 0)]],.tup [.c (.sl 2 0 1 1),.c (.sl 11 0 0 1)],[(2,.cells 3 [.v (.int .i64 1000),.v (.int .i64 0)]),(11,.cells 3 [.v (.int .i64 0),.v (.int .i64 0)])]⟩
theorem bSI:aT Tryz.prog bXY:=aQ mixed gX (aS cP (aU m21 (aU m22 (fun p hp=>absurd hp List.not_mem_nil)))) 100000 200 (by kernel_rfl)
def bUv:dA:=⟨267,[.c (.sl 0 0 1 1),.c (.sl 1 0 1 1)],[.cells 3 [.v (.int .i64 2550),.v (.int .i64 0)],.cells 3 [.v (.int .i64 10000),.v (.int .i64 0)]],.tup [.c (.sl 2 0 0 1),.c (.sl 5 0 1 1)],[(2,.cells 3 [.v (.int .i64 0)]),(5,.cells 3 [.v (.int .i64 2550)])]⟩
theorem bZE:aT Tryz.prog bUv:=aQ mixed gX (aS cP (aU m23 (fun p hp=>absurd hp List.not_mem_nil))) 100000 200 (by kernel_rfl)
def bVR:dA:=⟨267,[.c (.sl 0 0 1 1),.c (.sl 1 0 1 1)],[.cells 3 [.v (.int .i64 10000),.v (.int .i64 0)],.cells 3 [.v (.int .i64 2550)]],.tup [.c (.sl 2 0 1 1),.c (.sl 5 0 1 1)],[(2,.cells 3 [.v (.int .i64 3)]),(5,.cells 3 [.v (.int .i64 2350)])]⟩
theorem bUy:aT Tryz.prog bVR:=aQ mixed gX (aS cP (aU m24 (fun p hp=>absurd hp List.not_mem_nil))) 100000 200 (by kernel_rfl)
def bWE:dA:=⟨267,[.c (.sl 0 0 1 1),.c (.sl 1 0 1 1)],[.cells 3 [.v (.int .i64 2550)],.cells 3 [.v (.int .i64 2350)]],.tup [.c (.sl 2 0 1 1),.c (.sl 5 0 1 1)],[(2,.cells 3 [.v (.int .i64 1)]),(5,.cells 3 [.v (.int .i64 200)])]⟩
theorem bYG:aT Tryz.prog bWE:=aQ mixed gX (aS cP (aU m25 (fun p hp=>absurd hp List.not_mem_nil))) 100000 200 (by kernel_rfl)
def cCT:dA:=⟨267,[.c (.sl 0 0 1 1),.c (.sl 1 0 1 1)],[.cells 3 [.v (.int .i64 2350)],.cells 3 [.v (.int .i64 200)]],.tup [.c (.sl 2 0 1 1),.c (.sl 5 0 1 1)],[(2,.cells 3 [.v (.int .i64 11)]),(5,.cells 3 [.v (.int .i64 150)])]⟩
theorem bY1:aT Tryz.prog cCT:=aQ mixed gX (aS cP (aU m26 (fun p hp=>absurd hp List.not_mem_nil))) 100000 200 (by kernel_rfl)
def cBU:dA:=⟨267,[.c (.sl 0 0 1 1),.c (.sl 1 0 1 1)],[.cells 3 [.v (.int .i64 200)],.cells 3 [.v (.int .i64 150)]],.tup [.c (.sl 2 0 1 1),.c (.sl 5 0 1 1)],[(2,.cells 3 [.v (.int .i64 1)]),(5,.cells 3 [.v (.int .i64 50)])]⟩
theorem bXE:aT Tryz.prog cBU:=aQ mixed gX (aS cP (aU m27 (fun p hp=>absurd hp List.not_mem_nil))) 100000 200 (by kernel_rfl)
def bWk:dA:=⟨267,[.c (.sl 0 0 1 1),.c (.sl 1 0 1 1)],[.cells 3 [.v (.int .i64 150)],.cells 3 [.v (.int .i64 50)]],.tup [.c (.sl 2 0 1 1),.c (.sl 5 0 0 1)],[(2,.cells 3 [.v (.int .i64 3)]),(5,.cells 3 [.v (.int .i64 0)])]⟩
theorem bWP:aT Tryz.prog bWk:=aQ mixed gX (aS cP (aU m28 (fun p hp=>absurd hp List.not_mem_nil))) 100000 200 (by kernel_rfl)
def bWf:dA:=⟨267,[.c (.sl 0 0 1 1),.c (.sl 1 0 1 1)],[.cells 3 [.v (.int .i64 2550),.v (.int .i64 0)],.cells 3 [.v (.int .i64 50),.v (.int .i64 0)]],.tup [.c (.sl 2 0 1 1),.c (.sl 5 0 0 1)],[(2,.cells 3 [.v (.int .i64 51)]),(5,.cells 3 [.v (.int .i64 0)])]⟩
theorem bUE:aT Tryz.prog bWf:=aQ mixed gX (aS cP (aU m29 (fun p hp=>absurd hp List.not_mem_nil))) 100000 200 (by kernel_rfl)
def cBV:dA:=⟨267,[.c (.sl 0 0 1 1),.c (.sl 1 0 1 1)],[.cells 3 [.v (.int .i64 10000),.v (.int .i64 0)],.cells 3 [.v (.int .i64 50),.v (.int .i64 0)]],.tup [.c (.sl 2 0 1 1),.c (.sl 5 0 0 1)],[(2,.cells 3 [.v (.int .i64 200)]),(5,.cells 3 [.v (.int .i64 0)])]⟩
theorem cAu:aT Tryz.prog cBV:=aQ mixed gX (aS cP (aU m30 (fun p hp=>absurd hp List.not_mem_nil))) 100000 200 (by kernel_rfl)
def bYu:dA:=⟨267,[.c (.sl 0 0 1 1),.c (.sl 1 0 1 1)],[.cells 3 [.v (.int .i64 5000),.v (.int .i64 0)],.cells 3 [.v (.int .i64 100),.v (.int .i64 0)]],.tup [.c (.sl 2 0 1 1),.c (.sl 5 0 0 1)],[(2,.cells 3 [.v (.int .i64 50)]),(5,.cells 3 [.v (.int .i64 0)])]⟩
theorem bSa:aT Tryz.prog bYu:=aQ mixed gX (aS cP (aU m31 (fun p hp=>absurd hp List.not_mem_nil))) 100000 200 (by kernel_rfl)
def bXj:dA:=⟨267,[.c (.sl 0 0 1 1),.c (.sl 1 0 1 1)],[.cells 3 [.v (.int .i64 6000),.v (.int .i64 0)],.cells 3 [.v (.int .i64 10000),.v (.int .i64 0)]],.tup [.c (.sl 2 0 0 1),.c (.sl 5 0 1 1)],[(2,.cells 3 [.v (.int .i64 0)]),(5,.cells 3 [.v (.int .i64 6000)])]⟩
theorem bVy:aT Tryz.prog bXj:=aQ mixed gX (aS cP (aU m32 (fun p hp=>absurd hp List.not_mem_nil))) 100000 200 (by kernel_rfl)
def bV5:dA:=⟨267,[.c (.sl 0 0 1 1),.c (.sl 1 0 1 1)],[.cells 3 [.v (.int .i64 10000),.v (.int .i64 0)],.cells 3 [.v (.int .i64 6000)]],.tup [.c (.sl 2 0 1 1),.c (.sl 5 0 1 1)],[(2,.cells 3 [.v (.int .i64 1)]),(5,.cells 3 [.v (.int .i64 4000)])]⟩
theorem bVQ:aT Tryz.prog bV5:=aQ mixed gX (aS cP (aU m33 (fun p hp=>absurd hp List.not_mem_nil))) 100000 200 (by kernel_rfl)
def bWl:dA:=⟨267,[.c (.sl 0 0 1 1),.c (.sl 1 0 1 1)],[.cells 3 [.v (.int .i64 6000)],.cells 3 [.v (.int .i64 4000)]],.tup [.c (.sl 2 0 1 1),.c (.sl 5 0 1 1)],[(2,.cells 3 [.v (.int .i64 1)]),(5,.cells 3 [.v (.int .i64 2000)])]⟩
theorem bUL:aT Tryz.prog bWl:=aQ mixed gX (aS cP (aU m34 (fun p hp=>absurd hp List.not_mem_nil))) 100000 200 (by kernel_rfl)
def bVN:dA:=⟨267,[.c (.sl 0 0 1 1),.c (.sl 1 0 1 1)],[.cells 3 [.v (.int .i64 4000)],.cells 3 [.v (.int .i64 2000)]],.tup [.c (.sl 2 0 1 1),.c (.sl 5 0 0 1)],[(2,.cells 3 [.v (.int .i64 2)]),(5,.cells 3 [.v (.int .i64 0)])]⟩
theorem bT8:aT Tryz.prog bVN:=aQ mixed gX (aS cP (aU m35 (fun p hp=>absurd hp List.not_mem_nil))) 100000 200 (by kernel_rfl)
def bWN:dA:=⟨267,[.c (.sl 0 0 1 1),.c (.sl 1 0 1 1)],[.cells 3 [.v (.int .i64 6000),.v (.int .i64 0)],.cells 3 [.v (.int .i64 2000),.v (.int .i64 0)]],.tup [.c (.sl 2 0 1 1),.c (.sl 5 0 0 1)],[(2,.cells 3 [.v (.int .i64 3)]),(5,.cells 3 [.v (.int .i64 0)])]⟩
theorem bXB:aT Tryz.prog bWN:=aQ mixed gX (aS cP (aU m36 (fun p hp=>absurd hp List.not_mem_nil))) 100000 200 (by kernel_rfl)
def bZh:dA:=⟨267,[.c (.sl 0 0 1 1),.c (.sl 1 0 1 1)],[.cells 3 [.v (.int .i64 10000),.v (.int .i64 0)],.cells 3 [.v (.int .i64 2000),.v (.int .i64 0)]],.tup [.c (.sl 2 0 1 1),.c (.sl 5 0 0 1)],[(2,.cells 3 [.v (.int .i64 5)]),(5,.cells 3 [.v (.int .i64 0)])]⟩
theorem cBk:aT Tryz.prog bZh:=aQ mixed gX (aS cP (aU m37 (fun p hp=>absurd hp List.not_mem_nil))) 100000 200 (by kernel_rfl)
def cDm:dA:=⟨267,[.c (.v (.slice none 0 0)),.c (.sl 0 0 1 1)],[.cells 3 [.v (.int .i64 1),.v (.int .i64 0)]],.tup [.c (.sl 1 0 0 1),.c (.v (.slice none 0 0))],[(1,.cells 3 [])]⟩
theorem bSs:aT Tryz.prog cDm:=aQ mixed gX cP 100000 200 (by kernel_rfl)
def bWB:dA:=⟨267,[.c (.sl 0 0 1 1),.c (.sl 1 0 1 1)],[.cells 3 [.v (.int .i64 1),.v (.int .i64 0)],.cells 3 [.v (.int .i64 1),.v (.int .i64 0)]],.tup [.c (.sl 2 0 1 1),.c (.sl 5 0 0 1)],[(2,.cells 3 [.v (.int .i64 1)]),(5,.cells 3 [.v (.int .i64 0)])]⟩
theorem cC0:aT Tryz.prog bWB:=aQ mixed gX (aS cP (aU m38 (fun p hp=>absurd hp List.not_mem_nil))) 100000 200 (by kernel_rfl)
def bWI:dA:=⟨267,[.c (.sl 0 0 1 1),.c (.sl 1 0 1 1)],[.cells 3 [.v (.int .i64 10000),.v (.int .i64 0)],.cells 3 [.v (.int .i64 100),.v (.int .i64 0)]],.tup [.c (.sl 2 0 1 1),.c (.sl 5 0 0 1)],[(2,.cells 3 [.v (.int .i64 100)]),(5,.cells 3 [.v (.int .i64 0)])]⟩
theorem bSw:aT Tryz.prog bWI:=aQ mixed gX (aS cP (aU m39 (fun p hp=>absurd hp List.not_mem_nil))) 100000 200 (by kernel_rfl)
def bW8:dA:=⟨267,[.c (.sl 0 0 1 1),.c (.sl 1 0 1 1)],[.cells 3 [.v (.int .i64 2),.v (.int .i64 0)],.cells 3 [.v (.int .i64 1),.v (.int .i64 0)]],.tup [.c (.sl 2 0 1 1),.c (.sl 5 0 0 1)],[(2,.cells 3 [.v (.int .i64 2)]),(5,.cells 3 [.v (.int .i64 0)])]⟩
theorem bR2:aT Tryz.prog bW8:=aQ mixed gX (aS cP (aU m40 (fun p hp=>absurd hp List.not_mem_nil))) 100000 200 (by kernel_rfl)
def cBy:dA:=⟨267,[.c (.sl 0 0 1 1),.c (.sl 1 0 1 1)],[.cells 3 [.v (.int .i64 10000),.v (.int .i64 0)],.cells 3 [.v (.int .i64 10000),.v (.int .i64 0)]],.tup [.c (.sl 2 0 1 1),.c (.sl 5 0 0 1)],[(2,.cells 3 [.v (.int .i64 1)]),(5,.cells 3 [.v (.int .i64 0)])]⟩
theorem bRy:aT Tryz.prog cBy:=aQ mixed gX (aS cP (aU m41 (fun p hp=>absurd hp List.not_mem_nil))) 100000 200 (by kernel_rfl)
def bWO:dA:=⟨267,[.c (.sl 0 0 1 1),.c (.sl 1 0 1 1)],[.cells 3 [.v (.int .i64 4000),.v (.int .i64 0)],.cells 3 [.v (.int .i64 10000),.v (.int .i64 0)]],.tup [.c (.sl 2 0 0 1),.c (.sl 5 0 1 1)],[(2,.cells 3 [.v (.int .i64 0)]),(5,.cells 3 [.v (.int .i64 4000)])]⟩
theorem cAG:aT Tryz.prog bWO:=aQ mixed gX (aS cP (aU m42 (fun p hp=>absurd hp List.not_mem_nil))) 100000 200 (by kernel_rfl)
def cBw:dA:=⟨267,[.c (.sl 0 0 1 1),.c (.sl 1 0 1 1)],[.cells 3 [.v (.int .i64 10000),.v (.int .i64 0)],.cells 3 [.v (.int .i64 4000)]],.tup [.c (.sl 2 0 1 1),.c (.sl 5 0 1 1)],[(2,.cells 3 [.v (.int .i64 2)]),(5,.cells 3 [.v (.int .i64 2000)])]⟩
theorem cA3:aT Tryz.prog cBw:=aQ mixed gX (aS cP (aU m43 (fun p hp=>absurd hp List.not_mem_nil))) 100000 200 (by kernel_rfl)
def bVg:dA:=⟨267,[.c (.sl 0 0 1 1),.c (.sl 1 0 1 1)],[.cells 3 [.v (.int .i64 4000),.v (.int .i64 0)],.cells 3 [.v (.int .i64 2000),.v (.int .i64 0)]],.tup [.c (.sl 2 0 1 1),.c (.sl 5 0 0 1)],[(2,.cells 3 [.v (.int .i64 2)]),(5,.cells 3 [.v (.int .i64 0)])]⟩
theorem bYD:aT Tryz.prog bVg:=aQ mixed gX (aS cP (aU m44 (fun p hp=>absurd hp List.not_mem_nil))) 100000 200 (by kernel_rfl)
def cCy:dA:=⟨267,[.c (.sl 0 0 1 1),.c (.sl 1 0 1 1)],[.cells 3 [.v (.int .i64 40000),.v (.int .i64 0)],.cells 3 [.v (.int .i64 100),.v (.int .i64 0)]],.tup [.c (.sl 2 0 1 1),.c (.sl 5 0 0 1)],[(2,.cells 3 [.v (.int .i64 400)]),(5,.cells 3 [.v (.int .i64 0)])]⟩
theorem bTx:aT Tryz.prog cCy:=aQ mixed gX (aS cP (aU m45 (fun p hp=>absurd hp List.not_mem_nil))) 100000 200 (by kernel_rfl)
def bYh:dA:=⟨267,[.c (.sl 0 0 1 1),.c (.sl 1 0 1 1)],[.cells 3 [.v (.int .i64 20000),.v (.int .i64 0)],.cells 3 [.v (.int .i64 100),.v (.int .i64 0)]],.tup [.c (.sl 2 0 1 1),.c (.sl 5 0 0 1)],[(2,.cells 3 [.v (.int .i64 200)]),(5,.cells 3 [.v (.int .i64 0)])]⟩
theorem bSL:aT Tryz.prog bYh:=aQ mixed gX (aS cP (aU m46 (fun p hp=>absurd hp List.not_mem_nil))) 100000 200 (by kernel_rfl)
def bVq:dA:=⟨267,[.c (.sl 0 0 1 1),.c (.sl 1 0 1 1)],[.cells 3 [.v (.int .i64 50000),.v (.int .i64 0)],.cells 3 [.v (.int .i64 100),.v (.int .i64 0)]],.tup [.c (.sl 2 0 1 1),.c (.sl 5 0 0 1)],[(2,.cells 3 [.v (.int .i64 500)]),(5,.cells 3 [.v (.int .i64 0)])]⟩
theorem bRu:aT Tryz.prog bVq:=aQ mixed gX (aS cP (aU m47 (fun p hp=>absurd hp List.not_mem_nil))) 100000 200 (by kernel_rfl)
def bZQ:dA:=⟨267,[.c (.sl 0 0 2 1),.c (.sl 1 0 1 1)],[.cells 3 [.v (.int .i64 24464),.v (.int .i64 1)],.cells 3 [.v (.int .i64 100),.v (.int .i64 0)]],.tup [.c (.sl 2 0 1 1),.c (.sl 11 0 0 1)],[(2,.cells 3 [.v (.int .i64 900),.v (.int .i64 0)]),(11,.cells 3 [.v (.int .i64 0),.v (.int .i64 0)])]⟩
theorem bSh:aT Tryz.prog bZQ:=aQ mixed gX (aS cP (aU m21 (aU m48 (fun p hp=>absurd hp List.not_mem_nil)))) 100000 200 (by kernel_rfl)
def bYA:dA:=⟨267,[.c (.sl 0 0 1 1),.c (.sl 1 0 1 1)],[.cells 3 [.v (.int .i64 4001),.v (.int .i64 0)],.cells 3 [.v (.int .i64 100),.v (.int .i64 0)]],.tup [.c (.sl 2 0 1 1),.c (.sl 5 0 1 1)],[(2,.cells 3 [.v (.int .i64 40)]),(5,.cells 3 [.v (.int .i64 1)])]⟩
theorem bZ1:aT Tryz.prog bYA:=aQ mixed gX (aS cP (aU m49 (fun p hp=>absurd hp List.not_mem_nil))) 100000 200 (by kernel_rfl)
def bYs:dA:=⟨267,[.c (.sl 0 0 1 1),.c (.sl 1 0 1 1)],[.cells 3 [.v (.int .i64 100),.v (.int .i64 0)],.cells 3 [.v (.int .i64 1)]],.tup [.c (.sl 2 0 1 1),.c (.sl 5 0 0 1)],[(2,.cells 3 [.v (.int .i64 100)]),(5,.cells 3 [.v (.int .i64 0)])]⟩
theorem bY4:aT Tryz.prog bYs:=aQ mixed gX (aS cP (aU m50 (fun p hp=>absurd hp List.not_mem_nil))) 100000 200 (by kernel_rfl)
def bWJ:dA:=⟨267,[.c (.sl 0 0 1 1),.c (.sl 1 0 1 1)],[.cells 3 [.v (.int .i64 4001),.v (.int .i64 0)],.cells 3 [.v (.int .i64 1),.v (.int .i64 0)]],.tup [.c (.sl 2 0 1 1),.c (.sl 5 0 0 1)],[(2,.cells 3 [.v (.int .i64 4001)]),(5,.cells 3 [.v (.int .i64 0)])]⟩
theorem bWr:aT Tryz.prog bWJ:=aQ mixed gX (aS cP (aU m51 (fun p hp=>absurd hp List.not_mem_nil))) 100000 200 (by kernel_rfl)
def bYj:dA:=⟨267,[.c (.sl 0 0 1 1),.c (.sl 1 0 1 1)],[.cells 3 [.v (.int .i64 100),.v (.int .i64 0)],.cells 3 [.v (.int .i64 1),.v (.int .i64 0)]],.tup [.c (.sl 2 0 1 1),.c (.sl 5 0 0 1)],[(2,.cells 3 [.v (.int .i64 100)]),(5,.cells 3 [.v (.int .i64 0)])]⟩
theorem bTE:aT Tryz.prog bYj:=aQ mixed gX (aS cP (aU m52 (fun p hp=>absurd hp List.not_mem_nil))) 100000 200 (by kernel_rfl)
def bZZ:dA:=⟨267,[.c (.sl 0 0 1 1),.c (.sl 1 0 1 1)],[.cells 3 [.v (.int .i64 9000),.v (.int .i64 0)],.cells 3 [.v (.int .i64 100),.v (.int .i64 0)]],.tup [.c (.sl 2 0 1 1),.c (.sl 5 0 0 1)],[(2,.cells 3 [.v (.int .i64 90)]),(5,.cells 3 [.v (.int .i64 0)])]⟩
theorem bSb:aT Tryz.prog bZZ:=aQ mixed gX (aS cP (aU m53 (fun p hp=>absurd hp List.not_mem_nil))) 100000 200 (by kernel_rfl)
def bY2:dA:=⟨267,[.c (.sl 0 0 1 1),.c (.sl 1 0 1 1)],[.cells 3 [.v (.int .i64 30000),.v (.int .i64 0)],.cells 3 [.v (.int .i64 100),.v (.int .i64 0)]],.tup [.c (.sl 2 0 1 1),.c (.sl 5 0 0 1)],[(2,.cells 3 [.v (.int .i64 300)]),(5,.cells 3 [.v (.int .i64 0)])]⟩
theorem bQ1:aT Tryz.prog bY2:=aQ mixed gX (aS cP (aU m54 (fun p hp=>absurd hp List.not_mem_nil))) 100000 200 (by kernel_rfl)
def bUU:dA:=⟨267,[.c (.sl 0 0 1 1),.c (.sl 1 0 1 1)],[.cells 3 [.v (.int .i64 3000),.v (.int .i64 0)],.cells 3 [.v (.int .i64 100),.v (.int .i64 0)]],.tup [.c (.sl 2 0 1 1),.c (.sl 5 0 0 1)],[(2,.cells 3 [.v (.int .i64 30)]),(5,.cells 3 [.v (.int .i64 0)])]⟩
theorem bSC:aT Tryz.prog bUU:=aQ mixed gX (aS cP (aU m55 (fun p hp=>absurd hp List.not_mem_nil))) 100000 200 (by kernel_rfl)
def bZd:dA:=⟨267,[.c (.sl 0 0 1 1),.c (.sl 1 0 1 1)],[.cells 3 [.v (.int .i64 2000),.v (.int .i64 0)],.cells 3 [.v (.int .i64 100),.v (.int .i64 0)]],.tup [.c (.sl 2 0 1 1),.c (.sl 5 0 0 1)],[(2,.cells 3 [.v (.int .i64 20)]),(5,.cells 3 [.v (.int .i64 0)])]⟩
theorem bQ6:aT Tryz.prog bZd:=aQ mixed gX (aS cP (aU m56 (fun p hp=>absurd hp List.not_mem_nil))) 100000 200 (by kernel_rfl)
def cBo:dA:=⟨267,[.c (.sl 0 0 1 1),.c (.sl 1 0 1 1)],[.cells 3 [.v (.int .i64 25000),.v (.int .i64 0)],.cells 3 [.v (.int .i64 100),.v (.int .i64 0)]],.tup [.c (.sl 2 0 1 1),.c (.sl 5 0 0 1)],[(2,.cells 3 [.v (.int .i64 250)]),(5,.cells 3 [.v (.int .i64 0)])]⟩
theorem bTi:aT Tryz.prog cBo:=aQ mixed gX (aS cP (aU m57 (fun p hp=>absurd hp List.not_mem_nil))) 100000 200 (by kernel_rfl)
def cCI:dA:=⟨267,[.c (.sl 0 0 1 1),.c (.sl 1 0 1 1)],[.cells 3 [.v (.int .i64 777),.v (.int .i64 0)],.cells 3 [.v (.int .i64 100),.v (.int .i64 0)]],.tup [.c (.sl 2 0 1 1),.c (.sl 5 0 1 1)],[(2,.cells 3 [.v (.int .i64 7)]),(5,.cells 3 [.v (.int .i64 77)])]⟩
theorem cAN:aT Tryz.prog cCI:=aQ mixed gX (aS cP (aU m58 (fun p hp=>absurd hp List.not_mem_nil))) 100000 200 (by kernel_rfl)
def cBG:dA:=⟨267,[.c (.sl 0 0 1 1),.c (.sl 1 0 1 1)],[.cells 3 [.v (.int .i64 100),.v (.int .i64 0)],.cells 3 [.v (.int .i64 77)]],.tup [.c (.sl 2 0 1 1),.c (.sl 5 0 1 1)],[(2,.cells 3 [.v (.int .i64 1)]),(5,.cells 3 [.v (.int .i64 23)])]⟩
theorem cDe:aT Tryz.prog cBG:=aQ mixed gX (aS cP (aU m59 (fun p hp=>absurd hp List.not_mem_nil))) 100000 200 (by kernel_rfl)
def bX5:dA:=⟨267,[.c (.sl 0 0 1 1),.c (.sl 1 0 1 1)],[.cells 3 [.v (.int .i64 77)],.cells 3 [.v (.int .i64 23)]],.tup [.c (.sl 2 0 1 1),.c (.sl 5 0 1 1)],[(2,.cells 3 [.v (.int .i64 3)]),(5,.cells 3 [.v (.int .i64 8)])]⟩
theorem bZA:aT Tryz.prog bX5:=aQ mixed gX (aS cP (aU m60 (fun p hp=>absurd hp List.not_mem_nil))) 100000 200 (by kernel_rfl)
def bYv:dA:=⟨267,[.c (.sl 0 0 1 1),.c (.sl 1 0 1 1)],[.cells 3 [.v (.int .i64 23)],.cells 3 [.v (.int .i64 8)]],.tup [.c (.sl 2 0 1 1),.c (.sl 5 0 1 1)],[(2,.cells 3 [.v (.int .i64 2)]),(5,.cells 3 [.v (.int .i64 7)])]⟩
theorem bWc:aT Tryz.prog bYv:=aQ mixed gX (aS cP (aU m61 (fun p hp=>absurd hp List.not_mem_nil))) 100000 200 (by kernel_rfl)
def bWA:dA:=⟨267,[.c (.sl 0 0 1 1),.c (.sl 1 0 1 1)],[.cells 3 [.v (.int .i64 8)],.cells 3 [.v (.int .i64 7)]],.tup [.c (.sl 2 0 1 1),.c (.sl 5 0 1 1)],[(2,.cells 3 [.v (.int .i64 1)]),(5,.cells 3 [.v (.int .i64 1)])]⟩
theorem bXJ:aT Tryz.prog bWA:=aQ mixed gX (aS cP (aU m62 (fun p hp=>absurd hp List.not_mem_nil))) 100000 200 (by kernel_rfl)
def bXA:dA:=⟨267,[.c (.sl 0 0 1 1),.c (.sl 1 0 1 1)],[.cells 3 [.v (.int .i64 7)],.cells 3 [.v (.int .i64 1)]],.tup [.c (.sl 2 0 1 1),.c (.sl 5 0 0 1)],[(2,.cells 3 [.v (.int .i64 7)]),(5,.cells 3 [.v (.int .i64 0)])]⟩
theorem bUO:aT Tryz.prog bXA:=aQ mixed gX (aS cP (aU m63 (fun p hp=>absurd hp List.not_mem_nil))) 100000 200 (by kernel_rfl)
def bYN:dA:=⟨267,[.c (.sl 0 0 1 1),.c (.sl 1 0 1 1)],[.cells 3 [.v (.int .i64 777),.v (.int .i64 0)],.cells 3 [.v (.int .i64 1),.v (.int .i64 0)]],.tup [.c (.sl 2 0 1 1),.c (.sl 5 0 0 1)],[(2,.cells 3 [.v (.int .i64 777)]),(5,.cells 3 [.v (.int .i64 0)])]⟩
theorem bVe:aT Tryz.prog bYN:=aQ mixed gX (aS cP (aU m64 (fun p hp=>absurd hp List.not_mem_nil))) 100000 200 (by kernel_rfl)
def bXD:dA:=⟨267,[.c (.sl 0 0 1 1),.c (.sl 1 0 1 1)],[.cells 3 [.v (.int .i64 12000),.v (.int .i64 0)],.cells 3 [.v (.int .i64 100),.v (.int .i64 0)]],.tup [.c (.sl 2 0 1 1),.c (.sl 5 0 0 1)],[(2,.cells 3 [.v (.int .i64 120)]),(5,.cells 3 [.v (.int .i64 0)])]⟩
theorem bS4:aT Tryz.prog bXD:=aQ mixed gX (aS cP (aU m65 (fun p hp=>absurd hp List.not_mem_nil))) 100000 200 (by kernel_rfl)
def cCN:dA:=⟨267,[.c (.sl 0 0 1 1),.c (.sl 1 0 1 1)],[.cells 3 [.v (.int .i64 8000),.v (.int .i64 0)],.cells 3 [.v (.int .i64 10000),.v (.int .i64 0)]],.tup [.c (.sl 2 0 0 1),.c (.sl 5 0 1 1)],[(2,.cells 3 [.v (.int .i64 0)]),(5,.cells 3 [.v (.int .i64 8000)])]⟩
theorem bZS:aT Tryz.prog cCN:=aQ mixed gX (aS cP (aU m66 (fun p hp=>absurd hp List.not_mem_nil))) 100000 200 (by kernel_rfl)
def bXH:dA:=⟨267,[.c (.sl 0 0 1 1),.c (.sl 1 0 1 1)],[.cells 3 [.v (.int .i64 10000),.v (.int .i64 0)],.cells 3 [.v (.int .i64 8000)]],.tup [.c (.sl 2 0 1 1),.c (.sl 5 0 1 1)],[(2,.cells 3 [.v (.int .i64 1)]),(5,.cells 3 [.v (.int .i64 2000)])]⟩
theorem cAM:aT Tryz.prog bXH:=aQ mixed gX (aS cP (aU m67 (fun p hp=>absurd hp List.not_mem_nil))) 100000 200 (by kernel_rfl)
def cCA:dA:=⟨267,[.c (.sl 0 0 1 1),.c (.sl 1 0 1 1)],[.cells 3 [.v (.int .i64 8000)],.cells 3 [.v (.int .i64 2000)]],.tup [.c (.sl 2 0 1 1),.c (.sl 5 0 0 1)],[(2,.cells 3 [.v (.int .i64 4)]),(5,.cells 3 [.v (.int .i64 0)])]⟩
theorem cCR:aT Tryz.prog cCA:=aQ mixed gX (aS cP (aU m68 (fun p hp=>absurd hp List.not_mem_nil))) 100000 200 (by kernel_rfl)
def bVa:dA:=⟨267,[.c (.sl 0 0 1 1),.c (.sl 1 0 1 1)],[.cells 3 [.v (.int .i64 8000),.v (.int .i64 0)],.cells 3 [.v (.int .i64 2000),.v (.int .i64 0)]],.tup [.c (.sl 2 0 1 1),.c (.sl 5 0 0 1)],[(2,.cells 3 [.v (.int .i64 4)]),(5,.cells 3 [.v (.int .i64 0)])]⟩
theorem cAX:aT Tryz.prog bVa:=aQ mixed gX (aS cP (aU m69 (fun p hp=>absurd hp List.not_mem_nil))) 100000 200 (by kernel_rfl)
def cCX:dA:=⟨267,[.c (.sl 0 0 2 1),.c (.sl 1 0 1 1)],[.cells 3 [.v (.int .i64 18928),.v (.int .i64 2)],.cells 3 [.v (.int .i64 100),.v (.int .i64 0)]],.tup [.c (.sl 2 0 1 1),.c (.sl 11 0 0 1)],[(2,.cells 3 [.v (.int .i64 1500),.v (.int .i64 0)]),(11,.cells 3 [.v (.int .i64 0),.v (.int .i64 0)])]⟩
theorem bQM:aT Tryz.prog cCX:=aQ mixed gX (aS cP (aU m70 (aU m71 (fun p hp=>absurd hp List.not_mem_nil)))) 100000 200 (by kernel_rfl)
def cAh:dA:=⟨267,[.c (.sl 0 0 1 1),.c (.sl 1 0 1 1)],[.cells 3 [.v (.int .i64 1000),.v (.int .i64 0)],.cells 3 [.v (.int .i64 100),.v (.int .i64 0)]],.tup [.c (.sl 2 0 1 1),.c (.sl 5 0 0 1)],[(2,.cells 3 [.v (.int .i64 10)]),(5,.cells 3 [.v (.int .i64 0)])]⟩
theorem bT9:aT Tryz.prog cAh:=aQ mixed gX (aS cP (aU m72 (fun p hp=>absurd hp List.not_mem_nil))) 100000 200 (by kernel_rfl)
def bX7:dA:=⟨267,[.c (.sl 0 0 1 1),.c (.sl 1 0 1 1)],[.cells 3 [.v (.int .i64 60000),.v (.int .i64 0)],.cells 3 [.v (.int .i64 100),.v (.int .i64 0)]],.tup [.c (.sl 2 0 1 1),.c (.sl 5 0 0 1)],[(2,.cells 3 [.v (.int .i64 600)]),(5,.cells 3 [.v (.int .i64 0)])]⟩
theorem bSD:aT Tryz.prog bX7:=aQ mixed gX (aS cP (aU m73 (fun p hp=>absurd hp List.not_mem_nil))) 100000 200 (by kernel_rfl)
def bZT:dA:=⟨267,[.c (.sl 0 0 1 1),.c (.sl 1 0 1 1)],[.cells 3 [.v (.int .i64 12345),.v (.int .i64 0)],.cells 3 [.v (.int .i64 100),.v (.int .i64 0)]],.tup [.c (.sl 2 0 1 1),.c (.sl 5 0 1 1)],[(2,.cells 3 [.v (.int .i64 123)]),(5,.cells 3 [.v (.int .i64 45)])]⟩
theorem bXx:aT Tryz.prog bZT:=aQ mixed gX (aS cP (aU m74 (fun p hp=>absurd hp List.not_mem_nil))) 100000 200 (by kernel_rfl)
def bVn:dA:=⟨267,[.c (.sl 0 0 1 1),.c (.sl 1 0 1 1)],[.cells 3 [.v (.int .i64 100),.v (.int .i64 0)],.cells 3 [.v (.int .i64 45)]],.tup [.c (.sl 2 0 1 1),.c (.sl 5 0 1 1)],[(2,.cells 3 [.v (.int .i64 2)]),(5,.cells 3 [.v (.int .i64 10)])]⟩
theorem bXT:aT Tryz.prog bVn:=aQ mixed gX (aS cP (aU m75 (fun p hp=>absurd hp List.not_mem_nil))) 100000 200 (by kernel_rfl)
def bV9:dA:=⟨267,[.c (.sl 0 0 1 1),.c (.sl 1 0 1 1)],[.cells 3 [.v (.int .i64 45)],.cells 3 [.v (.int .i64 10)]],.tup [.c (.sl 2 0 1 1),.c (.sl 5 0 1 1)],[(2,.cells 3 [.v (.int .i64 4)]),(5,.cells 3 [.v (.int .i64 5)])]⟩
theorem bX4:aT Tryz.prog bV9:=aQ mixed gX (aS cP (aU m76 (fun p hp=>absurd hp List.not_mem_nil))) 100000 200 (by kernel_rfl)
def bUt:dA:=⟨267,[.c (.sl 0 0 1 1),.c (.sl 1 0 1 1)],[.cells 3 [.v (.int .i64 10)],.cells 3 [.v (.int .i64 5)]],.tup [.c (.sl 2 0 1 1),.c (.sl 5 0 0 1)],[(2,.cells 3 [.v (.int .i64 2)]),(5,.cells 3 [.v (.int .i64 0)])]⟩
theorem bZN:aT Tryz.prog bUt:=aQ mixed gX (aS cP (aU m77 (fun p hp=>absurd hp List.not_mem_nil))) 100000 200 (by kernel_rfl)
def cAL:dA:=⟨267,[.c (.sl 0 0 1 1),.c (.sl 1 0 1 1)],[.cells 3 [.v (.int .i64 12345),.v (.int .i64 0)],.cells 3 [.v (.int .i64 5),.v (.int .i64 0)]],.tup [.c (.sl 2 0 1 1),.c (.sl 5 0 0 1)],[(2,.cells 3 [.v (.int .i64 2469)]),(5,.cells 3 [.v (.int .i64 0)])]⟩
theorem bVS:aT Tryz.prog cAL:=aQ mixed gX (aS cP (aU m78 (fun p hp=>absurd hp List.not_mem_nil))) 100000 200 (by kernel_rfl)
def bUK:dA:=⟨267,[.c (.sl 0 0 1 1),.c (.sl 1 0 1 1)],[.cells 3 [.v (.int .i64 100),.v (.int .i64 0)],.cells 3 [.v (.int .i64 5),.v (.int .i64 0)]],.tup [.c (.sl 2 0 1 1),.c (.sl 5 0 0 1)],[(2,.cells 3 [.v (.int .i64 20)]),(5,.cells 3 [.v (.int .i64 0)])]⟩
theorem bYb:aT Tryz.prog bUK:=aQ mixed gX (aS cP (aU m79 (fun p hp=>absurd hp List.not_mem_nil))) 100000 200 (by kernel_rfl)
def bXi:dA:=⟨267,[.c (.sl 0 0 1 1),.c (.sl 1 0 1 1)],[.cells 3 [.v (.int .i64 7400),.v (.int .i64 0)],.cells 3 [.v (.int .i64 10000),.v (.int .i64 0)]],.tup [.c (.sl 2 0 0 1),.c (.sl 5 0 1 1)],[(2,.cells 3 [.v (.int .i64 0)]),(5,.cells 3 [.v (.int .i64 7400)])]⟩
theorem bZR:aT Tryz.prog bXi:=aQ mixed gX (aS cP (aU m80 (fun p hp=>absurd hp List.not_mem_nil))) 100000 200 (by kernel_rfl)
def bYg:dA:=⟨267,[.c (.sl 0 0 1 1),.c (.sl 1 0 1 1)],[.cells 3 [.v (.int .i64 10000),.v (.int .i64 0)],.cells 3 [.v (.int .i64 7400)]],.tup [.c (.sl 2 0 1 1),.c (.sl 5 0 1 1)],[(2,.cells 3 [.v (.int .i64 1)]),(5,.cells 3 [.v (.int .i64 2600)])]⟩
theorem bZP:aT Tryz.prog bYg:=aQ mixed gX (aS cP (aU m81 (fun p hp=>absurd hp List.not_mem_nil))) 100000 200 (by kernel_rfl)
def bY9:dA:=⟨267,[.c (.sl 0 0 1 1),.c (.sl 1 0 1 1)],[.cells 3 [.v (.int .i64 7400)],.cells 3 [.v (.int .i64 2600)]],.tup [.c (.sl 2 0 1 1),.c (.sl 5 0 1 1)],[(2,.cells 3 [.v (.int .i64 2)]),(5,.cells 3 [.v (.int .i64 2200)])]⟩
theorem bZy:aT Tryz.prog bY9:=aQ mixed gX (aS cP (aU m82 (fun p hp=>absurd hp List.not_mem_nil))) 100000 200 (by kernel_rfl)
def bU8:dA:=⟨267,[.c (.sl 0 0 1 1),.c (.sl 1 0 1 1)],[.cells 3 [.v (.int .i64 2600)],.cells 3 [.v (.int .i64 2200)]],.tup [.c (.sl 2 0 1 1),.c (.sl 5 0 1 1)],[(2,.cells 3 [.v (.int .i64 1)]),(5,.cells 3 [.v (.int .i64 400)])]⟩
theorem bZs:aT Tryz.prog bU8:=aQ mixed gX (aS cP (aU m83 (fun p hp=>absurd hp List.not_mem_nil))) 100000 200 (by kernel_rfl)
def bZI:dA:=⟨267,[.c (.sl 0 0 1 1),.c (.sl 1 0 1 1)],[.cells 3 [.v (.int .i64 2200)],.cells 3 [.v (.int .i64 400)]],.tup [.c (.sl 2 0 1 1),.c (.sl 5 0 1 1)],[(2,.cells 3 [.v (.int .i64 5)]),(5,.cells 3 [.v (.int .i64 200)])]⟩
theorem bWL:aT Tryz.prog bZI:=aQ mixed gX (aS cP (aU m84 (fun p hp=>absurd hp List.not_mem_nil))) 100000 200 (by kernel_rfl)
def bWK:dA:=⟨267,[.c (.sl 0 0 1 1),.c (.sl 1 0 1 1)],[.cells 3 [.v (.int .i64 400)],.cells 3 [.v (.int .i64 200)]],.tup [.c (.sl 2 0 1 1),.c (.sl 5 0 0 1)],[(2,.cells 3 [.v (.int .i64 2)]),(5,.cells 3 [.v (.int .i64 0)])]⟩
theorem bW5:aT Tryz.prog bWK:=aQ mixed gX (aS cP (aU m85 (fun p hp=>absurd hp List.not_mem_nil))) 100000 200 (by kernel_rfl)
def bXp:dA:=⟨267,[.c (.sl 0 0 1 1),.c (.sl 1 0 1 1)],[.cells 3 [.v (.int .i64 7400),.v (.int .i64 0)],.cells 3 [.v (.int .i64 200),.v (.int .i64 0)]],.tup [.c (.sl 2 0 1 1),.c (.sl 5 0 0 1)],[(2,.cells 3 [.v (.int .i64 37)]),(5,.cells 3 [.v (.int .i64 0)])]⟩
theorem cCU:aT Tryz.prog bXp:=aQ mixed gX (aS cP (aU m86 (fun p hp=>absurd hp List.not_mem_nil))) 100000 200 (by kernel_rfl)
def bVj:dA:=⟨267,[.c (.sl 0 0 1 1),.c (.sl 1 0 1 1)],[.cells 3 [.v (.int .i64 10000),.v (.int .i64 0)],.cells 3 [.v (.int .i64 200),.v (.int .i64 0)]],.tup [.c (.sl 2 0 1 1),.c (.sl 5 0 0 1)],[(2,.cells 3 [.v (.int .i64 50)]),(5,.cells 3 [.v (.int .i64 0)])]⟩
theorem bX8:aT Tryz.prog bVj:=aQ mixed gX (aS cP (aU m87 (fun p hp=>absurd hp List.not_mem_nil))) 100000 200 (by kernel_rfl)
def bWD:dA:=⟨267,[.c (.sl 0 0 1 1),.c (.sl 1 0 1 1)],[.cells 3 [.v (.int .i64 9999),.v (.int .i64 0)],.cells 3 [.v (.int .i64 10000),.v (.int .i64 0)]],.tup [.c (.sl 2 0 0 1),.c (.sl 5 0 1 1)],[(2,.cells 3 [.v (.int .i64 0)]),(5,.cells 3 [.v (.int .i64 9999)])]⟩
theorem bYL:aT Tryz.prog bWD:=aQ mixed gX (aS cP (aU m88 (fun p hp=>absurd hp List.not_mem_nil))) 100000 200 (by kernel_rfl)
def bXI:dA:=⟨267,[.c (.sl 0 0 1 1),.c (.sl 1 0 1 1)],[.cells 3 [.v (.int .i64 10000),.v (.int .i64 0)],.cells 3 [.v (.int .i64 9999)]],.tup [.c (.sl 2 0 1 1),.c (.sl 5 0 1 1)],[(2,.cells 3 [.v (.int .i64 1)]),(5,.cells 3 [.v (.int .i64 1)])]⟩
theorem cDj:aT Tryz.prog bXI:=aQ mixed gX (aS cP (aU m89 (fun p hp=>absurd hp List.not_mem_nil))) 100000 200 (by kernel_rfl)
def cDa:dA:=⟨267,[.c (.sl 0 0 1 1),.c (.sl 1 0 1 1)],[.cells 3 [.v (.int .i64 9999)],.cells 3 [.v (.int .i64 1)]],.tup [.c (.sl 2 0 1 1),.c (.sl 5 0 0 1)],[(2,.cells 3 [.v (.int .i64 9999)]),(5,.cells 3 [.v (.int .i64 0)])]⟩
theorem cCt:aT Tryz.prog cDa:=aQ mixed gX (aS cP (aU m90 (fun p hp=>absurd hp List.not_mem_nil))) 100000 200 (by kernel_rfl)
def cDr:dA:=⟨267,[.c (.sl 0 0 1 1),.c (.sl 1 0 1 1)],[.cells 3 [.v (.int .i64 9999),.v (.int .i64 0)],.cells 3 [.v (.int .i64 1),.v (.int .i64 0)]],.tup [.c (.sl 2 0 1 1),.c (.sl 5 0 0 1)],[(2,.cells 3 [.v (.int .i64 9999)]),(5,.cells 3 [.v (.int .i64 0)])]⟩
theorem bXv:aT Tryz.prog cDr:=aQ mixed gX (aS cP (aU m91 (fun p hp=>absurd hp List.not_mem_nil))) 100000 200 (by kernel_rfl)
def bZK:dA:=⟨267,[.c (.sl 0 0 1 1),.c (.sl 1 0 1 1)],[.cells 3 [.v (.int .i64 10000),.v (.int .i64 0)],.cells 3 [.v (.int .i64 1),.v (.int .i64 0)]],.tup [.c (.sl 2 0 1 1),.c (.sl 5 0 0 1)],[(2,.cells 3 [.v (.int .i64 10000)]),(5,.cells 3 [.v (.int .i64 0)])]⟩
theorem bVk:aT Tryz.prog bZK:=aQ mixed gX (aS cP (aU m92 (fun p hp=>absurd hp List.not_mem_nil))) 100000 200 (by kernel_rfl)
def cBQ:dA:=⟨267,[.c (.sl 0 0 2 1),.c (.sl 1 0 1 1)],[.cells 3 [.v (.int .i64 37856),.v (.int .i64 4)],.cells 3 [.v (.int .i64 100),.v (.int .i64 0)]],.tup [.c (.sl 2 0 1 1),.c (.sl 11 0 0 1)],[(2,.cells 3 [.v (.int .i64 3000),.v (.int .i64 0)]),(11,.cells 3 [.v (.int .i64 0),.v (.int .i64 0)])]⟩
theorem bTY:aT Tryz.prog cBQ:=aQ mixed gX (aS cP (aU m93 (aU m94 (fun p hp=>absurd hp List.not_mem_nil)))) 100000 200 (by kernel_rfl)
def cAk:dA:=⟨267,[.c (.sl 0 0 2 1),.c (.sl 1 0 1 1)],[.cells 3 [.v (.int .i64 4465),.v (.int .i64 1)],.cells 3 [.v (.int .i64 100),.v (.int .i64 0)]],.tup [.c (.sl 2 0 1 1),.c (.sl 11 0 1 1)],[(2,.cells 3 [.v (.int .i64 700),.v (.int .i64 0)]),(11,.cells 3 [.v (.int .i64 1),.v (.int .i64 0)])]⟩
theorem cAy:aT Tryz.prog cAk:=aQ mixed gX (aS cP (aU m21 (aU m95 (fun p hp=>absurd hp List.not_mem_nil)))) 100000 200 (by kernel_rfl)
def bXW:dA:=⟨267,[.c (.sl 0 0 2 1),.c (.sl 1 0 1 1)],[.cells 3 [.v (.int .i64 4465),.v (.int .i64 1)],.cells 3 [.v (.int .i64 1),.v (.int .i64 0)]],.tup [.c (.sl 2 0 2 1),.c (.sl 8 0 0 1)],[(2,.cells 3 [.v (.int .i64 4465),.v (.int .i64 1)]),(8,.cells 3 [.v (.int .i64 0)])]⟩
theorem bUD:aT Tryz.prog bXW:=aQ mixed gX (aS cP (aU m38 (aU m96 (fun p hp=>absurd hp List.not_mem_nil)))) 100000 200 (by kernel_rfl)
def bZB:dA:=⟨267,[.c (.sl 0 0 1 1),.c (.sl 1 0 1 1)],[.cells 3 [.v (.int .i64 8000),.v (.int .i64 0)],.cells 3 [.v (.int .i64 100),.v (.int .i64 0)]],.tup [.c (.sl 2 0 1 1),.c (.sl 5 0 0 1)],[(2,.cells 3 [.v (.int .i64 80)]),(5,.cells 3 [.v (.int .i64 0)])]⟩
theorem bRV:aT Tryz.prog bZB:=aQ mixed gX (aS cP (aU m97 (fun p hp=>absurd hp List.not_mem_nil))) 100000 200 (by kernel_rfl)
def cCO:dA:=⟨153,[.agg [.v (.bool false),.sl 0 0 1 1,.v (.bool false),.sl 1 0 1 1]],[.cells 117 [.v (.int .u32 120)],.cells 117 [.v (.int .u32 1)]],.c (.v (.bool true)),[]⟩
theorem bQu:aT Tryz.prog cCO:=aQ mixed gX cP 100000 200 (by kernel_rfl)
def bUI:dA:=⟨153,[.agg [.v (.bool false),.sl 0 0 1 1,.v (.bool false),.sl 1 0 1 1]],[.cells 117 [.v (.int .u32 20)],.cells 117 [.v (.int .u32 1)]],.c (.v (.bool true)),[]⟩
theorem bPI:aT Tryz.prog bUI:=aQ mixed gX cP 100000 200 (by kernel_rfl)
def cCP:dA:=⟨267,[.c (.sl 0 0 1 1),.c (.sl 1 0 1 1)],[.cells 3 [.v (.int .i64 120),.v (.int .i64 0)],.cells 3 [.v (.int .i64 1),.v (.int .i64 0)]],.tup [.c (.sl 2 0 1 1),.c (.sl 5 0 0 1)],[(2,.cells 3 [.v (.int .i64 120)]),(5,.cells 3 [.v (.int .i64 0)])]⟩
theorem bQR:aT Tryz.prog cCP:=aQ mixed gX (aS cP (aU m98 (fun p hp=>absurd hp List.not_mem_nil))) 100000 200 (by kernel_rfl)
open Go.CE
def bZV:dA:=⟨213,[.agg [.v (.bool false),.v (.slice none 0 0)],.agg [.v (.bool false),.sl 0 0 1 1]],[.cells 117 [.v (.int .u32 100)]],.agg [.v (.bool false),.sl 18 0 1 1],[(18,.cells 117 [.v (.int .u32 100)])]⟩
theorem bZi:aT Tryz.prog bZV:=aQ mixed iP (aS cP (aU m99 (fun p hp=>absurd hp List.not_mem_nil))) 100000 200 (by kernel_rfl)
def cCg:dA:=⟨214,[.agg [.v (.bool false),.v (.slice none 0 0)],.agg [.v (.bool false),.sl 0 0 1 1]],[.cells 117 [.v (.int .u32 100)]],.tup [.agg [.v (.bool false),.v (.slice none 0 0)],.agg [.v (.bool false),.v (.slice none 0 0)],.c (.v (.int .i64 0))],[]⟩
theorem bYM:aT Tryz.prog cCg:=aQ mixed iP (aS cP (aU m99 (fun p hp=>absurd hp List.not_mem_nil))) 100000 200 (by kernel_rfl)
def bUT:dA:=⟨214,[.agg [.v (.bool false),.sl 0 0 1 1],.agg [.v (.bool false),.sl 1 0 1 1]],[.cells 117 [.v (.int .u32 100)],.cells 117 [.v (.int .u32 100)]],.tup [.agg [.v (.bool false),.sl 23 0 1 1],.agg [.v (.bool false),.v (.slice none 0 0)],.c (.v (.int .i64 0))],[(23,.cells 117 [.v (.int .u32 1)])]⟩
theorem V0:aT Tryz.prog bUT:=aQ mixed iP (aS cP (aU bM1 (fun p hp=>absurd hp List.not_mem_nil))) 100000 200 (by kernel_rfl)
def bVp:dA:=⟨213,[.agg [.v (.bool false),.sl 0 0 1 1],.agg [.v (.bool false),.sl 1 0 1 1]],[.cells 117 [.v (.int .u32 2500)],.cells 117 [.v (.int .u32 10000)]],.agg [.v (.bool false),.sl 24 0 1 1],[(24,.cells 117 [.v (.int .u32 2500)])]⟩
theorem cCs:aT Tryz.prog bVp:=aQ mixed iP (aS cP (aU bYQ (aU bZz (fun p hp=>absurd hp List.not_mem_nil)))) 100000 200 (by kernel_rfl)
def bW3:dA:=⟨214,[.agg [.v (.bool false),.sl 0 0 1 1],.agg [.v (.bool false),.sl 1 0 1 1]],[.cells 117 [.v (.int .u32 2500)],.cells 117 [.v (.int .u32 2500)]],.tup [.agg [.v (.bool false),.sl 23 0 1 1],.agg [.v (.bool false),.v (.slice none 0 0)],.c (.v (.int .i64 0))],[(23,.cells 117 [.v (.int .u32 1)])]⟩
theorem bYn:aT Tryz.prog bW3:=aQ mixed iP (aS cP (aU bYe (fun p hp=>absurd hp List.not_mem_nil))) 100000 200 (by kernel_rfl)
def cDg:dA:=⟨214,[.agg [.v (.bool false),.sl 0 0 1 1],.agg [.v (.bool false),.sl 1 0 1 1]],[.cells 117 [.v (.int .u32 10000)],.cells 117 [.v (.int .u32 2500)]],.tup [.agg [.v (.bool false),.sl 23 0 1 1],.agg [.v (.bool false),.v (.slice none 0 0)],.c (.v (.int .i64 0))],[(23,.cells 117 [.v (.int .u32 4)])]⟩
theorem bRF:aT Tryz.prog cDg:=aQ mixed iP (aS cP (aU bXf (fun p hp=>absurd hp List.not_mem_nil))) 100000 200 (by kernel_rfl)
def bY6:dA:=⟨213,[.agg [.v (.bool false),.sl 0 0 1 1],.agg [.v (.bool false),.sl 1 0 1 1]],[.cells 117 [.v (.int .u32 7500)],.cells 117 [.v (.int .u32 10000)]],.agg [.v (.bool false),.sl 26 0 1 1],[(26,.cells 117 [.v (.int .u32 2500)])]⟩
theorem bXG:aT Tryz.prog bY6:=aQ mixed iP (aS cP (aU bVo (aU cCz (aU bW9 (fun p hp=>absurd hp List.not_mem_nil))))) 100000 200 (by kernel_rfl)
def bVc:dA:=⟨214,[.agg [.v (.bool false),.sl 0 0 1 1],.agg [.v (.bool false),.sl 1 0 1 1]],[.cells 117 [.v (.int .u32 7500)],.cells 117 [.v (.int .u32 2500)]],.tup [.agg [.v (.bool false),.sl 23 0 1 1],.agg [.v (.bool false),.v (.slice none 0 0)],.c (.v (.int .i64 0))],[(23,.cells 117 [.v (.int .u32 3)])]⟩
theorem bV2:aT Tryz.prog bVc:=aQ mixed iP (aS cP (aU bXw (fun p hp=>absurd hp List.not_mem_nil))) 100000 200 (by kernel_rfl)
def bXt:dA:=⟨213,[.agg [.v (.bool false),.sl 0 0 1 1],.agg [.v (.bool false),.sl 1 0 1 1]],[.cells 117 [.v (.int .u32 5000)],.cells 117 [.v (.int .u32 10000)]],.agg [.v (.bool false),.sl 24 0 1 1],[(24,.cells 117 [.v (.int .u32 5000)])]⟩
theorem cBg:aT Tryz.prog bXt:=aQ mixed iP (aS cP (aU bWg (aU cAb (fun p hp=>absurd hp List.not_mem_nil)))) 100000 200 (by kernel_rfl)
def cC6:dA:=⟨214,[.agg [.v (.bool false),.sl 0 0 1 1],.agg [.v (.bool false),.sl 1 0 1 1]],[.cells 117 [.v (.int .u32 5000)],.cells 117 [.v (.int .u32 5000)]],.tup [.agg [.v (.bool false),.sl 23 0 1 1],.agg [.v (.bool false),.v (.slice none 0 0)],.c (.v (.int .i64 0))],[(23,.cells 117 [.v (.int .u32 1)])]⟩
theorem bYk:aT Tryz.prog cC6:=aQ mixed iP (aS cP (aU bZj (fun p hp=>absurd hp List.not_mem_nil))) 100000 200 (by kernel_rfl)
def cCf:dA:=⟨214,[.agg [.v (.bool false),.sl 0 0 1 1],.agg [.v (.bool false),.sl 1 0 1 1]],[.cells 117 [.v (.int .u32 10000)],.cells 117 [.v (.int .u32 5000)]],.tup [.agg [.v (.bool false),.sl 23 0 1 1],.agg [.v (.bool false),.v (.slice none 0 0)],.c (.v (.int .i64 0))],[(23,.cells 117 [.v (.int .u32 2)])]⟩
theorem bXh:aT Tryz.prog cCf:=aQ mixed iP (aS cP (aU cB0 (fun p hp=>absurd hp List.not_mem_nil))) 100000 200 (by kernel_rfl)
def bVs:dA:=⟨213,[.agg [.v (.bool false),.sl 0 0 1 1],.agg [.v (.bool false),.sl 1 0 1 1]],[.cells 117 [.v (.int .u32 3000)],.cells 117 [.v (.int .u32 10000)]],.agg [.v (.bool false),.sl 26 0 1 1],[(26,.cells 117 [.v (.int .u32 1000)])]⟩
theorem bZr:aT Tryz.prog bVs:=aQ mixed iP (aS cP (aU bXU (aU bYX (aU bWH (fun p hp=>absurd hp List.not_mem_nil))))) 100000 200 (by kernel_rfl)
def bV4:dA:=⟨214,[.agg [.v (.bool false),.sl 0 0 1 1],.agg [.v (.bool false),.sl 1 0 1 1]],[.cells 117 [.v (.int .u32 3000)],.cells 117 [.v (.int .u32 1000)]],.tup [.agg [.v (.bool false),.sl 23 0 1 1],.agg [.v (.bool false),.v (.slice none 0 0)],.c (.v (.int .i64 0))],[(23,.cells 117 [.v (.int .u32 3)])]⟩
theorem cBx:aT Tryz.prog bV4:=aQ mixed iP (aS cP (aU bXd (fun p hp=>absurd hp List.not_mem_nil))) 100000 200 (by kernel_rfl)
def bXO:dA:=⟨214,[.agg [.v (.bool false),.sl 0 0 1 1],.agg [.v (.bool false),.sl 1 0 1 1]],[.cells 117 [.v (.int .u32 10000)],.cells 117 [.v (.int .u32 1000)]],.tup [.agg [.v (.bool false),.sl 23 0 1 1],.agg [.v (.bool false),.v (.slice none 0 0)],.c (.v (.int .i64 0))],[(23,.cells 117 [.v (.int .u32 10)])]⟩
theorem bQY:aT Tryz.prog bXO:=aQ mixed iP (aS cP (aU bWy (fun p hp=>absurd hp List.not_mem_nil))) 100000 200 (by kernel_rfl)
def cAW:dA:=⟨213,[.agg [.v (.bool false),.sl 0 0 1 1],.agg [.v (.bool false),.sl 1 0 1 1]],[.cells 117 [.v (.int .u32 1000)],.cells 117 [.v (.int .u32 10000)]],.agg [.v (.bool false),.sl 24 0 1 1],[(24,.cells 117 [.v (.int .u32 1000)])]⟩
theorem cBd:aT Tryz.prog cAW:=aQ mixed iP (aS cP (aU bUz (aU bXQ (fun p hp=>absurd hp List.not_mem_nil)))) 100000 200 (by kernel_rfl)
def bX1:dA:=⟨214,[.agg [.v (.bool false),.sl 0 0 1 1],.agg [.v (.bool false),.sl 1 0 1 1]],[.cells 117 [.v (.int .u32 1000)],.cells 117 [.v (.int .u32 1000)]],.tup [.agg [.v (.bool false),.sl 23 0 1 1],.agg [.v (.bool false),.v (.slice none 0 0)],.c (.v (.int .i64 0))],[(23,.cells 117 [.v (.int .u32 1)])]⟩
theorem bY3:aT Tryz.prog bX1:=aQ mixed iP (aS cP (aU bZF (fun p hp=>absurd hp List.not_mem_nil))) 100000 200 (by kernel_rfl)
def bZf:dA:=⟨213,[.agg [.v (.bool false),.sl 0 0 1 1],.agg [.v (.bool false),.sl 1 0 1 1]],[.cells 117 [.v (.int .u32 100000)],.cells 117 [.v (.int .u32 100)]],.agg [.v (.bool false),.sl 22 0 1 1],[(22,.cells 117 [.v (.int .u32 100)])]⟩
theorem cA5:aT Tryz.prog bZf:=aQ mixed iP (aS cP (aU bSI (fun p hp=>absurd hp List.not_mem_nil))) 100000 200 (by kernel_rfl)
def cAE:dA:=⟨214,[.agg [.v (.bool false),.sl 0 0 1 1],.agg [.v (.bool false),.sl 1 0 1 1]],[.cells 117 [.v (.int .u32 100000)],.cells 117 [.v (.int .u32 100)]],.tup [.agg [.v (.bool false),.sl 23 0 1 1],.agg [.v (.bool false),.v (.slice none 0 0)],.c (.v (.int .i64 0))],[(23,.cells 117 [.v (.int .u32 1000)])]⟩
theorem cA8:aT Tryz.prog cAE:=aQ mixed iP (aS cP (aU bSI (fun p hp=>absurd hp List.not_mem_nil))) 100000 200 (by kernel_rfl)
def bYR:dA:=⟨213,[.agg [.v (.bool false),.sl 0 0 1 1],.agg [.v (.bool false),.sl 1 0 1 1]],[.cells 117 [.v (.int .u32 2550)],.cells 117 [.v (.int .u32 10000)]],.agg [.v (.bool false),.sl 32 0 1 1],[(32,.cells 117 [.v (.int .u32 50)])]⟩
theorem bZG:aT Tryz.prog bYR:=aQ mixed iP (aS cP (aU bZE (aU bUy (aU bYG (aU bY1 (aU bXE (aU bWP (fun p hp=>absurd hp List.not_mem_nil)))))))) 100000 200 (by kernel_rfl)
def bWS:dA:=⟨214,[.agg [.v (.bool false),.sl 0 0 1 1],.agg [.v (.bool false),.sl 1 0 1 1]],[.cells 117 [.v (.int .u32 2550)],.cells 117 [.v (.int .u32 50)]],.tup [.agg [.v (.bool false),.sl 23 0 1 1],.agg [.v (.bool false),.v (.slice none 0 0)],.c (.v (.int .i64 0))],[(23,.cells 117 [.v (.int .u32 51)])]⟩
theorem cA4:aT Tryz.prog bWS:=aQ mixed iP (aS cP (aU bUE (fun p hp=>absurd hp List.not_mem_nil))) 100000 200 (by kernel_rfl)
def cBF:dA:=⟨214,[.agg [.v (.bool false),.sl 0 0 1 1],.agg [.v (.bool false),.sl 1 0 1 1]],[.cells 117 [.v (.int .u32 10000)],.cells 117 [.v (.int .u32 50)]],.tup [.agg [.v (.bool false),.sl 23 0 1 1],.agg [.v (.bool false),.v (.slice none 0 0)],.c (.v (.int .i64 0))],[(23,.cells 117 [.v (.int .u32 200)])]⟩
theorem cAv:aT Tryz.prog cBF:=aQ mixed iP (aS cP (aU cAu (fun p hp=>absurd hp List.not_mem_nil))) 100000 200 (by kernel_rfl)
def cCG:dA:=⟨213,[.agg [.v (.bool false),.sl 0 0 1 1],.agg [.v (.bool false),.sl 1 0 1 1]],[.cells 117 [.v (.int .u32 5000)],.cells 117 [.v (.int .u32 100)]],.agg [.v (.bool false),.sl 22 0 1 1],[(22,.cells 117 [.v (.int .u32 100)])]⟩
theorem bYq:aT Tryz.prog cCG:=aQ mixed iP (aS cP (aU bSa (fun p hp=>absurd hp List.not_mem_nil))) 100000 200 (by kernel_rfl)
def bWv:dA:=⟨214,[.agg [.v (.bool false),.sl 0 0 1 1],.agg [.v (.bool false),.sl 1 0 1 1]],[.cells 117 [.v (.int .u32 5000)],.cells 117 [.v (.int .u32 100)]],.tup [.agg [.v (.bool false),.sl 23 0 1 1],.agg [.v (.bool false),.v (.slice none 0 0)],.c (.v (.int .i64 0))],[(23,.cells 117 [.v (.int .u32 50)])]⟩
theorem bZW:aT Tryz.prog bWv:=aQ mixed iP (aS cP (aU bSa (fun p hp=>absurd hp List.not_mem_nil))) 100000 200 (by kernel_rfl)
def bWQ:dA:=⟨213,[.agg [.v (.bool false),.sl 0 0 1 1],.agg [.v (.bool false),.sl 1 0 1 1]],[.cells 117 [.v (.int .u32 6000)],.cells 117 [.v (.int .u32 10000)]],.agg [.v (.bool false),.sl 28 0 1 1],[(28,.cells 117 [.v (.int .u32 2000)])]⟩
theorem bYx:aT Tryz.prog bWQ:=aQ mixed iP (aS cP (aU bVy (aU bVQ (aU bUL (aU bT8 (fun p hp=>absurd hp List.not_mem_nil)))))) 100000 200 (by kernel_rfl)
def bUJ:dA:=⟨214,[.agg [.v (.bool false),.sl 0 0 1 1],.agg [.v (.bool false),.sl 1 0 1 1]],[.cells 117 [.v (.int .u32 6000)],.cells 117 [.v (.int .u32 2000)]],.tup [.agg [.v (.bool false),.sl 23 0 1 1],.agg [.v (.bool false),.v (.slice none 0 0)],.c (.v (.int .i64 0))],[(23,.cells 117 [.v (.int .u32 3)])]⟩
theorem bVH:aT Tryz.prog bUJ:=aQ mixed iP (aS cP (aU bXB (fun p hp=>absurd hp List.not_mem_nil))) 100000 200 (by kernel_rfl)
def bZD:dA:=⟨214,[.agg [.v (.bool false),.sl 0 0 1 1],.agg [.v (.bool false),.sl 1 0 1 1]],[.cells 117 [.v (.int .u32 10000)],.cells 117 [.v (.int .u32 2000)]],.tup [.agg [.v (.bool false),.sl 23 0 1 1],.agg [.v (.bool false),.v (.slice none 0 0)],.c (.v (.int .i64 0))],[(23,.cells 117 [.v (.int .u32 5)])]⟩
theorem bM7:aT Tryz.prog bZD:=aQ mixed iP (aS cP (aU cBk (fun p hp=>absurd hp List.not_mem_nil))) 100000 200 (by kernel_rfl)
def cAT:dA:=⟨213,[.agg [.v (.bool false),.v (.slice none 0 0)],.agg [.v (.bool false),.sl 0 0 1 1]],[.cells 117 [.v (.int .u32 1)]],.agg [.v (.bool false),.sl 18 0 1 1],[(18,.cells 117 [.v (.int .u32 1)])]⟩
theorem cDo:aT Tryz.prog cAT:=aQ mixed iP (aS cP (aU bSs (fun p hp=>absurd hp List.not_mem_nil))) 100000 200 (by kernel_rfl)
def bZb:dA:=⟨214,[.agg [.v (.bool false),.v (.slice none 0 0)],.agg [.v (.bool false),.sl 0 0 1 1]],[.cells 117 [.v (.int .u32 1)]],.tup [.agg [.v (.bool false),.v (.slice none 0 0)],.agg [.v (.bool false),.v (.slice none 0 0)],.c (.v (.int .i64 0))],[]⟩
theorem bVW:aT Tryz.prog bZb:=aQ mixed iP (aS cP (aU bSs (fun p hp=>absurd hp List.not_mem_nil))) 100000 200 (by kernel_rfl)
def bUn:dA:=⟨214,[.agg [.v (.bool false),.sl 0 0 1 1],.agg [.v (.bool false),.sl 1 0 1 1]],[.cells 117 [.v (.int .u32 1)],.cells 117 [.v (.int .u32 1)]],.tup [.agg [.v (.bool false),.sl 23 0 1 1],.agg [.v (.bool false),.v (.slice none 0 0)],.c (.v (.int .i64 0))],[(23,.cells 117 [.v (.int .u32 1)])]⟩
theorem bNl:aT Tryz.prog bUn:=aQ mixed iP (aS cP (aU cC0 (fun p hp=>absurd hp List.not_mem_nil))) 100000 200 (by kernel_rfl)
def bXP:dA:=⟨213,[.agg [.v (.bool false),.sl 0 0 1 1],.agg [.v (.bool false),.sl 1 0 1 1]],[.cells 117 [.v (.int .u32 10000)],.cells 117 [.v (.int .u32 100)]],.agg [.v (.bool false),.sl 22 0 1 1],[(22,.cells 117 [.v (.int .u32 100)])]⟩
theorem bXk:aT Tryz.prog bXP:=aQ mixed iP (aS cP (aU bSw (fun p hp=>absurd hp List.not_mem_nil))) 100000 200 (by kernel_rfl)
def cCo:dA:=⟨214,[.agg [.v (.bool false),.sl 0 0 1 1],.agg [.v (.bool false),.sl 1 0 1 1]],[.cells 117 [.v (.int .u32 10000)],.cells 117 [.v (.int .u32 100)]],.tup [.agg [.v (.bool false),.sl 23 0 1 1],.agg [.v (.bool false),.v (.slice none 0 0)],.c (.v (.int .i64 0))],[(23,.cells 117 [.v (.int .u32 100)])]⟩
theorem cB6:aT Tryz.prog cCo:=aQ mixed iP (aS cP (aU bSw (fun p hp=>absurd hp List.not_mem_nil))) 100000 200 (by kernel_rfl)
def cBq:dA:=⟨213,[.agg [.v (.bool false),.sl 0 0 1 1],.agg [.v (.bool false),.sl 1 0 1 1]],[.cells 117 [.v (.int .u32 2)],.cells 117 [.v (.int .u32 1)]],.agg [.v (.bool false),.sl 22 0 1 1],[(22,.cells 117 [.v (.int .u32 1)])]⟩
theorem bZx:aT Tryz.prog cBq:=aQ mixed iP (aS cP (aU bR2 (fun p hp=>absurd hp List.not_mem_nil))) 100000 200 (by kernel_rfl)
def bYO:dA:=⟨214,[.agg [.v (.bool false),.sl 0 0 1 1],.agg [.v (.bool false),.sl 1 0 1 1]],[.cells 117 [.v (.int .u32 2)],.cells 117 [.v (.int .u32 1)]],.tup [.agg [.v (.bool false),.sl 23 0 1 1],.agg [.v (.bool false),.v (.slice none 0 0)],.c (.v (.int .i64 0))],[(23,.cells 117 [.v (.int .u32 2)])]⟩
theorem bYZ:aT Tryz.prog bYO:=aQ mixed iP (aS cP (aU bR2 (fun p hp=>absurd hp List.not_mem_nil))) 100000 200 (by kernel_rfl)
def cCQ:dA:=⟨213,[.agg [.v (.bool false),.sl 0 0 1 1],.agg [.v (.bool false),.sl 1 0 1 1]],[.cells 117 [.v (.int .u32 10000)],.cells 117 [.v (.int .u32 10000)]],.agg [.v (.bool false),.sl 22 0 1 1],[(22,.cells 117 [.v (.int .u32 10000)])]⟩
theorem cBY:aT Tryz.prog cCQ:=aQ mixed iP (aS cP (aU bRy (fun p hp=>absurd hp List.not_mem_nil))) 100000 200 (by kernel_rfl)
def bU1:dA:=⟨214,[.agg [.v (.bool false),.sl 0 0 1 1],.agg [.v (.bool false),.sl 1 0 1 1]],[.cells 117 [.v (.int .u32 10000)],.cells 117 [.v (.int .u32 10000)]],.tup [.agg [.v (.bool false),.sl 23 0 1 1],.agg [.v (.bool false),.v (.slice none 0 0)],.c (.v (.int .i64 0))],[(23,.cells 117 [.v (.int .u32 1)])]⟩
theorem bVt:aT Tryz.prog bU1:=aQ mixed iP (aS cP (aU bRy (fun p hp=>absurd hp List.not_mem_nil))) 100000 200 (by kernel_rfl)
def cCa:dA:=⟨213,[.agg [.v (.bool false),.sl 0 0 1 1],.agg [.v (.bool false),.sl 1 0 1 1]],[.cells 117 [.v (.int .u32 4000)],.cells 117 [.v (.int .u32 10000)]],.agg [.v (.bool false),.sl 26 0 1 1],[(26,.cells 117 [.v (.int .u32 2000)])]⟩
theorem cAO:aT Tryz.prog cCa:=aQ mixed iP (aS cP (aU bT8 (aU cAG (aU cA3 (fun p hp=>absurd hp List.not_mem_nil))))) 100000 200 (by kernel_rfl)
def bWz:dA:=⟨214,[.agg [.v (.bool false),.sl 0 0 1 1],.agg [.v (.bool false),.sl 1 0 1 1]],[.cells 117 [.v (.int .u32 4000)],.cells 117 [.v (.int .u32 2000)]],.tup [.agg [.v (.bool false),.sl 23 0 1 1],.agg [.v (.bool false),.v (.slice none 0 0)],.c (.v (.int .i64 0))],[(23,.cells 117 [.v (.int .u32 2)])]⟩
theorem bW6:aT Tryz.prog bWz:=aQ mixed iP (aS cP (aU bYD (fun p hp=>absurd hp List.not_mem_nil))) 100000 200 (by kernel_rfl)
def cB9:dA:=⟨213,[.agg [.v (.bool false),.sl 0 0 1 1],.agg [.v (.bool false),.sl 1 0 1 1]],[.cells 117 [.v (.int .u32 40000)],.cells 117 [.v (.int .u32 100)]],.agg [.v (.bool false),.sl 22 0 1 1],[(22,.cells 117 [.v (.int .u32 100)])]⟩
theorem bWs:aT Tryz.prog cB9:=aQ mixed iP (aS cP (aU bTx (fun p hp=>absurd hp List.not_mem_nil))) 100000 200 (by kernel_rfl)
def bZM:dA:=⟨214,[.agg [.v (.bool false),.sl 0 0 1 1],.agg [.v (.bool false),.sl 1 0 1 1]],[.cells 117 [.v (.int .u32 40000)],.cells 117 [.v (.int .u32 100)]],.tup [.agg [.v (.bool false),.sl 23 0 1 1],.agg [.v (.bool false),.v (.slice none 0 0)],.c (.v (.int .i64 0))],[(23,.cells 117 [.v (.int .u32 400)])]⟩
theorem cCJ:aT Tryz.prog bZM:=aQ mixed iP (aS cP (aU bTx (fun p hp=>absurd hp List.not_mem_nil))) 100000 200 (by kernel_rfl)
def cBE:dA:=⟨213,[.agg [.v (.bool false),.sl 0 0 1 1],.agg [.v (.bool false),.sl 1 0 1 1]],[.cells 117 [.v (.int .u32 20000)],.cells 117 [.v (.int .u32 100)]],.agg [.v (.bool false),.sl 22 0 1 1],[(22,.cells 117 [.v (.int .u32 100)])]⟩
theorem bWU:aT Tryz.prog cBE:=aQ mixed iP (aS cP (aU bSL (fun p hp=>absurd hp List.not_mem_nil))) 100000 200 (by kernel_rfl)
def cA1:dA:=⟨214,[.agg [.v (.bool false),.sl 0 0 1 1],.agg [.v (.bool false),.sl 1 0 1 1]],[.cells 117 [.v (.int .u32 20000)],.cells 117 [.v (.int .u32 100)]],.tup [.agg [.v (.bool false),.sl 23 0 1 1],.agg [.v (.bool false),.v (.slice none 0 0)],.c (.v (.int .i64 0))],[(23,.cells 117 [.v (.int .u32 200)])]⟩
theorem bX0:aT Tryz.prog cA1:=aQ mixed iP (aS cP (aU bSL (fun p hp=>absurd hp List.not_mem_nil))) 100000 200 (by kernel_rfl)
def bZ3:dA:=⟨213,[.agg [.v (.bool false),.sl 0 0 1 1],.agg [.v (.bool false),.sl 1 0 1 1]],[.cells 117 [.v (.int .u32 50000)],.cells 117 [.v (.int .u32 100)]],.agg [.v (.bool false),.sl 22 0 1 1],[(22,.cells 117 [.v (.int .u32 100)])]⟩
theorem bVG:aT Tryz.prog bZ3:=aQ mixed iP (aS cP (aU bRu (fun p hp=>absurd hp List.not_mem_nil))) 100000 200 (by kernel_rfl)
def bZk:dA:=⟨214,[.agg [.v (.bool false),.sl 0 0 1 1],.agg [.v (.bool false),.sl 1 0 1 1]],[.cells 117 [.v (.int .u32 50000)],.cells 117 [.v (.int .u32 100)]],.tup [.agg [.v (.bool false),.sl 23 0 1 1],.agg [.v (.bool false),.v (.slice none 0 0)],.c (.v (.int .i64 0))],[(23,.cells 117 [.v (.int .u32 500)])]⟩
theorem bVB:aT Tryz.prog bZk:=aQ mixed iP (aS cP (aU bRu (fun p hp=>absurd hp List.not_mem_nil))) 100000 200 (by kernel_rfl)
def bV7:dA:=⟨213,[.agg [.v (.bool false),.sl 0 0 1 1],.agg [.v (.bool false),.sl 1 0 1 1]],[.cells 117 [.v (.int .u32 90000)],.cells 117 [.v (.int .u32 100)]],.agg [.v (.bool false),.sl 22 0 1 1],[(22,.cells 117 [.v (.int .u32 100)])]⟩
theorem bYz:aT Tryz.prog bV7:=aQ mixed iP (aS cP (aU bSh (fun p hp=>absurd hp List.not_mem_nil))) 100000 200 (by kernel_rfl)
def cCp:dA:=⟨214,[.agg [.v (.bool false),.sl 0 0 1 1],.agg [.v (.bool false),.sl 1 0 1 1]],[.cells 117 [.v (.int .u32 90000)],.cells 117 [.v (.int .u32 100)]],.tup [.agg [.v (.bool false),.sl 23 0 1 1],.agg [.v (.bool false),.v (.slice none 0 0)],.c (.v (.int .i64 0))],[(23,.cells 117 [.v (.int .u32 900)])]⟩
theorem bYr:aT Tryz.prog cCp:=aQ mixed iP (aS cP (aU bSh (fun p hp=>absurd hp List.not_mem_nil))) 100000 200 (by kernel_rfl)
def bVh:dA:=⟨213,[.agg [.v (.bool false),.sl 0 0 1 1],.agg [.v (.bool false),.sl 1 0 1 1]],[.cells 117 [.v (.int .u32 4001)],.cells 117 [.v (.int .u32 100)]],.agg [.v (.bool false),.sl 24 0 1 1],[(24,.cells 117 [.v (.int .u32 1)])]⟩
theorem cDq:aT Tryz.prog bVh:=aQ mixed iP (aS cP (aU bZ1 (aU bY4 (fun p hp=>absurd hp List.not_mem_nil)))) 100000 200 (by kernel_rfl)
def bWb:dA:=⟨214,[.agg [.v (.bool false),.sl 0 0 1 1],.agg [.v (.bool false),.sl 1 0 1 1]],[.cells 117 [.v (.int .u32 4001)],.cells 117 [.v (.int .u32 1)]],.tup [.agg [.v (.bool false),.sl 23 0 1 1],.agg [.v (.bool false),.v (.slice none 0 0)],.c (.v (.int .i64 0))],[(23,.cells 117 [.v (.int .u32 4001)])]⟩
theorem bUW:aT Tryz.prog bWb:=aQ mixed iP (aS cP (aU bWr (fun p hp=>absurd hp List.not_mem_nil))) 100000 200 (by kernel_rfl)
def cCZ:dA:=⟨214,[.agg [.v (.bool false),.sl 0 0 1 1],.agg [.v (.bool false),.sl 1 0 1 1]],[.cells 117 [.v (.int .u32 100)],.cells 117 [.v (.int .u32 1)]],.tup [.agg [.v (.bool false),.sl 23 0 1 1],.agg [.v (.bool false),.v (.slice none 0 0)],.c (.v (.int .i64 0))],[(23,.cells 117 [.v (.int .u32 100)])]⟩
theorem bPw:aT Tryz.prog cCZ:=aQ mixed iP (aS cP (aU bTE (fun p hp=>absurd hp List.not_mem_nil))) 100000 200 (by kernel_rfl)
def bUo:dA:=⟨213,[.agg [.v (.bool false),.sl 0 0 1 1],.agg [.v (.bool false),.sl 1 0 1 1]],[.cells 117 [.v (.int .u32 9000)],.cells 117 [.v (.int .u32 100)]],.agg [.v (.bool false),.sl 22 0 1 1],[(22,.cells 117 [.v (.int .u32 100)])]⟩
theorem bZw:aT Tryz.prog bUo:=aQ mixed iP (aS cP (aU bSb (fun p hp=>absurd hp List.not_mem_nil))) 100000 200 (by kernel_rfl)
def cBA:dA:=⟨214,[.agg [.v (.bool false),.sl 0 0 1 1],.agg [.v (.bool false),.sl 1 0 1 1]],[.cells 117 [.v (.int .u32 9000)],.cells 117 [.v (.int .u32 100)]],.tup [.agg [.v (.bool false),.sl 23 0 1 1],.agg [.v (.bool false),.v (.slice none 0 0)],.c (.v (.int .i64 0))],[(23,.cells 117 [.v (.int .u32 90)])]⟩
theorem cCb:aT Tryz.prog cBA:=aQ mixed iP (aS cP (aU bSb (fun p hp=>absurd hp List.not_mem_nil))) 100000 200 (by kernel_rfl)
def bUq:dA:=⟨213,[.agg [.v (.bool false),.sl 0 0 1 1],.agg [.v (.bool false),.sl 1 0 1 1]],[.cells 117 [.v (.int .u32 30000)],.cells 117 [.v (.int .u32 100)]],.agg [.v (.bool false),.sl 22 0 1 1],[(22,.cells 117 [.v (.int .u32 100)])]⟩
theorem bWh:aT Tryz.prog bUq:=aQ mixed iP (aS cP (aU bQ1 (fun p hp=>absurd hp List.not_mem_nil))) 100000 200 (by kernel_rfl)
def bZc:dA:=⟨214,[.agg [.v (.bool false),.sl 0 0 1 1],.agg [.v (.bool false),.sl 1 0 1 1]],[.cells 117 [.v (.int .u32 30000)],.cells 117 [.v (.int .u32 100)]],.tup [.agg [.v (.bool false),.sl 23 0 1 1],.agg [.v (.bool false),.v (.slice none 0 0)],.c (.v (.int .i64 0))],[(23,.cells 117 [.v (.int .u32 300)])]⟩
theorem bVr:aT Tryz.prog bZc:=aQ mixed iP (aS cP (aU bQ1 (fun p hp=>absurd hp List.not_mem_nil))) 100000 200 (by kernel_rfl)
def bUQ:dA:=⟨213,[.agg [.v (.bool false),.sl 0 0 1 1],.agg [.v (.bool false),.sl 1 0 1 1]],[.cells 117 [.v (.int .u32 3000)],.cells 117 [.v (.int .u32 100)]],.agg [.v (.bool false),.sl 22 0 1 1],[(22,.cells 117 [.v (.int .u32 100)])]⟩
theorem bVb:aT Tryz.prog bUQ:=aQ mixed iP (aS cP (aU bSC (fun p hp=>absurd hp List.not_mem_nil))) 100000 200 (by kernel_rfl)
def bZY:dA:=⟨214,[.agg [.v (.bool false),.sl 0 0 1 1],.agg [.v (.bool false),.sl 1 0 1 1]],[.cells 117 [.v (.int .u32 3000)],.cells 117 [.v (.int .u32 100)]],.tup [.agg [.v (.bool false),.sl 23 0 1 1],.agg [.v (.bool false),.v (.slice none 0 0)],.c (.v (.int .i64 0))],[(23,.cells 117 [.v (.int .u32 30)])]⟩
theorem bV3:aT Tryz.prog bZY:=aQ mixed iP (aS cP (aU bSC (fun p hp=>absurd hp List.not_mem_nil))) 100000 200 (by kernel_rfl)
def bZL:dA:=⟨213,[.agg [.v (.bool false),.sl 0 0 1 1],.agg [.v (.bool false),.sl 1 0 1 1]],[.cells 117 [.v (.int .u32 2000)],.cells 117 [.v (.int .u32 100)]],.agg [.v (.bool false),.sl 22 0 1 1],[(22,.cells 117 [.v (.int .u32 100)])]⟩
theorem bUu:aT Tryz.prog bZL:=aQ mixed iP (aS cP (aU bQ6 (fun p hp=>absurd hp List.not_mem_nil))) 100000 200 (by kernel_rfl)
def bZu:dA:=⟨214,[.agg [.v (.bool false),.sl 0 0 1 1],.agg [.v (.bool false),.sl 1 0 1 1]],[.cells 117 [.v (.int .u32 2000)],.cells 117 [.v (.int .u32 100)]],.tup [.agg [.v (.bool false),.sl 23 0 1 1],.agg [.v (.bool false),.v (.slice none 0 0)],.c (.v (.int .i64 0))],[(23,.cells 117 [.v (.int .u32 20)])]⟩
theorem bYp:aT Tryz.prog bZu:=aQ mixed iP (aS cP (aU bQ6 (fun p hp=>absurd hp List.not_mem_nil))) 100000 200 (by kernel_rfl)
def cBf:dA:=⟨213,[.agg [.v (.bool false),.sl 0 0 1 1],.agg [.v (.bool false),.sl 1 0 1 1]],[.cells 117 [.v (.int .u32 25000)],.cells 117 [.v (.int .u32 100)]],.agg [.v (.bool false),.sl 22 0 1 1],[(22,.cells 117 [.v (.int .u32 100)])]⟩
theorem bZe:aT Tryz.prog cBf:=aQ mixed iP (aS cP (aU bTi (fun p hp=>absurd hp List.not_mem_nil))) 100000 200 (by kernel_rfl)
def bUH:dA:=⟨214,[.agg [.v (.bool false),.sl 0 0 1 1],.agg [.v (.bool false),.sl 1 0 1 1]],[.cells 117 [.v (.int .u32 25000)],.cells 117 [.v (.int .u32 100)]],.tup [.agg [.v (.bool false),.sl 23 0 1 1],.agg [.v (.bool false),.v (.slice none 0 0)],.c (.v (.int .i64 0))],[(23,.cells 117 [.v (.int .u32 250)])]⟩
theorem cB2:aT Tryz.prog bUH:=aQ mixed iP (aS cP (aU bTi (fun p hp=>absurd hp List.not_mem_nil))) 100000 200 (by kernel_rfl)
def cCK:dA:=⟨213,[.agg [.v (.bool false),.sl 0 0 1 1],.agg [.v (.bool false),.sl 1 0 1 1]],[.cells 117 [.v (.int .u32 777)],.cells 117 [.v (.int .u32 100)]],.agg [.v (.bool false),.sl 32 0 1 1],[(32,.cells 117 [.v (.int .u32 1)])]⟩
theorem cCq:aT Tryz.prog cCK:=aQ mixed iP (aS cP (aU cAN (aU cDe (aU bZA (aU bWc (aU bXJ (aU bUO (fun p hp=>absurd hp List.not_mem_nil)))))))) 100000 200 (by kernel_rfl)
def cAr:dA:=⟨214,[.agg [.v (.bool false),.sl 0 0 1 1],.agg [.v (.bool false),.sl 1 0 1 1]],[.cells 117 [.v (.int .u32 777)],.cells 117 [.v (.int .u32 1)]],.tup [.agg [.v (.bool false),.sl 23 0 1 1],.agg [.v (.bool false),.v (.slice none 0 0)],.c (.v (.int .i64 0))],[(23,.cells 117 [.v (.int .u32 777)])]⟩
theorem bVU:aT Tryz.prog cAr:=aQ mixed iP (aS cP (aU bVe (fun p hp=>absurd hp List.not_mem_nil))) 100000 200 (by kernel_rfl)
def bYc:dA:=⟨213,[.agg [.v (.bool false),.sl 0 0 1 1],.agg [.v (.bool false),.sl 1 0 1 1]],[.cells 117 [.v (.int .u32 12000)],.cells 117 [.v (.int .u32 100)]],.agg [.v (.bool false),.sl 22 0 1 1],[(22,.cells 117 [.v (.int .u32 100)])]⟩
theorem cBa:aT Tryz.prog bYc:=aQ mixed iP (aS cP (aU bS4 (fun p hp=>absurd hp List.not_mem_nil))) 100000 200 (by kernel_rfl)
def bX3:dA:=⟨214,[.agg [.v (.bool false),.sl 0 0 1 1],.agg [.v (.bool false),.sl 1 0 1 1]],[.cells 117 [.v (.int .u32 12000)],.cells 117 [.v (.int .u32 100)]],.tup [.agg [.v (.bool false),.sl 23 0 1 1],.agg [.v (.bool false),.v (.slice none 0 0)],.c (.v (.int .i64 0))],[(23,.cells 117 [.v (.int .u32 120)])]⟩
theorem cB5:aT Tryz.prog bX3:=aQ mixed iP (aS cP (aU bS4 (fun p hp=>absurd hp List.not_mem_nil))) 100000 200 (by kernel_rfl)
def cBm:dA:=⟨213,[.agg [.v (.bool false),.sl 0 0 1 1],.agg [.v (.bool false),.sl 1 0 1 1]],[.cells 117 [.v (.int .u32 8000)],.cells 117 [.v (.int .u32 10000)]],.agg [.v (.bool false),.sl 26 0 1 1],[(26,.cells 117 [.v (.int .u32 2000)])]⟩
theorem bZU:aT Tryz.prog cBm:=aQ mixed iP (aS cP (aU bZS (aU cAM (aU cCR (fun p hp=>absurd hp List.not_mem_nil))))) 100000 200 (by kernel_rfl)
def cCY:dA:=⟨214,[.agg [.v (.bool false),.sl 0 0 1 1],.agg [.v (.bool false),.sl 1 0 1 1]],[.cells 117 [.v (.int .u32 8000)],.cells 117 [.v (.int .u32 2000)]],.tup [.agg [.v (.bool false),.sl 23 0 1 1],.agg [.v (.bool false),.v (.slice none 0 0)],.c (.v (.int .i64 0))],[(23,.cells 117 [.v (.int .u32 4)])]⟩
theorem cCD:aT Tryz.prog cCY:=aQ mixed iP (aS cP (aU cAX (fun p hp=>absurd hp List.not_mem_nil))) 100000 200 (by kernel_rfl)
def bYI:dA:=⟨213,[.agg [.v (.bool false),.sl 0 0 1 1],.agg [.v (.bool false),.sl 1 0 1 1]],[.cells 117 [.v (.int .u32 150000)],.cells 117 [.v (.int .u32 100)]],.agg [.v (.bool false),.sl 22 0 1 1],[(22,.cells 117 [.v (.int .u32 100)])]⟩
theorem cDn:aT Tryz.prog bYI:=aQ mixed iP (aS cP (aU bQM (fun p hp=>absurd hp List.not_mem_nil))) 100000 200 (by kernel_rfl)
open Go.CE
def bWe:dA:=⟨214,[.agg [.v (.bool false),.sl 0 0 1 1],.agg [.v (.bool false),.sl 1 0 1 1]],[.cells 117 [.v (.int .u32 150000)],.cells 117 [.v (.int .u32 100)]],.tup [.agg [.v (.bool false),.sl 23 0 1 1],.agg [.v (.bool false),.v (.slice none 0 0)],.c (.v (.int .i64 0))],[(23,.cells 117 [.v (.int .u32 1500)])]⟩
theorem cAd:aT Tryz.prog bWe:=aQ mixed iP (aS cP (aU bQM (fun p hp=>absurd hp List.not_mem_nil))) 100000 200 (by kernel_rfl)
def cCH:dA:=⟨213,[.agg [.v (.bool false),.sl 0 0 1 1],.agg [.v (.bool false),.sl 1 0 1 1]],[.cells 117 [.v (.int .u32 1000)],.cells 117 [.v (.int .u32 100)]],.agg [.v (.bool false),.sl 22 0 1 1],[(22,.cells 117 [.v (.int .u32 100)])]⟩
theorem bVz:aT Tryz.prog cCH:=aQ mixed iP (aS cP (aU bT9 (fun p hp=>absurd hp List.not_mem_nil))) 100000 200 (by kernel_rfl)
def bY0:dA:=⟨214,[.agg [.v (.bool false),.sl 0 0 1 1],.agg [.v (.bool false),.sl 1 0 1 1]],[.cells 117 [.v (.int .u32 1000)],.cells 117 [.v (.int .u32 100)]],.tup [.agg [.v (.bool false),.sl 23 0 1 1],.agg [.v (.bool false),.v (.slice none 0 0)],.c (.v (.int .i64 0))],[(23,.cells 117 [.v (.int .u32 10)])]⟩
theorem bYi:aT Tryz.prog bY0:=aQ mixed iP (aS cP (aU bT9 (fun p hp=>absurd hp List.not_mem_nil))) 100000 200 (by kernel_rfl)
def bUw:dA:=⟨213,[.agg [.v (.bool false),.sl 0 0 1 1],.agg [.v (.bool false),.sl 1 0 1 1]],[.cells 117 [.v (.int .u32 60000)],.cells 117 [.v (.int .u32 100)]],.agg [.v (.bool false),.sl 22 0 1 1],[(22,.cells 117 [.v (.int .u32 100)])]⟩
theorem cA0:aT Tryz.prog bUw:=aQ mixed iP (aS cP (aU bSD (fun p hp=>absurd hp List.not_mem_nil))) 100000 200 (by kernel_rfl)
def cA9:dA:=⟨214,[.agg [.v (.bool false),.sl 0 0 1 1],.agg [.v (.bool false),.sl 1 0 1 1]],[.cells 117 [.v (.int .u32 60000)],.cells 117 [.v (.int .u32 100)]],.tup [.agg [.v (.bool false),.sl 23 0 1 1],.agg [.v (.bool false),.v (.slice none 0 0)],.c (.v (.int .i64 0))],[(23,.cells 117 [.v (.int .u32 600)])]⟩
theorem bUp:aT Tryz.prog cA9:=aQ mixed iP (aS cP (aU bSD (fun p hp=>absurd hp List.not_mem_nil))) 100000 200 (by kernel_rfl)
def bXe:dA:=⟨213,[.agg [.v (.bool false),.sl 0 0 1 1],.agg [.v (.bool false),.sl 1 0 1 1]],[.cells 117 [.v (.int .u32 12345)],.cells 117 [.v (.int .u32 100)]],.agg [.v (.bool false),.sl 28 0 1 1],[(28,.cells 117 [.v (.int .u32 5)])]⟩
theorem cCd:aT Tryz.prog bXe:=aQ mixed iP (aS cP (aU bXx (aU bXT (aU bX4 (aU bZN (fun p hp=>absurd hp List.not_mem_nil)))))) 100000 200 (by kernel_rfl)
def bYS:dA:=⟨214,[.agg [.v (.bool false),.sl 0 0 1 1],.agg [.v (.bool false),.sl 1 0 1 1]],[.cells 117 [.v (.int .u32 12345)],.cells 117 [.v (.int .u32 5)]],.tup [.agg [.v (.bool false),.sl 23 0 1 1],.agg [.v (.bool false),.v (.slice none 0 0)],.c (.v (.int .i64 0))],[(23,.cells 117 [.v (.int .u32 2469)])]⟩
theorem bXZ:aT Tryz.prog bYS:=aQ mixed iP (aS cP (aU bVS (fun p hp=>absurd hp List.not_mem_nil))) 100000 200 (by kernel_rfl)
def cBO:dA:=⟨214,[.agg [.v (.bool false),.sl 0 0 1 1],.agg [.v (.bool false),.sl 1 0 1 1]],[.cells 117 [.v (.int .u32 100)],.cells 117 [.v (.int .u32 5)]],.tup [.agg [.v (.bool false),.sl 23 0 1 1],.agg [.v (.bool false),.v (.slice none 0 0)],.c (.v (.int .i64 0))],[(23,.cells 117 [.v (.int .u32 20)])]⟩
theorem bX2:aT Tryz.prog cBO:=aQ mixed iP (aS cP (aU bYb (fun p hp=>absurd hp List.not_mem_nil))) 100000 200 (by kernel_rfl)
def bYH:dA:=⟨213,[.agg [.v (.bool false),.sl 0 0 1 1],.agg [.v (.bool false),.sl 1 0 1 1]],[.cells 117 [.v (.int .u32 7400)],.cells 117 [.v (.int .u32 10000)]],.agg [.v (.bool false),.sl 32 0 1 1],[(32,.cells 117 [.v (.int .u32 200)])]⟩
theorem bWn:aT Tryz.prog bYH:=aQ mixed iP (aS cP (aU bZR (aU bZP (aU bZy (aU bZs (aU bWL (aU bW5 (fun p hp=>absurd hp List.not_mem_nil)))))))) 100000 200 (by kernel_rfl)
def cC3:dA:=⟨214,[.agg [.v (.bool false),.sl 0 0 1 1],.agg [.v (.bool false),.sl 1 0 1 1]],[.cells 117 [.v (.int .u32 7400)],.cells 117 [.v (.int .u32 200)]],.tup [.agg [.v (.bool false),.sl 23 0 1 1],.agg [.v (.bool false),.v (.slice none 0 0)],.c (.v (.int .i64 0))],[(23,.cells 117 [.v (.int .u32 37)])]⟩
theorem bW2:aT Tryz.prog cC3:=aQ mixed iP (aS cP (aU cCU (fun p hp=>absurd hp List.not_mem_nil))) 100000 200 (by kernel_rfl)
def bYE:dA:=⟨214,[.agg [.v (.bool false),.sl 0 0 1 1],.agg [.v (.bool false),.sl 1 0 1 1]],[.cells 117 [.v (.int .u32 10000)],.cells 117 [.v (.int .u32 200)]],.tup [.agg [.v (.bool false),.sl 23 0 1 1],.agg [.v (.bool false),.v (.slice none 0 0)],.c (.v (.int .i64 0))],[(23,.cells 117 [.v (.int .u32 50)])]⟩
theorem cBt:aT Tryz.prog bYE:=aQ mixed iP (aS cP (aU bX8 (fun p hp=>absurd hp List.not_mem_nil))) 100000 200 (by kernel_rfl)
def cDi:dA:=⟨213,[.agg [.v (.bool false),.sl 0 0 1 1],.agg [.v (.bool false),.sl 1 0 1 1]],[.cells 117 [.v (.int .u32 9999)],.cells 117 [.v (.int .u32 10000)]],.agg [.v (.bool false),.sl 26 0 1 1],[(26,.cells 117 [.v (.int .u32 1)])]⟩
theorem cAq:aT Tryz.prog cDi:=aQ mixed iP (aS cP (aU bYL (aU cDj (aU cCt (fun p hp=>absurd hp List.not_mem_nil))))) 100000 200 (by kernel_rfl)
def cAz:dA:=⟨214,[.agg [.v (.bool false),.sl 0 0 1 1],.agg [.v (.bool false),.sl 1 0 1 1]],[.cells 117 [.v (.int .u32 9999)],.cells 117 [.v (.int .u32 1)]],.tup [.agg [.v (.bool false),.sl 23 0 1 1],.agg [.v (.bool false),.v (.slice none 0 0)],.c (.v (.int .i64 0))],[(23,.cells 117 [.v (.int .u32 9999)])]⟩
theorem bUN:aT Tryz.prog cAz:=aQ mixed iP (aS cP (aU bXv (fun p hp=>absurd hp List.not_mem_nil))) 100000 200 (by kernel_rfl)
def bZX:dA:=⟨214,[.agg [.v (.bool false),.sl 0 0 1 1],.agg [.v (.bool false),.sl 1 0 1 1]],[.cells 117 [.v (.int .u32 10000)],.cells 117 [.v (.int .u32 1)]],.tup [.agg [.v (.bool false),.sl 23 0 1 1],.agg [.v (.bool false),.v (.slice none 0 0)],.c (.v (.int .i64 0))],[(23,.cells 117 [.v (.int .u32 10000)])]⟩
theorem bXV:aT Tryz.prog bZX:=aQ mixed iP (aS cP (aU bVk (fun p hp=>absurd hp List.not_mem_nil))) 100000 200 (by kernel_rfl)
def cBb:dA:=⟨213,[.agg [.v (.bool false),.sl 0 0 1 1],.agg [.v (.bool false),.sl 1 0 1 1]],[.cells 117 [.v (.int .u32 300000)],.cells 117 [.v (.int .u32 100)]],.agg [.v (.bool false),.sl 22 0 1 1],[(22,.cells 117 [.v (.int .u32 100)])]⟩
theorem bYV:aT Tryz.prog cBb:=aQ mixed iP (aS cP (aU bTY (fun p hp=>absurd hp List.not_mem_nil))) 100000 200 (by kernel_rfl)
def bUZ:dA:=⟨214,[.agg [.v (.bool false),.sl 0 0 1 1],.agg [.v (.bool false),.sl 1 0 1 1]],[.cells 117 [.v (.int .u32 300000)],.cells 117 [.v (.int .u32 100)]],.tup [.agg [.v (.bool false),.sl 23 0 1 1],.agg [.v (.bool false),.v (.slice none 0 0)],.c (.v (.int .i64 0))],[(23,.cells 117 [.v (.int .u32 3000)])]⟩
theorem bWo:aT Tryz.prog bUZ:=aQ mixed iP (aS cP (aU bTY (fun p hp=>absurd hp List.not_mem_nil))) 100000 200 (by kernel_rfl)
def bWt:dA:=⟨213,[.agg [.v (.bool false),.sl 0 0 1 1],.agg [.v (.bool false),.sl 1 0 1 1]],[.cells 117 [.v (.int .u32 70001)],.cells 117 [.v (.int .u32 100)]],.agg [.v (.bool false),.sl 24 0 1 1],[(24,.cells 117 [.v (.int .u32 1)])]⟩
theorem bYC:aT Tryz.prog bWt:=aQ mixed iP (aS cP (aU bTE (aU cAy (fun p hp=>absurd hp List.not_mem_nil)))) 100000 200 (by kernel_rfl)
def cC1:dA:=⟨214,[.agg [.v (.bool false),.sl 0 0 1 1],.agg [.v (.bool false),.sl 1 0 1 1]],[.cells 117 [.v (.int .u32 70001)],.cells 117 [.v (.int .u32 1)]],.tup [.agg [.v (.bool false),.sl 23 0 1 1],.agg [.v (.bool false),.v (.slice none 0 0)],.c (.v (.int .i64 0))],[(23,.cells 117 [.v (.int .u32 70001)])]⟩
theorem bWa:aT Tryz.prog cC1:=aQ mixed iP (aS cP (aU bUD (fun p hp=>absurd hp List.not_mem_nil))) 100000 200 (by kernel_rfl)
def cAH:dA:=⟨213,[.agg [.v (.bool false),.sl 0 0 1 1],.agg [.v (.bool false),.sl 1 0 1 1]],[.cells 117 [.v (.int .u32 8000)],.cells 117 [.v (.int .u32 100)]],.agg [.v (.bool false),.sl 22 0 1 1],[(22,.cells 117 [.v (.int .u32 100)])]⟩
theorem bVf:aT Tryz.prog cAH:=aQ mixed iP (aS cP (aU bRV (fun p hp=>absurd hp List.not_mem_nil))) 100000 200 (by kernel_rfl)
def bXX:dA:=⟨214,[.agg [.v (.bool false),.sl 0 0 1 1],.agg [.v (.bool false),.sl 1 0 1 1]],[.cells 117 [.v (.int .u32 8000)],.cells 117 [.v (.int .u32 100)]],.tup [.agg [.v (.bool false),.sl 23 0 1 1],.agg [.v (.bool false),.v (.slice none 0 0)],.c (.v (.int .i64 0))],[(23,.cells 117 [.v (.int .u32 80)])]⟩
theorem bY5:aT Tryz.prog bXX:=aQ mixed iP (aS cP (aU bRV (fun p hp=>absurd hp List.not_mem_nil))) 100000 200 (by kernel_rfl)
def bVl:dA:=⟨213,[.agg [.v (.bool true),.sl 0 0 1 1],.agg [.v (.bool false),.sl 1 0 1 1]],[.cells 117 [.v (.int .u32 100)],.cells 117 [.v (.int .u32 100)]],.agg [.v (.bool false),.sl 22 0 1 1],[(22,.cells 117 [.v (.int .u32 100)])]⟩
theorem bWu:aT Tryz.prog bVl:=aQ mixed iP (aS cP (aU bM1 (fun p hp=>absurd hp List.not_mem_nil))) 100000 200 (by kernel_rfl)
def bXg:dA:=⟨214,[.agg [.v (.bool true),.sl 0 0 1 1],.agg [.v (.bool false),.sl 1 0 1 1]],[.cells 117 [.v (.int .u32 100)],.cells 117 [.v (.int .u32 100)]],.tup [.agg [.v (.bool true),.sl 23 0 1 1],.agg [.v (.bool false),.v (.slice none 0 0)],.c (.v (.int .i64 0))],[(23,.cells 117 [.v (.int .u32 1)])]⟩
theorem bU5:aT Tryz.prog bXg:=aQ mixed iP (aS cP (aU bM1 (fun p hp=>absurd hp List.not_mem_nil))) 100000 200 (by kernel_rfl)
def bVC:dA:=⟨213,[.agg [.v (.bool false),.sl 0 0 1 1],.agg [.v (.bool false),.sl 1 0 1 1]],[.cells 117 [.v (.int .u32 120)],.cells 117 [.v (.int .u32 1)]],.agg [.v (.bool false),.sl 22 0 1 1],[(22,.cells 117 [.v (.int .u32 1)])]⟩
theorem cAe:aT Tryz.prog bVC:=aQ mixed iP (aS cP (aU bQR (fun p hp=>absurd hp List.not_mem_nil))) 100000 200 (by kernel_rfl)
def cA6:dA:=⟨214,[.agg [.v (.bool false),.sl 0 0 1 1],.agg [.v (.bool false),.sl 1 0 1 1]],[.cells 117 [.v (.int .u32 120)],.cells 117 [.v (.int .u32 1)]],.tup [.agg [.v (.bool false),.sl 23 0 1 1],.agg [.v (.bool false),.v (.slice none 0 0)],.c (.v (.int .i64 0))],[(23,.cells 117 [.v (.int .u32 120)])]⟩
theorem bVv:aT Tryz.prog cA6:=aQ mixed iP (aS cP (aU bQR (fun p hp=>absurd hp List.not_mem_nil))) 100000 200 (by kernel_rfl)
open Go.CE
def bXy:dA:=⟨57,[.c (.v (.int .i64 0)),.c (.v (.int .i64 100))],[],.agg [.v (.bool false),.v (.slice none 0 0),.v (.bool false),.sl 53 0 1 1],[(53,.cells 117 [.v (.int .u32 1)])]⟩
theorem bXF:aT Tryz.prog bXy:=aQ mixed pA (aS cP (aU bZi (aU bYM (aU V0 (fun p hp=>absurd hp List.not_mem_nil))))) 100000 200 (by kernel_rfl)
def bZ6:dA:=⟨57,[.c (.v (.int .i64 2500)),.c (.v (.int .i64 10000))],[],.agg [.v (.bool false),.sl 56 0 1 1,.v (.bool false),.sl 57 0 1 1],[(56,.cells 117 [.v (.int .u32 1)]),(57,.cells 117 [.v (.int .u32 4)])]⟩
theorem bUA:aT Tryz.prog bZ6:=aQ mixed pA (aS cP (aU cCs (aU bYn (aU bRF (fun p hp=>absurd hp List.not_mem_nil))))) 100000 200 (by kernel_rfl)
def bU3:dA:=⟨57,[.c (.v (.int .i64 7500)),.c (.v (.int .i64 10000))],[],.agg [.v (.bool false),.sl 56 0 1 1,.v (.bool false),.sl 57 0 1 1],[(56,.cells 117 [.v (.int .u32 3)]),(57,.cells 117 [.v (.int .u32 4)])]⟩
theorem cC5:aT Tryz.prog bU3:=aQ mixed pA (aS cP (aU bRF (aU bXG (aU bV2 (fun p hp=>absurd hp List.not_mem_nil))))) 100000 200 (by kernel_rfl)
def bZa:dA:=⟨57,[.c (.v (.int .i64 5000)),.c (.v (.int .i64 10000))],[],.agg [.v (.bool false),.sl 56 0 1 1,.v (.bool false),.sl 57 0 1 1],[(56,.cells 117 [.v (.int .u32 1)]),(57,.cells 117 [.v (.int .u32 2)])]⟩
theorem cAS:aT Tryz.prog bZa:=aQ mixed pA (aS cP (aU cBg (aU bYk (aU bXh (fun p hp=>absurd hp List.not_mem_nil))))) 100000 200 (by kernel_rfl)
def cCF:dA:=⟨57,[.c (.v (.int .i64 3000)),.c (.v (.int .i64 10000))],[],.agg [.v (.bool false),.sl 56 0 1 1,.v (.bool false),.sl 57 0 1 1],[(56,.cells 117 [.v (.int .u32 3)]),(57,.cells 117 [.v (.int .u32 10)])]⟩
theorem cBh:aT Tryz.prog cCF:=aQ mixed pA (aS cP (aU bZr (aU cBx (aU bQY (fun p hp=>absurd hp List.not_mem_nil))))) 100000 200 (by kernel_rfl)
def cBR:dA:=⟨57,[.c (.v (.int .i64 1000)),.c (.v (.int .i64 10000))],[],.agg [.v (.bool false),.sl 56 0 1 1,.v (.bool false),.sl 57 0 1 1],[(56,.cells 117 [.v (.int .u32 1)]),(57,.cells 117 [.v (.int .u32 10)])]⟩
theorem bY7:aT Tryz.prog cBR:=aQ mixed pA (aS cP (aU bQY (aU cBd (aU bY3 (fun p hp=>absurd hp List.not_mem_nil))))) 100000 200 (by kernel_rfl)
def cAm:dA:=⟨57,[.c (.v (.int .i64 100000)),.c (.v (.int .i64 100))],[],.agg [.v (.bool false),.sl 56 0 1 1,.v (.bool false),.sl 57 0 1 1],[(56,.cells 117 [.v (.int .u32 1000)]),(57,.cells 117 [.v (.int .u32 1)])]⟩
theorem bWd:aT Tryz.prog cAm:=aQ mixed pA (aS cP (aU V0 (aU cA5 (aU cA8 (fun p hp=>absurd hp List.not_mem_nil))))) 100000 200 (by kernel_rfl)
def cCv:dA:=⟨57,[.c (.v (.int .i64 2550)),.c (.v (.int .i64 10000))],[],.agg [.v (.bool false),.sl 56 0 1 1,.v (.bool false),.sl 57 0 1 1],[(56,.cells 117 [.v (.int .u32 51)]),(57,.cells 117 [.v (.int .u32 200)])]⟩
theorem cBn:aT Tryz.prog cCv:=aQ mixed pA (aS cP (aU bZG (aU cA4 (aU cAv (fun p hp=>absurd hp List.not_mem_nil))))) 100000 200 (by kernel_rfl)
def cAo:dA:=⟨57,[.c (.v (.int .i64 5000)),.c (.v (.int .i64 100))],[],.agg [.v (.bool false),.sl 56 0 1 1,.v (.bool false),.sl 57 0 1 1],[(56,.cells 117 [.v (.int .u32 50)]),(57,.cells 117 [.v (.int .u32 1)])]⟩
theorem bUX:aT Tryz.prog cAo:=aQ mixed pA (aS cP (aU V0 (aU bYq (aU bZW (fun p hp=>absurd hp List.not_mem_nil))))) 100000 200 (by kernel_rfl)
def bVw:dA:=⟨57,[.c (.v (.int .i64 6000)),.c (.v (.int .i64 10000))],[],.agg [.v (.bool false),.sl 56 0 1 1,.v (.bool false),.sl 57 0 1 1],[(56,.cells 117 [.v (.int .u32 3)]),(57,.cells 117 [.v (.int .u32 5)])]⟩
theorem cDk:aT Tryz.prog bVw:=aQ mixed pA (aS cP (aU bYx (aU bVH (aU bM7 (fun p hp=>absurd hp List.not_mem_nil))))) 100000 200 (by kernel_rfl)
def bZl:dA:=⟨57,[.c (.v (.int .i64 0)),.c (.v (.int .i64 1))],[],.agg [.v (.bool false),.v (.slice none 0 0),.v (.bool false),.sl 53 0 1 1],[(53,.cells 117 [.v (.int .u32 1)])]⟩
theorem cDb:aT Tryz.prog bZl:=aQ mixed pA (aS cP (aU cDo (aU bVW (aU bNl (fun p hp=>absurd hp List.not_mem_nil))))) 100000 200 (by kernel_rfl)
def bU7:dA:=⟨57,[.c (.v (.int .i64 10000)),.c (.v (.int .i64 100))],[],.agg [.v (.bool false),.sl 56 0 1 1,.v (.bool false),.sl 57 0 1 1],[(56,.cells 117 [.v (.int .u32 100)]),(57,.cells 117 [.v (.int .u32 1)])]⟩
theorem bUV:aT Tryz.prog bU7:=aQ mixed pA (aS cP (aU V0 (aU bXk (aU cB6 (fun p hp=>absurd hp List.not_mem_nil))))) 100000 200 (by kernel_rfl)
def cAf:dA:=⟨57,[.c (.v (.int .i64 2)),.c (.v (.int .i64 1))],[],.agg [.v (.bool false),.sl 56 0 1 1,.v (.bool false),.sl 57 0 1 1],[(56,.cells 117 [.v (.int .u32 2)]),(57,.cells 117 [.v (.int .u32 1)])]⟩
theorem bZC:aT Tryz.prog cAf:=aQ mixed pA (aS cP (aU bNl (aU bZx (aU bYZ (fun p hp=>absurd hp List.not_mem_nil))))) 100000 200 (by kernel_rfl)
def bUB:dA:=⟨57,[.c (.v (.int .i64 10000)),.c (.v (.int .i64 10000))],[],.agg [.v (.bool false),.sl 56 0 1 1,.v (.bool false),.sl 57 0 1 1],[(56,.cells 117 [.v (.int .u32 1)]),(57,.cells 117 [.v (.int .u32 1)])]⟩
theorem cAY:aT Tryz.prog bUB:=aQ mixed pA (aS cP (aU cBY (aU bVt (fun p hp=>absurd hp List.not_mem_nil)))) 100000 200 (by kernel_rfl)
def bUP:dA:=⟨57,[.c (.v (.int .i64 4000)),.c (.v (.int .i64 10000))],[],.agg [.v (.bool false),.sl 56 0 1 1,.v (.bool false),.sl 57 0 1 1],[(56,.cells 117 [.v (.int .u32 2)]),(57,.cells 117 [.v (.int .u32 5)])]⟩
theorem bWX:aT Tryz.prog bUP:=aQ mixed pA (aS cP (aU bM7 (aU cAO (aU bW6 (fun p hp=>absurd hp List.not_mem_nil))))) 100000 200 (by kernel_rfl)
def cBi:dA:=⟨57,[.c (.v (.int .i64 40000)),.c (.v (.int .i64 100))],[],.agg [.v (.bool false),.sl 56 0 1 1,.v (.bool false),.sl 57 0 1 1],[(56,.cells 117 [.v (.int .u32 400)]),(57,.cells 117 [.v (.int .u32 1)])]⟩
theorem cC4:aT Tryz.prog cBi:=aQ mixed pA (aS cP (aU V0 (aU bWs (aU cCJ (fun p hp=>absurd hp List.not_mem_nil))))) 100000 200 (by kernel_rfl)
def cAs:dA:=⟨57,[.c (.v (.int .i64 20000)),.c (.v (.int .i64 100))],[],.agg [.v (.bool false),.sl 56 0 1 1,.v (.bool false),.sl 57 0 1 1],[(56,.cells 117 [.v (.int .u32 200)]),(57,.cells 117 [.v (.int .u32 1)])]⟩
theorem bUS:aT Tryz.prog cAs:=aQ mixed pA (aS cP (aU V0 (aU bWU (aU bX0 (fun p hp=>absurd hp List.not_mem_nil))))) 100000 200 (by kernel_rfl)
def bXr:dA:=⟨57,[.c (.v (.int .i64 50000)),.c (.v (.int .i64 100))],[],.agg [.v (.bool false),.sl 56 0 1 1,.v (.bool false),.sl 57 0 1 1],[(56,.cells 117 [.v (.int .u32 500)]),(57,.cells 117 [.v (.int .u32 1)])]⟩
theorem cBL:aT Tryz.prog bXr:=aQ mixed pA (aS cP (aU V0 (aU bVG (aU bVB (fun p hp=>absurd hp List.not_mem_nil))))) 100000 200 (by kernel_rfl)
def bXs:dA:=⟨57,[.c (.v (.int .i64 90000)),.c (.v (.int .i64 100))],[],.agg [.v (.bool false),.sl 56 0 1 1,.v (.bool false),.sl 57 0 1 1],[(56,.cells 117 [.v (.int .u32 900)]),(57,.cells 117 [.v (.int .u32 1)])]⟩
theorem cCe:aT Tryz.prog bXs:=aQ mixed pA (aS cP (aU V0 (aU bYz (aU bYr (fun p hp=>absurd hp List.not_mem_nil))))) 100000 200 (by kernel_rfl)
def cCk:dA:=⟨57,[.c (.v (.int .i64 4001)),.c (.v (.int .i64 100))],[],.agg [.v (.bool false),.sl 56 0 1 1,.v (.bool false),.sl 57 0 1 1],[(56,.cells 117 [.v (.int .u32 4001)]),(57,.cells 117 [.v (.int .u32 100)])]⟩
theorem cC9:aT Tryz.prog cCk:=aQ mixed pA (aS cP (aU cDq (aU bUW (aU bPw (fun p hp=>absurd hp List.not_mem_nil))))) 100000 200 (by kernel_rfl)
def cAc:dA:=⟨57,[.c (.v (.int .i64 9000)),.c (.v (.int .i64 100))],[],.agg [.v (.bool false),.sl 56 0 1 1,.v (.bool false),.sl 57 0 1 1],[(56,.cells 117 [.v (.int .u32 90)]),(57,.cells 117 [.v (.int .u32 1)])]⟩
theorem bWW:aT Tryz.prog cAc:=aQ mixed pA (aS cP (aU V0 (aU bZw (aU cCb (fun p hp=>absurd hp List.not_mem_nil))))) 100000 200 (by kernel_rfl)
def bYK:dA:=⟨57,[.c (.v (.int .i64 30000)),.c (.v (.int .i64 100))],[],.agg [.v (.bool false),.sl 56 0 1 1,.v (.bool false),.sl 57 0 1 1],[(56,.cells 117 [.v (.int .u32 300)]),(57,.cells 117 [.v (.int .u32 1)])]⟩
theorem bVm:aT Tryz.prog bYK:=aQ mixed pA (aS cP (aU V0 (aU bWh (aU bVr (fun p hp=>absurd hp List.not_mem_nil))))) 100000 200 (by kernel_rfl)
def bYF:dA:=⟨57,[.c (.v (.int .i64 3000)),.c (.v (.int .i64 100))],[],.agg [.v (.bool false),.sl 56 0 1 1,.v (.bool false),.sl 57 0 1 1],[(56,.cells 117 [.v (.int .u32 30)]),(57,.cells 117 [.v (.int .u32 1)])]⟩
theorem bUG:aT Tryz.prog bYF:=aQ mixed pA (aS cP (aU V0 (aU bVb (aU bV3 (fun p hp=>absurd hp List.not_mem_nil))))) 100000 200 (by kernel_rfl)
def cBN:dA:=⟨57,[.c (.v (.int .i64 2000)),.c (.v (.int .i64 100))],[],.agg [.v (.bool false),.sl 56 0 1 1,.v (.bool false),.sl 57 0 1 1],[(56,.cells 117 [.v (.int .u32 20)]),(57,.cells 117 [.v (.int .u32 1)])]⟩
theorem cCl:aT Tryz.prog cBN:=aQ mixed pA (aS cP (aU V0 (aU bUu (aU bYp (fun p hp=>absurd hp List.not_mem_nil))))) 100000 200 (by kernel_rfl)
def bZH:dA:=⟨57,[.c (.v (.int .i64 25000)),.c (.v (.int .i64 100))],[],.agg [.v (.bool false),.sl 56 0 1 1,.v (.bool false),.sl 57 0 1 1],[(56,.cells 117 [.v (.int .u32 250)]),(57,.cells 117 [.v (.int .u32 1)])]⟩
theorem cBj:aT Tryz.prog bZH:=aQ mixed pA (aS cP (aU V0 (aU bZe (aU cB2 (fun p hp=>absurd hp List.not_mem_nil))))) 100000 200 (by kernel_rfl)
def cBX:dA:=⟨57,[.c (.v (.int .i64 777)),.c (.v (.int .i64 100))],[],.agg [.v (.bool false),.sl 56 0 1 1,.v (.bool false),.sl 57 0 1 1],[(56,.cells 117 [.v (.int .u32 777)]),(57,.cells 117 [.v (.int .u32 100)])]⟩
theorem bXm:aT Tryz.prog cBX:=aQ mixed pA (aS cP (aU bPw (aU cCq (aU bVU (fun p hp=>absurd hp List.not_mem_nil))))) 100000 200 (by kernel_rfl)
def bVE:dA:=⟨57,[.c (.v (.int .i64 12000)),.c (.v (.int .i64 100))],[],.agg [.v (.bool false),.sl 56 0 1 1,.v (.bool false),.sl 57 0 1 1],[(56,.cells 117 [.v (.int .u32 120)]),(57,.cells 117 [.v (.int .u32 1)])]⟩
theorem bVi:aT Tryz.prog bVE:=aQ mixed pA (aS cP (aU V0 (aU cBa (aU cB5 (fun p hp=>absurd hp List.not_mem_nil))))) 100000 200 (by kernel_rfl)
def bYo:dA:=⟨57,[.c (.v (.int .i64 8000)),.c (.v (.int .i64 10000))],[],.agg [.v (.bool false),.sl 56 0 1 1,.v (.bool false),.sl 57 0 1 1],[(56,.cells 117 [.v (.int .u32 4)]),(57,.cells 117 [.v (.int .u32 5)])]⟩
theorem bXR:aT Tryz.prog bYo:=aQ mixed pA (aS cP (aU bM7 (aU bZU (aU cCD (fun p hp=>absurd hp List.not_mem_nil))))) 100000 200 (by kernel_rfl)
def bYm:dA:=⟨57,[.c (.v (.int .i64 150000)),.c (.v (.int .i64 100))],[],.agg [.v (.bool false),.sl 56 0 1 1,.v (.bool false),.sl 57 0 1 1],[(56,.cells 117 [.v (.int .u32 1500)]),(57,.cells 117 [.v (.int .u32 1)])]⟩
theorem cAa:aT Tryz.prog bYm:=aQ mixed pA (aS cP (aU V0 (aU cDn (aU cAd (fun p hp=>absurd hp List.not_mem_nil))))) 100000 200 (by kernel_rfl)
def cCL:dA:=⟨57,[.c (.v (.int .i64 1000)),.c (.v (.int .i64 100))],[],.agg [.v (.bool false),.sl 56 0 1 1,.v (.bool false),.sl 57 0 1 1],[(56,.cells 117 [.v (.int .u32 10)]),(57,.cells 117 [.v (.int .u32 1)])]⟩
theorem bXc:aT Tryz.prog cCL:=aQ mixed pA (aS cP (aU V0 (aU bVz (aU bYi (fun p hp=>absurd hp List.not_mem_nil))))) 100000 200 (by kernel_rfl)
def cCh:dA:=⟨57,[.c (.v (.int .i64 60000)),.c (.v (.int .i64 100))],[],.agg [.v (.bool false),.sl 56 0 1 1,.v (.bool false),.sl 57 0 1 1],[(56,.cells 117 [.v (.int .u32 600)]),(57,.cells 117 [.v (.int .u32 1)])]⟩
theorem cAA:aT Tryz.prog cCh:=aQ mixed pA (aS cP (aU V0 (aU cA0 (aU bUp (fun p hp=>absurd hp List.not_mem_nil))))) 100000 200 (by kernel_rfl)
def bU2:dA:=⟨57,[.c (.v (.int .i64 12345)),.c (.v (.int .i64 100))],[],.agg [.v (.bool false),.sl 56 0 1 1,.v (.bool false),.sl 57 0 1 1],[(56,.cells 117 [.v (.int .u32 2469)]),(57,.cells 117 [.v (.int .u32 20)])]⟩
theorem cBJ:aT Tryz.prog bU2:=aQ mixed pA (aS cP (aU cCd (aU bXZ (aU bX2 (fun p hp=>absurd hp List.not_mem_nil))))) 100000 200 (by kernel_rfl)
def bUx:dA:=⟨57,[.c (.v (.int .i64 7400)),.c (.v (.int .i64 10000))],[],.agg [.v (.bool false),.sl 56 0 1 1,.v (.bool false),.sl 57 0 1 1],[(56,.cells 117 [.v (.int .u32 37)]),(57,.cells 117 [.v (.int .u32 50)])]⟩
theorem bU4:aT Tryz.prog bUx:=aQ mixed pA (aS cP (aU bWn (aU bW2 (aU cBt (fun p hp=>absurd hp List.not_mem_nil))))) 100000 200 (by kernel_rfl)
def cBS:dA:=⟨57,[.c (.v (.int .i64 9999)),.c (.v (.int .i64 10000))],[],.agg [.v (.bool false),.sl 56 0 1 1,.v (.bool false),.sl 57 0 1 1],[(56,.cells 117 [.v (.int .u32 9999)]),(57,.cells 117 [.v (.int .u32 10000)])]⟩
theorem bW4:aT Tryz.prog cBS:=aQ mixed pA (aS cP (aU cAq (aU bUN (aU bXV (fun p hp=>absurd hp List.not_mem_nil))))) 100000 200 (by kernel_rfl)
def cC8:dA:=⟨57,[.c (.v (.int .i64 300000)),.c (.v (.int .i64 100))],[],.agg [.v (.bool false),.sl 56 0 1 1,.v (.bool false),.sl 57 0 1 1],[(56,.cells 117 [.v (.int .u32 3000)]),(57,.cells 117 [.v (.int .u32 1)])]⟩
theorem cCW:aT Tryz.prog cC8:=aQ mixed pA (aS cP (aU V0 (aU bYV (aU bWo (fun p hp=>absurd hp List.not_mem_nil))))) 100000 200 (by kernel_rfl)
def cCm:dA:=⟨57,[.c (.v (.int .i64 70001)),.c (.v (.int .i64 100))],[],.agg [.v (.bool false),.sl 56 0 1 1,.v (.bool false),.sl 57 0 1 1],[(56,.cells 117 [.v (.int .u32 70001)]),(57,.cells 117 [.v (.int .u32 100)])]⟩
theorem cAI:aT Tryz.prog cCm:=aQ mixed pA (aS cP (aU bPw (aU bYC (aU bWa (fun p hp=>absurd hp List.not_mem_nil))))) 100000 200 (by kernel_rfl)
def cCi:dA:=⟨57,[.c (.v (.int .i64 8000)),.c (.v (.int .i64 100))],[],.agg [.v (.bool false),.sl 56 0 1 1,.v (.bool false),.sl 57 0 1 1],[(56,.cells 117 [.v (.int .u32 80)]),(57,.cells 117 [.v (.int .u32 1)])]⟩
theorem cAU:aT Tryz.prog cCi:=aQ mixed pA (aS cP (aU V0 (aU bVf (aU bY5 (fun p hp=>absurd hp List.not_mem_nil))))) 100000 200 (by kernel_rfl)
def bYU:dA:=⟨57,[.c (.v (.int .i64 (-100))),.c (.v (.int .i64 100))],[],.agg [.v (.bool true),.sl 56 0 1 1,.v (.bool false),.sl 57 0 1 1],[(56,.cells 117 [.v (.int .u32 1)]),(57,.cells 117 [.v (.int .u32 1)])]⟩
theorem bX9:aT Tryz.prog bYU:=aQ mixed pA (aS cP (aU V0 (aU bWu (aU bU5 (fun p hp=>absurd hp List.not_mem_nil))))) 100000 200 (by kernel_rfl)
def cBr:dA:=⟨57,[.c (.v (.int .i64 120)),.c (.v (.int .i64 1))],[],.agg [.v (.bool false),.sl 56 0 1 1,.v (.bool false),.sl 57 0 1 1],[(56,.cells 117 [.v (.int .u32 120)]),(57,.cells 117 [.v (.int .u32 1)])]⟩
theorem bU6:aT Tryz.prog cBr:=aQ mixed pA (aS cP (aU bNl (aU cAe (aU bVv (fun p hp=>absurd hp List.not_mem_nil))))) 100000 200 (by kernel_rfl)
open Go.CE
def bW7:dA:=⟨104,[.agg [.v (.bool false),.sl 0 0 1 1,.v (.bool false),.sl 1 0 1 1],.agg [.v (.bool false),.sl 2 0 1 1,.v (.bool false),.sl 3 0 1 1]],[.cells 117 [.v (.int .u32 120)],.cells 117 [.v (.int .u32 1)],.cells 117 [.v (.int .u32 120)],.cells 117 [.v (.int .u32 1)]],.c (.v (.bool true)),[]⟩
theorem cDc:aT Tryz.prog bW7:=aQ mixed aU5 (aS cP (aU bQu (fun p hp=>absurd hp List.not_mem_nil))) 100000 200 (by kernel_rfl)
def bV8:dA:=⟨37,[.c (.sl 0 0 1 4)],[.cells 35 [.v (.bool false),.sl 1 0 1 1,.v (.bool false),.sl 2 0 1 1],.cells 117 [.v (.int .u32 120)],.cells 117 [.v (.int .u32 1)]],.agg [.v (.bool false),.sl 114 0 1 1,.v (.bool false),.sl 138 0 1 1],[(114,.cells 117 [.v (.int .u32 120)]),(138,.cells 117 [.v (.int .u32 1)])]⟩
theorem bWC:aT Tryz.prog bV8:=aQ mixed aU5 (aS cP (aU bQu (fun p hp=>absurd hp List.not_mem_nil))) 100000 200 (by kernel_rfl)
def bVx:dA:=⟨104,[.agg [.v (.bool false),.sl 0 0 1 1,.v (.bool false),.sl 1 0 1 1],.agg [.v (.bool false),.sl 2 0 1 1,.v (.bool false),.sl 3 0 1 1]],[.cells 117 [.v (.int .u32 20)],.cells 117 [.v (.int .u32 1)],.cells 117 [.v (.int .u32 20)],.cells 117 [.v (.int .u32 1)]],.c (.v (.bool true)),[]⟩
theorem cAP:aT Tryz.prog bVx:=aQ mixed aU5 (aS cP (aU bPI (fun p hp=>absurd hp List.not_mem_nil))) 100000 200 (by kernel_rfl)
def cCV:dA:=⟨37,[.c (.sl 0 0 1 4)],[.cells 35 [.v (.bool false),.sl 1 0 1 1,.v (.bool false),.sl 2 0 1 1],.cells 117 [.v (.int .u32 20)],.cells 117 [.v (.int .u32 1)]],.agg [.v (.bool false),.sl 114 0 1 1,.v (.bool false),.sl 138 0 1 1],[(114,.cells 117 [.v (.int .u32 20)]),(138,.cells 117 [.v (.int .u32 1)])]⟩
theorem bV6:aT Tryz.prog cCV:=aQ mixed aU5 (aS cP (aU bPI (fun p hp=>absurd hp List.not_mem_nil))) 100000 200 (by kernel_rfl)
open Go.CE
def bSu:dA:=⟨42,[],[],.c (.v (.bool true)),[]⟩
theorem cAF:aT Tryz.prog bSu:=aQ mixed aU1 (aS cP (aU bQu (aU bPI (aU bXF (aU bUA (aU cC5 (aU cAS (aU cBh (aU bY7 (aU bWd (aU cBn (aU bUX (aU cDk (aU cDb (aU bUV (aU bZC (aU cAY (aU bWX (aU cC4 (aU bUS (aU cBL (aU cCe (aU cC9 (aU bWW (aU bVm (aU bUG (aU cCl (aU cBj (aU bXm (aU bVi (aU bXR (aU cAa (aU bXc (aU cAA (aU cBJ (aU bU4 (aU bW4 (aU cCW (aU cAI (aU cAU (aU bX9 (aU bU6 (aU cDc (aU bWC (aU cAP (aU bV6 (fun p hp=>absurd hp List.not_mem_nil))))))))))))))))))))))))))))))))))))))))))))))) 100000 200 (by kernel_rfl)
open Go.CE
def eS:dA:=⟨184,[qY],[],.tup [],[]⟩
theorem mS:aT Tryz.prog eS:=aQ mixed aU1 cP 100000 200 (by kernel_rfl)
def eF:dA:=⟨106,[qY,.c (.fn 107 [] [])],[],.tup [],[]⟩
theorem mF:aT Tryz.prog eF:=aQ mixed aU1 cP 100000 200 (by kernel_rfl)
abbrev h1:iJ:=aWz [bSu,eS,eF] aWT
theorem bRe:sJ Tryz.prog h1:=aS aOY (aU cAF (aU mS (aU mF (fun p hp=>absurd hp List.not_mem_nil))))
theorem bQv (mem:Tr jX) (nx:Nat):h1 184 [qY] mem nx=some (.tup [],mem,nx):=rfl
theorem bPV (mem:Tr jX) (nx:Nat):h1 106 [qY,.c (.fn 107 [] [])] mem nx=some (.tup [],mem,nx):=rfl
end Go.Proofs.YtlceligcgelbdaaGreat
