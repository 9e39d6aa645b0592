
import Derived.Test.YtdpcdbeklccfnaaGreatDoorProg
import Derived.Laws.Closers25b
import Derived.Test.YtdpcdbeklccfnaaGreatDoorE2
noncomputable section
namespace Go.Proofs.Tryz
open Go Go.V Go.Proofs
theorem mixed:Tryz.prog.follows .mixedOrders=true:=by kernel_rfl
def cof (fn:Func):VCode:=match fn.body.bind (comp Tryz.prog) with|some c=>c|none=>.bad
theorem Q9 {fn:Func}(h:(fn.body.bind (comp Tryz.prog)).isSome=true):fn.body.bind (comp Tryz.prog)=some (cof fn):=by
 unfold cof;cases h2:fn.body.bind (comp Tryz.prog) with
 |none=>rw[h2] at h;cases h
 |some c=>rfl
def c2:VCode:=cof Tryz.f2
theorem Q80:Fun Tryz.prog 2 c2 [] 1:=⟨Tryz.f2,Tryz.func2,Q9 (by kernel_rfl),by kernel_rfl,rfl,rfl⟩
def c3:VCode:=cof Tryz.f3
theorem fun3:Fun Tryz.prog 3 c3 [.tmp 6] 186:=⟨Tryz.f3,Tryz.func3,Q9 (by kernel_rfl),by kernel_rfl,rfl,rfl⟩
def c4:VCode:=cof Tryz.f4
theorem Q7d:Fun Tryz.prog 4 c4 [.tmp 6] 22:=⟨Tryz.f4,Tryz.func4,Q9 (by kernel_rfl),by kernel_rfl,rfl,rfl⟩
def c5:VCode:=cof Tryz.f5
theorem Q76:Fun Tryz.prog 5 c5 [.tmp 0] 240:=⟨Tryz.f5,Tryz.func5,Q9 (by kernel_rfl),by kernel_rfl,rfl,rfl⟩
def c6:VCode:=cof Tryz.f6
theorem Q7c:Fun Tryz.prog 6 c6 [.tmp 4] 22:=⟨Tryz.f6,Tryz.func6,Q9 (by kernel_rfl),by kernel_rfl,rfl,rfl⟩
def c7:VCode:=cof Tryz.f7
theorem Q7n:Fun Tryz.prog 7 c7 [.tmp 4] 52:=⟨Tryz.f7,Tryz.func7,Q9 (by kernel_rfl),by kernel_rfl,rfl,rfl⟩
def c8:VCode:=cof Tryz.f8
theorem Q7u:Fun Tryz.prog 8 c8 [.cell 2 true 2] 9:=⟨Tryz.f8,Tryz.func8,Q9 (by kernel_rfl),by kernel_rfl,rfl,rfl⟩
def c9:VCode:=cof Tryz.f9
theorem Q7h:Fun Tryz.prog 9 c9 [.cell 2 true 2] 9:=⟨Tryz.f9,Tryz.func9,Q9 (by kernel_rfl),by kernel_rfl,rfl,rfl⟩
def c10:VCode:=cof Tryz.f10
theorem Q3n:Fun Tryz.prog 10 c10 [.tmp 6,.tmp 7,.tmp 8] 106:=⟨Tryz.f10,Tryz.func10,Q9 (by kernel_rfl),by kernel_rfl,rfl,rfl⟩
def c11:VCode:=cof Tryz.f11
theorem Q3v:Fun Tryz.prog 11 c11 [.tmp 6,.tmp 7] 50:=⟨Tryz.f11,Tryz.func11,Q9 (by kernel_rfl),by kernel_rfl,rfl,rfl⟩
def c12:VCode:=cof Tryz.f12
theorem Q3p:Fun Tryz.prog 12 c12 [.tmp 4] 38:=⟨Tryz.f12,Tryz.func12,Q9 (by kernel_rfl),by kernel_rfl,rfl,rfl⟩
def c13:VCode:=cof Tryz.f13
theorem Q2d:Fun Tryz.prog 13 c13 [.tmp 4] 28:=⟨Tryz.f13,Tryz.func13,Q9 (by kernel_rfl),by kernel_rfl,rfl,rfl⟩
def c14:VCode:=cof Tryz.f14
theorem Q3f:Fun Tryz.prog 14 c14 [.tmp 4] 26:=⟨Tryz.f14,Tryz.func14,Q9 (by kernel_rfl),by kernel_rfl,rfl,rfl⟩
def c15:VCode:=cof Tryz.f15
theorem Q2f:Fun Tryz.prog 15 c15 [.tmp 4] 46:=⟨Tryz.f15,Tryz.func15,Q9 (by kernel_rfl),by kernel_rfl,rfl,rfl⟩
def c16:VCode:=cof Tryz.f16
theorem Q2t:Fun Tryz.prog 16 c16 [] 107:=⟨Tryz.f16,Tryz.func16,Q9 (by kernel_rfl),by kernel_rfl,rfl,rfl⟩
def c17:VCode:=cof Tryz.f17
theorem Q45:Fun Tryz.prog 17 c17 [.tmp 4] 26:=⟨Tryz.f17,Tryz.func17,Q9 (by kernel_rfl),by kernel_rfl,rfl,rfl⟩
def c18:VCode:=cof Tryz.f18
theorem Q52:Fun Tryz.prog 18 c18 [.tmp 6,.tmp 7] 61:=⟨Tryz.f18,Tryz.func18,Q9 (by kernel_rfl),by kernel_rfl,rfl,rfl⟩
def c19:VCode:=cof Tryz.f19
theorem Q5g:Fun Tryz.prog 19 c19 [.cell 0 true 2] 3:=⟨Tryz.f19,Tryz.func19,Q9 (by kernel_rfl),by kernel_rfl,rfl,rfl⟩
def c20:VCode:=cof Tryz.f20
theorem Q5h:Fun Tryz.prog 20 c20 [.tmp 4,.tmp 5] 31:=⟨Tryz.f20,Tryz.func20,Q9 (by kernel_rfl),by kernel_rfl,rfl,rfl⟩
def c21:VCode:=cof Tryz.f21
theorem Q6o:Fun Tryz.prog 21 c21 [.tmp 2,.tmp 3] 40:=⟨Tryz.f21,Tryz.func21,Q9 (by kernel_rfl),by kernel_rfl,rfl,rfl⟩
def c22:VCode:=cof Tryz.f22
theorem Q5s:Fun Tryz.prog 22 c22 [.tmp 2,.tmp 3] 75:=⟨Tryz.f22,Tryz.func22,Q9 (by kernel_rfl),by kernel_rfl,rfl,rfl⟩
def c23:VCode:=cof Tryz.f23
theorem Q6c:Fun Tryz.prog 23 c23 [.tmp 2,.tmp 3] 52:=⟨Tryz.f23,Tryz.func23,Q9 (by kernel_rfl),by kernel_rfl,rfl,rfl⟩
def c24:VCode:=cof Tryz.f24
theorem Q4r:Fun Tryz.prog 24 c24 [.tmp 2,.tmp 3] 55:=⟨Tryz.f24,Tryz.func24,Q9 (by kernel_rfl),by kernel_rfl,rfl,rfl⟩
def c25:VCode:=cof Tryz.f25
theorem Q4x:Fun Tryz.prog 25 c25 [.cell 4 false 1,.tmp 5,.tmp 6] 86:=⟨Tryz.f25,Tryz.func25,Q9 (by kernel_rfl),by kernel_rfl,rfl,rfl⟩
def c26:VCode:=cof Tryz.f26
theorem Q6i:Fun Tryz.prog 26 c26 [.tmp 6,.tmp 7,.tmp 8] 97:=⟨Tryz.f26,Tryz.func26,Q9 (by kernel_rfl),by kernel_rfl,rfl,rfl⟩
def c27:VCode:=cof Tryz.f27
theorem Q3j:Fun Tryz.prog 27 c27 [.tmp 2] 33:=⟨Tryz.f27,Tryz.func27,Q9 (by kernel_rfl),by kernel_rfl,rfl,rfl⟩
def c28:VCode:=cof Tryz.f28
theorem Q2e:Fun Tryz.prog 28 c28 [.tmp 2] 35:=⟨Tryz.f28,Tryz.func28,Q9 (by kernel_rfl),by kernel_rfl,rfl,rfl⟩
def c29:VCode:=cof Tryz.f29
theorem Q3q:Fun Tryz.prog 29 c29 [.tmp 6] 15:=⟨Tryz.f29,Tryz.func29,Q9 (by kernel_rfl),by kernel_rfl,rfl,rfl⟩
def c30:VCode:=cof Tryz.f30
theorem Q2h:Fun Tryz.prog 30 c30 [.tmp 2] 6:=⟨Tryz.f30,Tryz.func30,Q9 (by kernel_rfl),by kernel_rfl,rfl,rfl⟩
def c31:VCode:=cof Tryz.f31
theorem Q2r:Fun Tryz.prog 31 c31 [.cell 6 true 4,.tmp 7] 50:=⟨Tryz.f31,Tryz.func31,Q9 (by kernel_rfl),by kernel_rfl,rfl,rfl⟩
def c32:VCode:=cof Tryz.f32
theorem Q0r:Fun Tryz.prog 32 c32 [.tmp 2,.tmp 3] 46:=⟨Tryz.f32,Tryz.func32,Q9 (by kernel_rfl),by kernel_rfl,rfl,rfl⟩
def c33:VCode:=cof Tryz.f33
theorem Q3w:Fun Tryz.prog 33 c33 [.tmp 4] 16:=⟨Tryz.f33,Tryz.func33,Q9 (by kernel_rfl),by kernel_rfl,rfl,rfl⟩
def c34:VCode:=cof Tryz.f34
theorem Q4i:Fun Tryz.prog 34 c34 [.tmp 9] 45:=⟨Tryz.f34,Tryz.func34,Q9 (by kernel_rfl),by kernel_rfl,rfl,rfl⟩
def c35:VCode:=cof Tryz.f35
theorem Q2b:Fun Tryz.prog 35 c35 [.tmp 4] 19:=⟨Tryz.f35,Tryz.func35,Q9 (by kernel_rfl),by kernel_rfl,rfl,rfl⟩
def c36:VCode:=cof Tryz.f36
theorem Q3h:Fun Tryz.prog 36 c36 [.tmp 2] 25:=⟨Tryz.f36,Tryz.func36,Q9 (by kernel_rfl),by kernel_rfl,rfl,rfl⟩
def c37:VCode:=cof Tryz.f37
theorem Q4d:Fun Tryz.prog 37 c37 [.tmp 6] 36:=⟨Tryz.f37,Tryz.func37,Q9 (by kernel_rfl),by kernel_rfl,rfl,rfl⟩
def c38:VCode:=cof Tryz.f38
theorem Q5q:Fun Tryz.prog 38 c38 [.tmp 4] 26:=⟨Tryz.f38,Tryz.func38,Q9 (by kernel_rfl),by kernel_rfl,rfl,rfl⟩
def c39:VCode:=cof Tryz.f39
theorem Q41:Fun Tryz.prog 39 c39 [.tmp 4,.tmp 5] 43:=⟨Tryz.f39,Tryz.func39,Q9 (by kernel_rfl),by kernel_rfl,rfl,rfl⟩
def c40:VCode:=cof Tryz.f40
theorem Q5o:Fun Tryz.prog 40 c40 [.tmp 4] 28:=⟨Tryz.f40,Tryz.func40,Q9 (by kernel_rfl),by kernel_rfl,rfl,rfl⟩
def c41:VCode:=cof Tryz.f41
theorem Q5y:Fun Tryz.prog 41 c41 [.tmp 2] 11:=⟨Tryz.f41,Tryz.func41,Q9 (by kernel_rfl),by kernel_rfl,rfl,rfl⟩
def c42:VCode:=cof Tryz.f42
theorem Q5u:Fun Tryz.prog 42 c42 [.tmp 2] 22:=⟨Tryz.f42,Tryz.func42,Q9 (by kernel_rfl),by kernel_rfl,rfl,rfl⟩
def c43:VCode:=cof Tryz.f43
theorem Q68:Fun Tryz.prog 43 c43 [.tmp 4] 10:=⟨Tryz.f43,Tryz.func43,Q9 (by kernel_rfl),by kernel_rfl,rfl,rfl⟩
def c44:VCode:=cof Tryz.f44
theorem Q5w:Fun Tryz.prog 44 c44 [.tmp 4] 9:=⟨Tryz.f44,Tryz.func44,Q9 (by kernel_rfl),by kernel_rfl,rfl,rfl⟩
def c45:VCode:=cof Tryz.f45
theorem Q69:Fun Tryz.prog 45 c45 [.tmp 4] 48:=⟨Tryz.f45,Tryz.func45,Q9 (by kernel_rfl),by kernel_rfl,rfl,rfl⟩
def c46:VCode:=cof Tryz.f46
theorem Q5v:Fun Tryz.prog 46 c46 [.tmp 2] 7:=⟨Tryz.f46,Tryz.func46,Q9 (by kernel_rfl),by kernel_rfl,rfl,rfl⟩
def c47:VCode:=cof Tryz.f47
theorem Q6b:Fun Tryz.prog 47 c47 [.tmp 4] 19:=⟨Tryz.f47,Tryz.func47,Q9 (by kernel_rfl),by kernel_rfl,rfl,rfl⟩
def c48:VCode:=cof Tryz.f48
theorem Q5x:Fun Tryz.prog 48 c48 [.tmp 3] 8:=⟨Tryz.f48,Tryz.func48,Q9 (by kernel_rfl),by kernel_rfl,rfl,rfl⟩
def c49:VCode:=cof Tryz.f49
theorem Q6k:Fun Tryz.prog 49 c49 [.tmp 2] 8:=⟨Tryz.f49,Tryz.func49,Q9 (by kernel_rfl),by kernel_rfl,rfl,rfl⟩
def c50:VCode:=cof Tryz.f50
theorem Q58:Fun Tryz.prog 50 c50 [.tmp 2] 4:=⟨Tryz.f50,Tryz.func50,Q9 (by kernel_rfl),by kernel_rfl,rfl,rfl⟩
def c51:VCode:=cof Tryz.f51
theorem Q56:Fun Tryz.prog 51 c51 [] 28:=⟨Tryz.f51,Tryz.func51,Q9 (by kernel_rfl),by kernel_rfl,rfl,rfl⟩
def c52:VCode:=cof Tryz.f52
theorem Q6q:Fun Tryz.prog 52 c52 [.tmp 3] 20:=⟨Tryz.f52,Tryz.func52,Q9 (by kernel_rfl),by kernel_rfl,rfl,rfl⟩
def c53:VCode:=cof Tryz.f53
theorem Q57:Fun Tryz.prog 53 c53 [.tmp 6] 11:=⟨Tryz.f53,Tryz.func53,Q9 (by kernel_rfl),by kernel_rfl,rfl,rfl⟩
def c54:VCode:=cof Tryz.f54
theorem Q2o:Fun Tryz.prog 54 c54 [.tmp 4] 22:=⟨Tryz.f54,Tryz.func54,Q9 (by kernel_rfl),by kernel_rfl,rfl,rfl⟩
def c55:VCode:=cof Tryz.f55
theorem Q5c:Fun Tryz.prog 55 c55 [.tmp 4] 9:=⟨Tryz.f55,Tryz.func55,Q9 (by kernel_rfl),by kernel_rfl,rfl,rfl⟩
def c56:VCode:=cof Tryz.f56
theorem Q53:Fun Tryz.prog 56 c56 [.tmp 4] 48:=⟨Tryz.f56,Tryz.func56,Q9 (by kernel_rfl),by kernel_rfl,rfl,rfl⟩
def c57:VCode:=cof Tryz.f57
theorem Q5t:Fun Tryz.prog 57 c57 [.tmp 4] 48:=⟨Tryz.f57,Tryz.func57,Q9 (by kernel_rfl),by kernel_rfl,rfl,rfl⟩
def c58:VCode:=cof Tryz.f58
theorem Q3m:Fun Tryz.prog 58 c58 [.tmp 6] 15:=⟨Tryz.f58,Tryz.func58,Q9 (by kernel_rfl),by kernel_rfl,rfl,rfl⟩
def c59:VCode:=cof Tryz.f59
theorem Q2v:Fun Tryz.prog 59 c59 [.tmp 3] 15:=⟨Tryz.f59,Tryz.func59,Q9 (by kernel_rfl),by kernel_rfl,rfl,rfl⟩
def c60:VCode:=cof Tryz.f60
theorem fun60:Fun Tryz.prog 60 c60 [.tmp 4] 43:=⟨Tryz.f60,Tryz.func60,Q9 (by kernel_rfl),by kernel_rfl,rfl,rfl⟩
def c61:VCode:=cof Tryz.f61
theorem Q48:Fun Tryz.prog 61 c61 [.tmp 4] 9:=⟨Tryz.f61,Tryz.func61,Q9 (by kernel_rfl),by kernel_rfl,rfl,rfl⟩
def c62:VCode:=cof Tryz.f62
theorem Q46:Fun Tryz.prog 62 c62 [.tmp 4] 30:=⟨Tryz.f62,Tryz.func62,Q9 (by kernel_rfl),by kernel_rfl,rfl,rfl⟩
def c63:VCode:=cof Tryz.f63
theorem Q4b:Fun Tryz.prog 63 c63 [.tmp 4] 22:=⟨Tryz.f63,Tryz.func63,Q9 (by kernel_rfl),by kernel_rfl,rfl,rfl⟩
def c64:VCode:=cof Tryz.f64
theorem Q3o:Fun Tryz.prog 64 c64 [.tmp 2] 27:=⟨Tryz.f64,Tryz.func64,Q9 (by kernel_rfl),by kernel_rfl,rfl,rfl⟩
def c65:VCode:=cof Tryz.f65
theorem Q42:Fun Tryz.prog 65 c65 [.tmp 2] 28:=⟨Tryz.f65,Tryz.func65,Q9 (by kernel_rfl),by kernel_rfl,rfl,rfl⟩
def c66:VCode:=cof Tryz.f66
theorem Q3b:Fun Tryz.prog 66 c66 [.tmp 4] 22:=⟨Tryz.f66,Tryz.func66,Q9 (by kernel_rfl),by kernel_rfl,rfl,rfl⟩
def c67:VCode:=cof Tryz.f67
theorem Q5r:Fun Tryz.prog 67 c67 [.tmp 2] 4:=⟨Tryz.f67,Tryz.func67,Q9 (by kernel_rfl),by kernel_rfl,rfl,rfl⟩
def c68:VCode:=cof Tryz.f68
theorem Q6n:Fun Tryz.prog 68 c68 [.tmp 2] 25:=⟨Tryz.f68,Tryz.func68,Q9 (by kernel_rfl),by kernel_rfl,rfl,rfl⟩
def c69:VCode:=cof Tryz.f69
theorem Q6v:Fun Tryz.prog 69 c69 [] 19:=⟨Tryz.f69,Tryz.func69,Q9 (by kernel_rfl),by kernel_rfl,rfl,rfl⟩
def c70:VCode:=cof Tryz.f70
theorem Q2s:Fun Tryz.prog 70 c70 [.tmp 4] 9:=⟨Tryz.f70,Tryz.func70,Q9 (by kernel_rfl),by kernel_rfl,rfl,rfl⟩
def c71:VCode:=cof Tryz.f71
theorem Q62:Fun Tryz.prog 71 c71 [.tmp 4] 13:=⟨Tryz.f71,Tryz.func71,Q9 (by kernel_rfl),by kernel_rfl,rfl,rfl⟩
def c72:VCode:=cof Tryz.f72
theorem Q5b:Fun Tryz.prog 72 c72 [.tmp 4] 19:=⟨Tryz.f72,Tryz.func72,Q9 (by kernel_rfl),by kernel_rfl,rfl,rfl⟩
def c73:VCode:=cof Tryz.f73
theorem Q65:Fun Tryz.prog 73 c73 [.tmp 4,.tmp 5] 30:=⟨Tryz.f73,Tryz.func73,Q9 (by kernel_rfl),by kernel_rfl,rfl,rfl⟩
def c74:VCode:=cof Tryz.f74
theorem Q5e:Fun Tryz.prog 74 c74 [.tmp 4] 17:=⟨Tryz.f74,Tryz.func74,Q9 (by kernel_rfl),by kernel_rfl,rfl,rfl⟩
def c75:VCode:=cof Tryz.f75
theorem Q4u:Fun Tryz.prog 75 c75 [.tmp 4] 23:=⟨Tryz.f75,Tryz.func75,Q9 (by kernel_rfl),by kernel_rfl,rfl,rfl⟩
def c76:VCode:=cof Tryz.f76
theorem Q54:Fun Tryz.prog 76 c76 [.cell 2 true 256,.tmp 3] 21:=⟨Tryz.f76,Tryz.func76,Q9 (by kernel_rfl),by kernel_rfl,rfl,rfl⟩
def c77:VCode:=cof Tryz.f77
theorem Q67:Fun Tryz.prog 77 c77 [.tmp 4] 16:=⟨Tryz.f77,Tryz.func77,Q9 (by kernel_rfl),by kernel_rfl,rfl,rfl⟩
def c78:VCode:=cof Tryz.f78
theorem Q50:Fun Tryz.prog 78 c78 [.tmp 4] 22:=⟨Tryz.f78,Tryz.func78,Q9 (by kernel_rfl),by kernel_rfl,rfl,rfl⟩
def c79:VCode:=cof Tryz.f79
theorem Q5d:Fun Tryz.prog 79 c79 [.tmp 4] 23:=⟨Tryz.f79,Tryz.func79,Q9 (by kernel_rfl),by kernel_rfl,rfl,rfl⟩
def c80:VCode:=cof Tryz.f80
theorem Q4t:Fun Tryz.prog 80 c80 [.tmp 4] 34:=⟨Tryz.f80,Tryz.func80,Q9 (by kernel_rfl),by kernel_rfl,rfl,rfl⟩
def c81:VCode:=cof Tryz.f81
theorem Q2y:Fun Tryz.prog 81 c81 [.tmp 4] 19:=⟨Tryz.f81,Tryz.func81,Q9 (by kernel_rfl),by kernel_rfl,rfl,rfl⟩
def c82:VCode:=cof Tryz.f82
theorem Q3u:Fun Tryz.prog 82 c82 [.tmp 4] 17:=⟨Tryz.f82,Tryz.func82,Q9 (by kernel_rfl),by kernel_rfl,rfl,rfl⟩
def c83:VCode:=cof Tryz.f83
theorem Q3e:Fun Tryz.prog 83 c83 [.tmp 2] 14:=⟨Tryz.f83,Tryz.func83,Q9 (by kernel_rfl),by kernel_rfl,rfl,rfl⟩
def c84:VCode:=cof Tryz.f84
theorem Q3k:Fun Tryz.prog 84 c84 [.tmp 6] 11:=⟨Tryz.f84,Tryz.func84,Q9 (by kernel_rfl),by kernel_rfl,rfl,rfl⟩
def c85:VCode:=cof Tryz.f85
theorem Q29:Fun Tryz.prog 85 c85 [.tmp 6] 11:=⟨Tryz.f85,Tryz.func85,Q9 (by kernel_rfl),by kernel_rfl,rfl,rfl⟩
def c86:VCode:=cof Tryz.f86
theorem Q34:Fun Tryz.prog 86 c86 [.tmp 2] 4:=⟨Tryz.f86,Tryz.func86,Q9 (by kernel_rfl),by kernel_rfl,rfl,rfl⟩
def c87:VCode:=cof Tryz.f87
theorem Q43:Fun Tryz.prog 87 c87 [.tmp 6] 17:=⟨Tryz.f87,Tryz.func87,Q9 (by kernel_rfl),by kernel_rfl,rfl,rfl⟩
def c88:VCode:=cof Tryz.f88
theorem Q6u:Fun Tryz.prog 88 c88 [] 19:=⟨Tryz.f88,Tryz.func88,Q9 (by kernel_rfl),by kernel_rfl,rfl,rfl⟩
def c89:VCode:=cof Tryz.f89
theorem Q4f:Fun Tryz.prog 89 c89 [.tmp 4] 19:=⟨Tryz.f89,Tryz.func89,Q9 (by kernel_rfl),by kernel_rfl,rfl,rfl⟩
def c90:VCode:=cof Tryz.f90
theorem Q4v:Fun Tryz.prog 90 c90 [.tmp 4,.tmp 5] 17:=⟨Tryz.f90,Tryz.func90,Q9 (by kernel_rfl),by kernel_rfl,rfl,rfl⟩
def c91:VCode:=cof Tryz.f91
theorem Q6p:Fun Tryz.prog 91 c91 [.tmp 4,.tmp 5] 51:=⟨Tryz.f91,Tryz.func91,Q9 (by kernel_rfl),by kernel_rfl,rfl,rfl⟩
def c92:VCode:=cof Tryz.f92
theorem Q55:Fun Tryz.prog 92 c92 [.tmp 4] 10:=⟨Tryz.f92,Tryz.func92,Q9 (by kernel_rfl),by kernel_rfl,rfl,rfl⟩
def c93:VCode:=cof Tryz.f93
theorem Q66:Fun Tryz.prog 93 c93 [.tmp 2,.tmp 3] 19:=⟨Tryz.f93,Tryz.func93,Q9 (by kernel_rfl),by kernel_rfl,rfl,rfl⟩
def c94:VCode:=cof Tryz.f94
theorem Q6h:Fun Tryz.prog 94 c94 [.tmp 4] 9:=⟨Tryz.f94,Tryz.func94,Q9 (by kernel_rfl),by kernel_rfl,rfl,rfl⟩
def c95:VCode:=cof Tryz.f95
theorem Q5j:Fun Tryz.prog 95 c95 [.tmp 2,.tmp 3] 51:=⟨Tryz.f95,Tryz.func95,Q9 (by kernel_rfl),by kernel_rfl,rfl,rfl⟩
def c96:VCode:=cof Tryz.f96
theorem Q4e:Fun Tryz.prog 96 c96 [] 20:=⟨Tryz.f96,Tryz.func96,Q9 (by kernel_rfl),by kernel_rfl,rfl,rfl⟩
def c97:VCode:=cof Tryz.f97
theorem Q3t:Fun Tryz.prog 97 c97 [.tmp 4] 13:=⟨Tryz.f97,Tryz.func97,Q9 (by kernel_rfl),by kernel_rfl,rfl,rfl⟩
def c98:VCode:=cof Tryz.f98
theorem Q3c:Fun Tryz.prog 98 c98 [.tmp 4] 13:=⟨Tryz.f98,Tryz.func98,Q9 (by kernel_rfl),by kernel_rfl,rfl,rfl⟩
def c99:VCode:=cof Tryz.f99
theorem Q6m:Fun Tryz.prog 99 c99 [.tmp 2,.tmp 3] 117:=⟨Tryz.f99,Tryz.func99,Q9 (by kernel_rfl),by kernel_rfl,rfl,rfl⟩
def Q72:VCode:=cof Tryz.f100
theorem Q2q:Fun Tryz.prog 100 Q72 [.tmp 4] 187:=⟨Tryz.f100,Tryz.func100,Q9 (by kernel_rfl),by kernel_rfl,rfl,rfl⟩
def Q78:VCode:=cof Tryz.f101
theorem Q3y:Fun Tryz.prog 101 Q78 [.tmp 2] 6:=⟨Tryz.f101,Tryz.func101,Q9 (by kernel_rfl),by kernel_rfl,rfl,rfl⟩
def Q79:VCode:=cof Tryz.f103
theorem Q33:Fun Tryz.prog 103 Q79 [.tmp 4] 8:=⟨Tryz.f103,Tryz.func103,Q9 (by kernel_rfl),by kernel_rfl,rfl,rfl⟩
def Q7t:VCode:=cof Tryz.f104
theorem Q36:Fun Tryz.prog 104 Q7t [.tmp 2] 17:=⟨Tryz.f104,Tryz.func104,Q9 (by kernel_rfl),by kernel_rfl,rfl,rfl⟩
def Q7p:VCode:=cof Tryz.f105
theorem Q30:Fun Tryz.prog 105 Q7p [.tmp 2] 6:=⟨Tryz.f105,Tryz.func105,Q9 (by kernel_rfl),by kernel_rfl,rfl,rfl⟩
def Q7k:VCode:=cof Tryz.f107
theorem Q4c:Fun Tryz.prog 107 Q7k [.tmp 4] 8:=⟨Tryz.f107,Tryz.func107,Q9 (by kernel_rfl),by kernel_rfl,rfl,rfl⟩
theorem Tp:O3 Tryz.prog 102 (some .same):=Oc (e:=Extern.AbiNoEscape.same) Tryz.func102 (by kernel_rfl) (by kernel_rfl) (by kernel_rfl) (by kernel_rfl) (λ_ _=>rfl)
end Go.Proofs.Tryz
namespace Go.V
open Go
inductive Kind where
 |i (k:IntKind)
 |bo
 |st
 |list (k:Kind)
 |pair (a b:Kind)
 deriving DecidableEq,Inhabited
abbrev Kind.T:Kind->Type
 |.i _=>Int
 |.bo=>Bool
 |.st=>List UInt8
 |.list k=>List k.T
 |.pair a b=>a.T×b.T
def Kind.size:Kind->Nat
 |.pair a b=>a.size+b.size
 |_=>1
def Kind.dflt:(k:Kind)->k.T
 |.i _=>(0:Int)
 |.bo=>false
 |.st=>([]:List UInt8)
 |.list _=>[]
 |.pair a b=>(a.dflt,b.dflt)
def Kind.one:Kind->Bool
 |.pair _ _=>false
 |_=>true
theorem Kind.size_pos:∀ k:Kind,0<k.size
 |.pair a b=>by have:=a.size_pos;simp only[Kind.size];omega
 |.i _|.bo|.st|.list _=>by simp[Kind.size]
theorem Kind.q1v:∀ {k:Kind},k.one=true->k.size=1
 |.pair _ _,h=>by cases h
 |.i _,_|.bo,_|.st,_|.list _,_=>rfl
def Kind.prim:Kind->Bool
 |.i _|.bo|.st=>true
 |_=>false
def Kind.keyk:Kind->Bool
 |.pair a b=>a.keyk&&b.keyk
 |k=>k.prim
abbrev AT:List Kind->Type
 |[]=>Unit
 |[k]=>k.T
 |k::k'::ks=>k.T×AT (k'::ks)
structure Gd where
 id:Nat
 want:Bool
 c:Bool
inductive DW where
 |out
 |el (i:Int) (off sz:Nat)
 |row (k:Kind) (x:List k.T) (i:Int)
 |rowp (k:Kind) (x:List k.T) (i j:Int) (off:Nat)
 |inn (k:Kind) (x:List k.T)
 |inp (k:Kind) (l:List k.T) (j:Int) (off:Nat)
 |dat
 |obx (c:Bool)
 |yv
inductive SV where
 |dd (o:Nat) (w:DW)
 |any
 |val (k:Kind) (x:k.T)
 |bid (n:Nat) (c:Bool)
 |grd (gs:List Gd) (v:SV)
 |nilS
 |nilP
 |nilM
 |nilF
 |lst (o:Nat)
 |sub (o:Nat) (lo n sz:Nat)
 |elp (o:Nat) (i:Int) (off sz:Nat)
 |rop (k:Kind) (l:List k.T) (i:Int) (off:Nat)
 |box (o:Nat) (off:Nat)
 |cp (l:List SV) (off:Nat)
 |map (o:Nat)
 |agg (l:List SV)
 |tup (l:List SV)
 |fn (f:Nat) (first dx:List SV)
 |pf (ks:List Kind) (r:Kind) (cu:AT ks->Prop) (p:AT ks->r.T)
structure LpD where
 i:Nat
 vals:List Value
 r:Loop
inductive LpS where
 |busy
 |rdy
 |ret
 |exit (id:Nat)
def LpS.st:LpS->LoopState
 |.busy=>.busy
 |.rdy=>.ready
 |.ret=>.done
 |.exit _=>.done
def LpS.pend:LpS->Option Code
 |.busy=>none
 |.rdy=>none
 |.ret=>some .ret
 |.exit id=>some (.exit id)
def LpS.live:LpS->Bool
 |.busy=>false
 |_=>true
inductive OB where
 |dead
 |lst (ty:Nat) (k:Kind) (xs:List k.T) (nl:Bool)
 |cells (l:List SV) (u:Option Nat)
 |map (kk vk:Kind) (m:List (kk.T×vk.T))
 |stk (l:List SV) (vals:List Value)
 |deep (ty:Nat) (q:Option Nat) (k:Kind) (xs:List k.T) (nl:Bool) (hole:Option Nat)
 |iter (kk vk:Kind) (m:List (kk.T×vk.T)) (dn:List Nat)
 |rmap (kk vk:Kind) (m:List (kk.T×vk.T))
 |siter (l:List UInt8) (pos:Nat)
 |mapE (kk vk:Kind) (m:List (kk.T×vk.T)) (key:kk.T) (n:Int)
 |lpf (l:List SV) (q:LpD) (s:LpS)
 |fm (ik:IntKind) (l:List (Int×Nat))
instance:Inhabited SV:=⟨.any⟩
instance:Inhabited OB:=⟨.dead⟩
inductive Rows {α:Type}(R:α->List Value->Prop):List α->List Value->Prop
 |nil:Rows R [] []
 |cons {x:α}{xs:List α}{c cs:List Value}(h:R x c) (t:Rows R xs cs):Rows R (x::xs) (c++cs)
def SlRel (h:Heap) (sz:Nat) {α:Type}(R:α->List Value->Prop) (l:List α) (v:Value):Prop :=
 (l=[]/\v=.slice none 0 0)\/∃ i o cap c e wr t,v=.slice (some ⟨i,o,none⟩) l.length cap/\l.length<=cap/\h.get i=some (.cells c e wr t)/\e.sz=sz/\o+l.length*sz<=c.length/\Rows R l ((c.drop o).take (l.length*sz))
def KC (h:Heap):(k:Kind)->k.T->List Value->Prop
 |.i ik,x,cs=>cs=[.int ik x]
 |.bo,x,cs=>cs=[.bool x]
 |.st,x,cs=>cs=[.string ⟨x.toArray⟩]
 |.list k,l,cs=>∃ v,cs=[v]/\SlRel h k.size (λx c=>KC h k x c) l v
 |.pair a b,x,cs=>∃ c1 c2,cs=c1++c2/\KC h a x.1 c1/\KC h b x.2 c2
theorem Rows.length {α:Type}{R:α->List Value->Prop}{n:Nat}(hR:∀ x c,R x c->c.length=n) {xs:List α}{cs:List Value}(h:Rows R xs cs):cs.length=xs.length*n:=by
 induction h with
 |nil=>simp
 |cons h _ ih=>simp only[zo,hR _ _ h,ih,xj,zH,xD];omega
theorem Rows.mono {α:Type}{R R':α->List Value->Prop}(hR:∀ x c,R x c->R' x c) {xs:List α}{cs:List Value}(h:Rows R xs cs):Rows R' xs cs:=by
 induction h with
 |nil=>exact .nil
 |cons h _ ih=>exact .cons (hR _ _ h) ih
theorem Rows.append {α:Type}{R:α->List Value->Prop}{xs ys:List α}{cs ds:List Value}(h:Rows R xs cs) (h':Rows R ys ds):Rows R (xs++ys) (cs++ds):=by
 induction h with
 |nil=>exact h'
 |cons h _ ih=>rw[x6];exact .cons h ih
theorem Rows.at {α:Type}{R:α->List Value->Prop}{n:Nat}(hR:∀ x c,R x c->c.length=n) {xs:List α}{cs:List Value}(h:Rows R xs cs) {k:Nat}(hk:k<xs.length):R xs[k] ((cs.drop (k*n)).take n):=by
 induction h generalizing k with
 |nil=>simp at hk
 |@cons x xs c cs h t ih =>
  have hc:=hR _ _ h;cases k with
  |zero=>simp only[Nat.zero_mul,xr,List.getElem_cons_zero];rw[<-hc,List.take_left];exact h
  |succ k =>
   have:=ih (k:=k) (by simpa using hk);rw[List.getElem_cons_succ,zH,xD];have e:(c++cs).drop (k*n+n)=cs.drop (k*n):=by rw[List.drop_append,hc];simp_all
   rw[e];exact this
theorem Rows.take {α:Type}{R:α->List Value->Prop}{n:Nat}(hR:∀ x c,R x c->c.length=n) {xs:List α}{cs:List Value}(h:Rows R xs cs) (k:Nat):Rows R (xs.take k) (cs.take (k*n)):=by
 induction h generalizing k with
 |nil=>simp;exact .nil
 |@cons x xs c cs h t ih =>
  have hc:=hR _ _ h;cases k with
  |zero=>simp;exact .nil
  |succ k =>have e1:c.take ((k+1)*n)=c:=zC (by rw[hc,zH];omega);rw[xP,List.take_append,hc,show (k+1)*n-n=k*n by rw[zH];omega,e1];exact .cons h (ih k)
theorem Rows.drop {α:Type}{R:α->List Value->Prop}{n:Nat}(hR:∀ x c,R x c->c.length=n) {xs:List α}{cs:List Value}(h:Rows R xs cs) (k:Nat):Rows R (xs.drop k) (cs.drop (k*n)):=by
 induction h generalizing k with
 |nil=>simp;exact .nil
 |@cons x xs c cs h t ih =>
  have hc:=hR _ _ h;cases k with
  |zero=>simp;exact .cons h t
  |succ k =>have e1:c.drop ((k+1)*n)=[]:=List.drop_eq_nil_of_le (by rw[hc,zH];omega);rw[xU,List.drop_append,hc,show (k+1)*n-n=k*n by rw[zH];omega,e1,xB];exact ih k
theorem Rows.set {α:Type}{R:α->List Value->Prop}{n:Nat}(hR:∀ x c,R x c->c.length=n) {xs:List α}{cs:List Value}(h:Rows R xs cs) {k:Nat}(hk:k<xs.length) {y:α}{d:List Value}(hd:R y d):Rows R (xs.set k y) (cs.take (k*n)++d++cs.drop (k*n+n)):=by
 have e:xs.set k y=xs.take k++([y]++xs.drop (k+1)):=by rw[List.set_eq_take_append_cons_drop,z6 hk];rfl
 rw[e,x6];have h2:=h.drop hR (k+1);rw[zH,xD] at h2;exact(h.take hR k).append ((show Rows R [y] d by simpa using Rows.cons hd .nil).append h2)
theorem Rows.replicate {α:Type}{R:α->List Value->Prop}{x:α}{c:List Value}(h:R x c):∀ n,Rows R (List.replicate n x) (List.replicate n c).flatten
 |0=>by simp;exact .nil
 |n+1=>by simp only[xx,List.flatten_cons];exact .cons h (Rows.replicate h n)
theorem KC.length {h:Heap}:∀ {k:Kind}{x:k.T}{cs:List Value},KC h k x cs->cs.length=k.size
 |.i _,_,_,e|.bo,_,_,e|.st,_,_,e=>by simp only[KC] at e;subst e;rfl
 |.list k,l,cs,e=>by obtain⟨v,rfl,_⟩:=e;rfl
 |.pair a b,x,cs,e=>by obtain⟨c1,c2,rfl,h1,h2⟩:=e;simp only[zo,KC.length h1,KC.length h2,Kind.size]
theorem SlRel.mono {h h':Heap}(hl:h.Le h') {sz:Nat}{α:Type}{R R':α->List Value->Prop}(hR:∀ x c,R x c->R' x c) {l:List α}{v:Value}(hs:SlRel h sz R l v):SlRel h' sz R' l v:=by
 rcases hs with hs|⟨i,o,cap,c,e,wr,t,h1,h2,h3,h4,h5,h6⟩
 .exact .inl hs
 .exact .inr ⟨i,o,cap,c,e,wr,t,h1,h2,hl.2 _ _ h3,h4,h5,h6.mono hR⟩
theorem KC.mono {h h':Heap}(hl:h.Le h'):∀ {k:Kind}{x:k.T}{cs:List Value},KC h k x cs->KC h' k x cs
 |.i _,_,_,e|.bo,_,_,e|.st,_,_,e=>e
 |.list k,l,cs,e=>by obtain⟨v,hv,hs⟩:=e;exact⟨v,hv,hs.mono hl λx c hx=>KC.mono (k:=k) hl hx⟩
 |.pair a b,x,cs,e=>by obtain⟨c1,c2,hc,h1,h2⟩:=e;exact⟨c1,c2,hc,KC.mono hl h1,KC.mono hl h2⟩
theorem KC.cellOk {h:Heap}:∀ {k:Kind}{x:k.T}{cs:List Value},KC h k x cs->cs.all cellOk=true
 |.i _,_,_,e|.bo,_,_,e|.st,_,_,e=>by simp only[KC] at e;subst e;rfl
 |.list k,l,cs,e=>by obtain⟨v,rfl,hs⟩:=e;rcases hs with⟨_,rfl⟩|⟨i,o,cap,c,e,wr,t,rfl,_⟩<;>rfl
 |.pair a b,x,cs,e=>by obtain⟨c1,c2,rfl,h1,h2⟩:=e;rw[List.all_append,KC.cellOk h1,KC.cellOk h2];rfl
def Vu:(k:Kind)->k.T->List SV
 |.pair a b,x=>Vu a x.1++Vu b x.2
 |.i k,x=>[.val (.i k) x]
 |.bo,x=>[.val .bo x]
 |.st,x=>[.val .st x]
 |.list k,x=>[.val (.list k) x]
def IA:(k:Kind)->k.T->SV
 |.pair a b,x=>.agg (Vu (.pair a b) x)
 |.i k,x=>.val (.i k) x
 |.bo,x=>.val .bo x
 |.st,x=>.val .st x
 |.list k,x=>.val (.list k) x
inductive RowsO {α:Type}(R:α->List Value->List Nat->Prop):List α->List Value->List Nat->Prop
 |nil:RowsO R [] [] []
 |cons {x:α}{xs:List α}{c cs:List Value}{is js:List Nat}(h:R x c is) (t:RowsO R xs cs js):RowsO R (x::xs) (c++cs) (is++js)
def KO (H:Heap):(q:Option Nat)->(k:Kind)->k.T->List Value->List Nat->Prop
 |_,.i ik,x,cs,is=>cs=[.int ik x]/\is=[]
 |_,.bo,x,cs,is=>cs=[.bool x]/\is=[]
 |_,.st,x,cs,is=>cs=[.string ⟨x.toArray⟩]/\is=[]
 |q,.list k,l,cs,is=>(l=[]/\cs=[.slice none 0 0]/\is=[])\/∃ i cap c e t js,cs=[.slice (some ⟨i,0,none⟩) l.length cap]/\is=i::js/\l.length<=cap/\H.get i=some (.cells c e true t)/\e.sz=k.size/\(∀ ty,q=some ty->e.ty=ty)/\cap*k.size<=c.length /\
   RowsO (λx c is=>KO H none k x c is) l (c.take (l.length*k.size)) js
 |_,.pair a b,x,cs,is=>∃ c1 c2 i1 i2,cs=c1++c2/\is=i1++i2/\KO H none a x.1 c1 i1/\KO H none b x.2 c2 i2
def Q5p (i:Nat):Blk->Value
 |.cells c e _ t=>.tuple #[.int .i64 (i:Nat),.agg c.toArray,.int .i64 (e.sz:Nat),.int .i64 (e.ty:Nat),.bool t]
 |_=>.bool true
def Q6d:Value->Option (Nat×Blk)
 |.tuple ⟨[.int _ i,.agg c,.int _ sz,.int _ ty,.bool t]⟩=>some (i.toNat,.cells c.toList ⟨sz.toNat,ty.toNat⟩ true t)
 |_=>none
def Q0j:List Value->List (Nat×Blk)
 |[]=>[]
 |v::vs=>match Q6d v with|some p=>p::Q0j vs|none=>Q0j vs
def GL:List (Nat×Blk)->Nat->Option Blk
 |[],_=>none
 |(j,b)::r,i=>if i=j then some b else GL r i
def Q1z:List (Nat×Blk)->Nat
 |[]=>0
 |(j,_)::r=>max (j+1) (Q1z r)
theorem Sf:∀ (l:List (Nat×Blk)) (i:Nat),Q1z l<=i->GL l i=none
 |[],_,_=>rfl
 |(j,b)::r,i,h=>by
  simp only[Q1z] at h;have:¬ i=j:=by omega
  simp only[GL,z7 this];exact Sf r i (by omega)
def listH (l:List (Nat×Blk)):Heap:=⟨GL l,Q1z l,λi h=>Sf l i h⟩
def phd:Value->Value
 |.tuple ⟨v::_⟩=>v
 |v=>v
def Je:Value->Heap
 |.tuple ⟨_::vs⟩=>listH (Q0j vs)
 |_=>listH []
def DR (p:Value):DW->Value->Prop
 |.out,v=>v=phd p/\∃ a n c,v=.slice a n c
 |.el i off sz,v=>∃ b len cap,phd p=.slice (some ⟨b,0,none⟩) len cap/\0<=i/\i<len/\v=.pointer (some ⟨b,i.toNat*sz+off,none⟩)
 |.row k x i,v=>KC (Je p) (.list k) x [v]/\(∀ a n c,v=.slice (some a) n c->a.off=0)/\∃ b len cap c e t,phd p=.slice (some ⟨b,0,none⟩) len cap/\0<=i/\i<len/\(Je p).get b=some (.cells c e true t)/\c[i.toNat]?=some v
 |.rowp k x i j off,v=>∃ b len cap c e t r rl rc aJ re rt,phd p=.slice (some ⟨b,0,none⟩) len cap/\0<=i/\i<len/\(Je p).get b=some (.cells c e true t)/\c[i.toNat]?=some (.slice (some ⟨r,0,none⟩) rl rc)/\0<=j/\j<rl/\x.length=rl/\(Je p).get r=some (.cells aJ re true rt)/\rl*k.size<=aJ.length/\Rows (KC (Je p) k) x (aJ.take (rl*k.size))/\v=.pointer (some ⟨r,j.toNat*k.size+off,none⟩)
 |.inn k x,v=>KC (Je p) (.list k) x [v]
 |.inp k l j off,v=>∃ b o c e wr t,0<=j/\j<l.length/\(Je p).get b=some (.cells c e wr t)/\v=.pointer (some ⟨b,o+j.toNat*k.size+off,none⟩)/\o+l.length*k.size<=c.length/\Rows (KC (Je p) k) l ((c.drop o).take (l.length*k.size))
 |.dat,v=>(phd p=.slice none 0 0/\v=.pointer none)\/∃ b n cap,phd p=.slice (some ⟨b,0,none⟩) n cap/\0<n/\v=.pointer (some ⟨b,0,none⟩)
 |.yv,v=>∃ i,p=.pointer (some ⟨i,0,none⟩)/\v=.func (.yield i) #[] #[]
 |.obx c,v=>(c=false/\v=.pointer none)\/(c=true/\∃ b,phd p=.pointer (some ⟨b,0,none⟩)/\v=.pointer (some ⟨b,0,none⟩))
def KV (h:Heap) (k:Kind) (x:k.T) (v:Value):Prop:=(k.one=true/\KC h k x [v])\/(k.one=false/\∃ cs,v=.agg cs.toArray/\KC h k x cs)
theorem KV.mono {h h':Heap}(hl:h.Le h') {k:Kind}{x:k.T}{v:Value}(e:KV h k x v):KV h' k x v:=by
 rcases e with⟨ho,e⟩|⟨ho,cs,hv,e⟩
 .exact .inl ⟨ho,e.mono hl⟩
 .exact .inr ⟨ho,cs,hv,e.mono hl⟩
def PK (h:Heap):(ks:List Kind)->AT ks->List Value->Prop
 |[],_,vs=>vs=[]
 |[k],x,vs=>∃ v,vs=[v]/\KV h k x v
 |k::k'::ks,x,vs=>∃ v cG,vs=v::cG/\KV h k x.1 v/\PK h (k'::ks) x.2 cG
def gtb (tb:Nat->Option Bool):SV->Prop
 |.bid n c=>tb n=some c
 |_=>True
section
variable (P:Program)
def PfRel (B:Heap) (ks:List Kind) (r:Kind) (cu:AT ks->Prop) (p:AT ks->r.T) (v:Value):Prop :=
 ∃ g first cap,v=.func (.func g) first cap/\∀ x,cu x->∀ U vs,B.Le U->PK U ks x vs->VCalled P g (first.toList++vs++cap.toList) U λv' U'=>U'=U/\KV U r (p x) v'
mutual
def SR (B:Heap) (pl:Nat->Value) (tb:Nat->Option Bool):SV->Value->Prop
 |.any,_=>True
 |.val k x,v=>KC B k x [v]
 |.bid n c,v=>v=.bool c/\tb n=some c
 |.grd gs v,u=>((∀ g∈gs,tb g.id=some g.c)/\gtb tb v)/\((∀ g∈gs,g.c=g.want)->SR B pl tb v u)/\((∃ g∈gs,g.c≠g.want)->u=undef)
 |.nilS,v=>v=.slice none 0 0
 |.nilP,v=>v=.pointer none
 |.nilM,v=>v=.map none
 |.nilF,v=>v=.nilFunc
 |.lst o,v=>v=pl o/\∃ a n c,v=.slice a n c
 |.sub o lo n sz,v=>(lo=0/\n=0/\v=.slice none 0 0/\pl o=.slice none 0 0)\/∃ i len cap ao,pl o=.slice (some ⟨i,0,none⟩) len cap/\lo+n<=len/\n<=ao/\v=.slice (some ⟨i,lo*sz,none⟩) n ao
 |.elp o i off sz,v=>∃ b len cap,pl o=.slice (some ⟨b,0,none⟩) len cap/\0<=i/\i<len/\v=.pointer (some ⟨b,i.toNat*sz+off,none⟩)
 |.rop k l i off,v=>∃ b o c e wr t,0<=i/\i<l.length/\B.get b=some (.cells c e wr t)/\v=.pointer (some ⟨b,o+i.toNat*k.size+off,none⟩)/\o+l.length*k.size<=c.length/\Rows (KC B k) l ((c.drop o).take (l.length*k.size))
 |.box o off,v=>∃ b,pl o=.pointer (some ⟨b,0,none⟩)/\v=.pointer (some ⟨b,off,none⟩)
 |.cp l off,v=>∃ b c e wr t,B.get b=some (.cells c e wr t)/\v=.pointer (some ⟨b,off,none⟩)/\SRs B pl tb l c
 |.map o,v=>v=pl o/\∃ m,v=.map m
 |.agg l,v=>∃ cs,v=.agg cs.toArray/\SRs B pl tb l cs
 |.tup l,v=>∃ cs,v=.tuple cs.toArray/\SRs B pl tb l cs
 |.dd o w,v=>DR (pl o) w v
 |.fn f first dx,v=>∃ a b,v=.func (.func f) a.toArray b.toArray/\SRs B pl tb first a/\SRs B pl tb dx b
 |.pf ks r cu p,v=>PfRel P B ks r cu p v
def SRs (B:Heap) (pl:Nat->Value) (tb:Nat->Option Bool):List SV->List Value->Prop
 |[],vs=>vs=[]
 |s::ss,vs=>∃ v cG,vs=v::cG/\SR B pl tb s v/\SRs B pl tb ss cG
end
end
end Go.V
namespace Go.V
open Go
abbrev Own:=List (Nat×OB)
def Qa:Own->Nat->OB
 |[],_=>.dead
 |(k,b)::r,d=>bif Nat.beq k d then b else Qa r d
def oset:Own->Nat->OB->Own
 |[],d,b=>[(d,b)]
 |(k,c)::r,d,b=>bif Nat.beq k d then (d,b)::r else bif Nat.blt d k then (d,b)::(k,c)::r else (k,c)::oset r d b
structure St where
 env:List SV
 own:Own
 nx:Nat
mutual
def SV.kill (o:Nat):SV->SV
 |.lst o'=>bif Nat.beq o' o then .any else .lst o'
 |.sub o' lo n sz=>bif Nat.beq o' o then .any else .sub o' lo n sz
 |.elp o' i off sz=>bif Nat.beq o' o then .any else .elp o' i off sz
 |.dd o' w=>bif Nat.beq o' o then .any else .dd o' w
 |.box o' off=>bif Nat.beq o' o then .any else .box o' off
 |.map o'=>bif Nat.beq o' o then .any else .map o'
 |.grd gs v=>.grd gs (SV.kill o v)
 |.agg l=>.agg (SVs.kill o l)
 |.tup l=>.tup (SVs.kill o l)
 |.cp l off=>.cp (SVs.kill o l) off
 |.fn f a b=>.fn f (SVs.kill o a) (SVs.kill o b)
 |.any=>.any
 |.val k x=>.val k x
 |.bid n c=>.bid n c
 |.nilS=>.nilS
 |.nilP=>.nilP
 |.nilM=>.nilM
 |.nilF=>.nilF
 |.rop k l i off=>.rop k l i off
 |.pf ks r cu p=>.pf ks r cu p
def SVs.kill (o:Nat):List SV->List SV
 |[]=>[]
 |s::ss=>SV.kill o s::SVs.kill o ss
end
def OB.kill (o:Nat):OB->OB
 |.cells l u=>.cells (SVs.kill o l) u
 |.dead=>.dead
 |.lst ty k xs nl=>.lst ty k xs nl
 |.map kk vk m=>.map kk vk m
 |.stk l vals=>.stk (SVs.kill o l) vals
 |.deep ty q k xs nl h=>.deep ty q k xs nl h
 |.iter kk vk m dn=>.iter kk vk m dn
 |.rmap kk vk m=>.rmap kk vk m
 |.siter l pos=>.siter l pos
 |.mapE kk vk m key n=>.mapE kk vk m key n
 |.lpf l q s=>.lpf (SVs.kill o l) q s
 |.fm ik l=>.fm ik l
def E8 (o:Nat):Own->Own
 |[]=>[]
 |(k,b)::r=>bif Nat.beq k o then E8 o r else (k,b.kill o)::E8 o r
def St.kill (s:St) (o:Nat):St:=⟨SVs.kill o s.env,E8 o s.own,s.nx⟩
def St.make (s:St) (o:Nat) (b:OB):St:=⟨(s.kill o).env,oset (s.kill o).own o b,s.nx⟩
def St.put (s:St) (d:Option Nat) (v:SV):St:=match d with
 |some d=>⟨s.env.set d v,s.own,s.nx⟩
 |none=>s
def cvp:Value->SV
 |.bool b=>.val .bo b
 |.int k x=>.val (.i k) x
 |.string s=>.val .st s.data.toList
 |.pointer none=>.nilP
 |.slice none 0 0=>.nilS
 |.map none=>.nilM
 |.nilFunc=>.nilF
 |_=>.any
def cv:Value->SV
 |.agg cs=>.agg (cs.toList.map cvp)
 |v=>cvp v
def Q0w:List Gd->List Gd->Bool
 |[],_=>true
 |_::_,[]=>false
 |a::l,b::m=>bif Nat.beq a.id b.id&&(a.want==b.want) then Q0w l m else Q0w (a::l) m
def I0 (gs:List Gd):SV->SV
 |.grd g v=>bif Q0w g gs then v else .any
 |v=>v
def gev (gs:List Gd) (env:List SV):Operand->SV
 |.tmp t=>I0 gs (env.getD t .any)
 |.const v=>cv v
 |.func f=>.fn f [] []
 |.global _=>.any
def YM {k:Kind}(l:List k.T) (k':Kind):Option (List k'.T):=if h:k=k' then some (h▸l) else none
def FH {k:Kind}(x:k.T) (k':Kind):Option k'.T:=if h:k=k' then some (h▸x) else none
def asB:SV->Option Bool
 |.val .bo b=>some b
 |.bid _ c=>some c
 |_=>none
def asI:SV->Option (IntKind×Int)
 |.val (.i k) x=>some (k,x)
 |_=>none
def asS:SV->Option (List UInt8)
 |.val .st x=>some x
 |_=>none
def Kind.flat:Kind->Bool
 |.list _=>false
 |.pair a b=>a.flat&&b.flat
 |_=>true
def view (own:Own) (k:Kind):SV->Option (List k.T)
 |.nilS=>some []
 |.val (.list _k') l=>YM l k
 |.lst o=>match Qa own o with|.lst _ _k' xs _=>YM xs k|_=>none
 |.sub o lo n sz=>match Qa own o with|.lst _ k' xs _=>if sz=k'.size then (YM xs k).map λxs=>(xs.drop lo).take n else none|_=>none
 |.dd o w=>bif k.flat then (match Qa own o with
  |.deep _ _ _ xs _ h=>(match w with
   |.out=>(match h with|none=>YM xs k|some _=>none)
   |.inn _ l=>YM l k
   |.row _ l _=>YM l k
   |_=>none)
  |_=>none) else none
 |_=>none
def Q5m (own:Own):SV->Option Nat
 |.nilS=>some 0
 |.val (.list _) l=>some l.length
 |.lst o=>match Qa own o with|.lst _ _ xs _=>some xs.length|_=>none
 |.sub _ _ n _=>some n
 |.dd o w=>(match Qa own o with
  |.deep _ _ _ xs _ h=>(match w with
   |.out=>(match h with|none=>some xs.length|some _=>none)
   |.inn _ l=>some l.length
   |.row _ l _=>some l.length
   |_=>none)
  |_=>none)
 |_=>none
def SV.solid:SV->Bool
 |.agg _|.tup _|.any|.grd _ _=>false
 |_=>true
def Y6:SV->Option (List SV)
 |.agg l=>bif l.all SV.solid then some l else none
 |.tup _=>none
 |.any=>none
 |.grd _ _=>none
 |v=>some [v]
def GV:(k:Kind)->List SV->Option k.T
 |.i ik,[v]=>match v with|.val (.i il) x=>if ik=il then some x else none|_=>none
 |.bo,[v]=>asB v
 |.st,[v]=>asS v
 |.list k,[v]=>match v with|.nilS=>some []|.val (.list _k') l=>YM l k|_=>none
 |.pair a b,l=>match GV a (l.take a.size),GV b (l.drop a.size) with
  |some x,some y=>some (x,y)
  |_,_=>none
 |_,_=>none
def dkV (k:Kind) (v:SV):Option k.T:=bif k.one then GV k [v] else match v with|.agg l=>GV k l|_=>none
def FY (k:Kind) (z:Value):List Value:=bif k.one then [z] else match z with|.agg a=>a.toList|_=>[]
def Q2p:(k:Kind)->Nat->SV->k.T->Option k.T
 |.pair a b,off,v,x=>bif Nat.blt off a.size then (Q2p a off v x.1).map λy=>(y,x.2) else (Q2p b (off-a.size) v x.2).map λy=>(x.1,y)
 |.i ik,_,v,_=>GV (.i ik) [v]
 |.bo,_,v,_=>GV .bo [v]
 |.st,_,v,_=>GV .st [v]
 |.list k,_,v,_=>GV (.list k) [v]
def Xj:Kind->List Value->Bool
 |.i ik,[.int k x]=>decide (ik=k)&&(x==0)
 |.bo,[.bool b]=>!b
 |.st,[.string s]=>s.data.toList.isEmpty
 |.list _,[.slice none 0 0]=>true
 |.pair a b,l=>Xj a (l.take a.size)&&Xj b (l.drop a.size)
 |_,_=>false
def InK (k:IntKind) (x:Int):Prop:=k.min<=x/\x<=k.max
def IB:List Gd->Prop->Prop
 |[],p=>p
 |g::gs,p=>g.c=g.want->IB gs p
def G4 (gs:List Gd):List Prop->Prop->Prop
 |[],q=>q
 |c::cs,q=>IB gs c/\G4 gs cs q
abbrev CSp:=(SV->List SV->Option (Prop×SV))->List SV->Option (Prop×SV×List OB)
abbrev XSp:=Nat->List SV->St->(SV->St->Prop)->Prop
abbrev ISp:=List SV->Option (Prop×Nat×Nat×(Nat->List SV))
abbrev YSp:=List SV->St->(SV->St->Prop)->Prop
abbrev Q5n:=Nat->List SV->Nat×YSp->St->(St->Prop)->Prop
structure Cx where
 kt:List (Nat×Kind)
 cs:List (Nat×CSp)
 nt:Nat
 raw:List Nat
 off:Nat
 xs:List (Nat×XSp)
 it:List (Nat×ISp)
 el:List (Nat×Nat):=[]
 jn:List Nat:=[]
 nm:Bool:=false
 yl:List (Nat×YSp):=[]
 iy:List (Nat×Q5n):=[]
 spl:List Nat:=[]
 xf:List (Nat×Nat):=[]
def Qp {α:Type _}:List (Nat×α)->Nat->Option α
 |[],_=>none
 |(k,x)::r,d=>bif Nat.beq k d then some x else Qp r d
mutual
def Hf (own:Own) (bx:List SV->Nat->SV):SV->SV
 |.lst o=>match Qa own o with|.lst _ k xs _=>.val (.list k) xs|_=>.any
 |.sub o lo n sz=>match Qa own o with|.lst _ k xs _=>if sz=k.size then .val (.list k) ((xs.drop lo).take n) else .any|_=>.any
 |.box o off=>match Qa own o with|.cells l _=>bx l off|_=>.any
 |.agg l=>.agg (Br own bx l)
 |.fn f a b=>.fn f (Br own bx a) (Br own bx b)
 |.bid _ c=>.val .bo c
 |.val k x=>.val k x
 |.nilS=>.nilS
 |.nilP=>.nilP
 |.nilM=>.nilM
 |.nilF=>.nilF
 |.rop k l i off=>.rop k l i off
 |.cp l off=>.cp (Br own bx l) off
 |.pf ks r cu p=>.pf ks r cu p
 |.any=>.any
 |.grd _ _=>.any
 |.elp _ _ _ _=>.any
 |.dd o w=>(match Qa own o with
  |.deep _ _ k xs _ h=>(match w with
   |.out=>(match h with|none=>.val (.list k) xs|some _=>.any)
   |.inn k x=>.val (.list k) x
   |.row k x _=>.val (.list k) x
   |_=>.any)
  |_=>.any)
 |.map _=>.any
 |.tup _=>.any
def Br (own:Own) (bx:List SV->Nat->SV):List SV->List SV
 |[]=>[]
 |s::ss=>Hf own bx s::Br own bx ss
end
def Q75 (own:Own) (l:List SV):List SV:=Br own (λ_ _=>.any) l
def Q7m (own:Own) (l:List SV):List SV:=Br own (λc off=>.cp (Q75 own c) off) l
def Q83 (own:Own) (l:List SV):List SV:=Br own (λc off=>.cp (Q7m own c) off) l
def Pj (own:Own) (l:List SV):List SV:=Q83 own l
def Bn:BinOp->Int->Int->Int
 |.add,a,b=>a+b
 |.sub,a,b=>a-b
 |_,a,b=>a*b
def Q05 (a b:Int):Int:=if b > a then b else a
def Q7a (a b:Int):Int:=if b<a then b else a
def LH (k:IntKind) (x y:Int):Int:=x*2 ^ (Nat.min y.toNat k.bits)
def Q17 (k:IntKind) (x y:Int):Int:=x.fdiv (2 ^ (Nat.min y.toNat k.bits))
def gfill (c:List SV):List (Nat×Nat×SV)->Option (List SV)
 |[]=>some c
 |(o,sz,v)::rest=>match Y6 v with
  |some vs=>if vs.length=sz/\o+sz<=c.length then gfill (setS c o vs) rest else none
  |none=>none
 where setS (c:List SV) (o:Nat):List SV->List SV
 |[]=>c
 |v::vs=>setS (c.set o v) (o+1) vs
def GP (agg:Bool) (size:Nat) (l:List SV) (off:Nat):Option SV :=
 bif agg then (if off+size<=l.length then some (.agg ((l.drop off).take size)) else none) else l[off]?
def Un (o:Nat):(k:Kind)->k.T->List SV
 |.pair a b,x=>Un o a x.1++Un o b x.2
 |.list k,x=>[.dd o (.inn k x)]
 |.i k,x=>[.val (.i k) x]
 |.bo,x=>[.val .bo x]
 |.st,x=>[.val .st x]
def Q5k (o:Nat) (i:Int):(k:Kind)->k.T->List SV
 |.list k,x=>[.dd o (.row k x i)]
 |.pair a b,x=>Un o (.pair a b) x
 |.i k,x=>[.val (.i k) x]
 |.bo,x=>[.val .bo x]
 |.st,x=>[.val .st x]
def IF (own:Own) (agg:Bool) (size:Nat):SV->Option SV
 |.box o off=>match Qa own o with|.cells l _=>GP agg size l off|_=>none
 |.cp l off=>GP agg size l off
 |.elp o i off sz=>match Qa own o with|.lst _ k xs _=>if sz=k.size/\off+size<=sz then GP agg size (Vu k (xs.getD i.toNat k.dflt)) off else none|_=>none
 |.rop k l i off=>if off+size<=k.size then GP agg size (Vu k (l.getD i.toNat k.dflt)) off else none
 |.dd o w=>(match Qa own o with
  |.deep _ _ k xs _ h=>(match h with
   |none=>(match w with
    |.el i off sz=>if sz=k.size/\off+size<=sz then GP agg size (Q5k o i k (xs.getD i.toNat k.dflt)) off else none
    |.rowp k' x _ j off=>if off+size<=k'.size then GP agg size (Un o k' (x.getD j.toNat k'.dflt)) off else none
    |.inp k' l j off=>if off+size<=k'.size then GP agg size (Un o k' (l.getD j.toNat k'.dflt)) off else none
    |_=>none)
   |some _=>none)
  |_=>none)
 |_=>none
def Xh (ev:Operand->SV):Option Operand->Int->Option Int
 |none,d=>some d
 |some x,_=>(asI (ev x)).map (·.2)
def AV (k:MK) (a b:SV):Option Bool:=match k with
 |.int q=>(match asI a,asI b with|some (q1,x),some (q2,y)=>if q1=q/\q2=q then some (x==y) else none|_,_=>none)
 |.bool=>(match asB a,asB b with|some x,some y=>some (x==y)|_,_=>none)
 |.string=>(match asS a,asS b with|some x,some y=>some (x==y)|_,_=>none)
 |.agg _=>none
def BN:List MK->List SV->List SV->Option Bool
 |[],_,_=>none
 |k::ks,a::l,b::m=>(match ks with
  |[]=>(match l,m with|[],[]=>AV k a b|_,_=>none)
  |k'::ks=>(match AV k a b,BN (k'::ks) l m with|some x,some y=>some (x&&y)|_,_=>none))
 |_::_,_,_=>none
def U8 (xs:List Int):List UInt8:=xs.map λx=>x.toNat.toUInt8
def gq (_kt:List (Nat×Kind)) (raw:Bool) (o:VOp) (ev:Operand->SV) (own:Own):Option (List Prop×SV) :=
 match o with
 |.move x=>some ([],ev x)
 |.arith op x y=>match asI (ev x),asI (ev y) with
  |some (k,a),some (k',b)=>if k=k' then (bif raw then some ([],.val (.i k) (k.wrap (Bn op a b))) else some ([InK k (Bn op a b)],.val (.i k) (Bn op a b))) else none
  |_,_=>none
 |.div op x y=>match asI (ev x),asI (ev y) with
  |some (k,a),some (k',b)=>if k=k' then (match op with
   |.quo=>some ([b≠0,InK k (a.tdiv b)],.val (.i k) (a.tdiv b))
   |_=>some ([b≠0],.val (.i k) (a.tmod b))) else none
  |_,_=>none
 |.bits op x y=>match asI (ev x),asI (ev y) with
  |some (k,a),some (k',b)=>if k=k' then some ([],.val (.i k) (Bo op k a b)) else none
  |_,_=>none
 |.shift op x y=>match asI (ev x),asI (ev y) with
  |some (k,a),some (_,b)=>(match op with
   |.shl=>bif raw then some ([0<=b],.val (.i k) (k.wrap (LH k a b))) else some ([0<=b,InK k (LH k a b)],.val (.i k) (LH k a b))
   |_=>some ([0<=b],.val (.i k) (Q17 k a b)))
  |_,_=>none
 |.cmp op x y=>match asI (ev x),asI (ev y) with
  |some (k,a),some (k',b)=>if k=k' then some ([],.val .bo (Q4k op a b)) else none
  |_,_=>none
 |.str op x y=>match asS (ev x),asS (ev y) with
  |some a,some b=>(match op with
   |.add=>some ([a.length+b.length<=4611686018427387904],.val .st (a++b))
   |.eql=>some ([],.val .bo (a==b))
   |.neq=>some ([],.val .bo (!(a==b)))
   |.lss=>some ([],.val .bo (Op.bytesLess a b))
   |_=>none)
  |_,_=>none
 |.eqB neg x y=>match asB (ev x),asB (ev y) with
  |some a,some b=>some ([],.val .bo (if neg then !(a==b) else (a==b)))
  |_,_=>none
 |.un op x=>match op with
  |.not=>match asB (ev x) with|some b=>some ([],.val .bo (!b))|none=>none
  |.neg=>match asI (ev x) with|some (k,n)=>some ([InK k (0-n)],.val (.i k) (0-n))|none=>none
  |.xor=>match asI (ev x) with|some (k,n)=>some ([],.val (.i k) (Bo .xor k (if k.signed then -1 else k.max) n))|none=>none
  |_=>none
 |.convI k x=>match asI (ev x) with
  |some (_,n)=>bif raw then some ([],.val (.i k) (k.wrap n)) else some ([InK k n],.val (.i k) n)
  |none=>none
 |.convS x=>match asS (ev x) with|some s=>some ([],.val .st s)|none=>none
 |.build z parts=>match gfill (z.map cvp) (parts.map λp=>(p.1,p.2.1,ev p.2.2)) with|some l=>some ([],.agg l)|none=>none
 |.load agg size a=>bif Nat.blt 0 size then (IF own agg size (ev a)).map λv=>([],v) else none
 |.fieldAddr off a=>match ev a with
  |.box o f=>some ([],.box o (f+off))
  |.cp l f=>some ([],.cp l (f+off))
  |.elp o i f sz=>some ([],.elp o i (f+off) sz)
  |.dd o w=>(match w with
   |.el i f sz=>some ([],.dd o (.el i (f+off) sz))
   |.rowp k x i j f=>some ([],.dd o (.rowp k x i j (f+off)))
   |.inp k l j f=>some ([],.dd o (.inp k l j (f+off)))
   |_=>none)
  |.rop k l i f=>some ([],.rop k l i (f+off))
  |_=>none
 |.field agg off size x=>match ev x with|.agg l=>(GP agg size l off).map λv=>([],v)|_=>none
 |.indexAddr size x i=>match ev x,asI (ev i) with
  |.lst o,some (_,j)=>(match Qa own o with|.lst _ k xs _=>if k.size=size then some ([0<=j,j<xs.length],.elp o j 0 size) else none|_=>none)
  |.dd o w,some (_,j)=>(match Qa own o with
   |.deep _ _ k xs _ h=>(match w with
    |.out=>(match h with|none=>(if k.size=size then some ([0<=j,j<xs.length],.dd o (.el j 0 size)) else none)|some _=>(if k.size=size then some ([0<=j,j<xs.length],.dd o (.el j 0 size)) else none))
    |.row k x i=>if k.size=size then some ([0<=j,j<x.length],.dd o (.rowp k x i j 0)) else none
    |.inn k l=>if k.size=size then some ([0<=j,j<l.length],.dd o (.inp k l j 0)) else none
    |_=>none)
   |_=>none)
  |.sub o lo n sz,some (_,j)=>(match Qa own o with|.lst _ k _ _=>if k.size=size/\sz=size then some ([0<=j,j<n],.elp o (lo+j) 0 size) else none|_=>none)
  |.val (.list k) l,some (_,j)=>if k.size=size then some ([0<=j,j<l.length],.rop k l j 0) else none
  |_,_=>none
 |.indexStr x i=>match asS (ev x),asI (ev i) with
  |some s,some (_,j)=>some ([0<=j,j<s.length],.val (.i .u8) ((s.getD j.toNat 0).toNat:Int))
  |_,_=>none
 |.indexArr len agg size x i=>match ev x,i with
  |.agg l,.const (.int _ (Int.ofNat j))=>if j<len then (GP agg size l (j*size)).map λv=>([],v) else none
  |_,_=>none
 |.indexAddrArr len size x i=>match ev x,i with
  |.box o f,.const (.int _ (Int.ofNat j))=>if j<len then some ([],.box o (f+j*size)) else none
  |.cp l f,.const (.int _ (Int.ofNat j))=>if j<len then some ([],.cp l (f+j*size)) else none
  |.rop k l q f,.const (.int _ (Int.ofNat j))=>if j<len then some ([],.rop k l q (f+j*size)) else none
  |_,_=>none
 |.slice size x lo hi none=>match ev x with
  |.lst o=>(match Qa own o with
   |.lst _ k xs _=>if k.size=size then (match Xh ev lo 0,Xh ev hi xs.length with
    |some a,some b=>some ([0<=a,a<=b,b<=xs.length],.sub o a.toNat (b-a).toNat size)
    |_,_=>none) else none
   |_=>none)
  |.sub o l0 n sz=>(match Qa own o with
   |.lst _ k _ _=>if k.size=size/\sz=size then (match Xh ev lo 0,Xh ev hi n with
    |some a,some b=>some ([0<=a,a<=b,b<=n],.sub o (l0+a.toNat) (b-a).toNat size)
    |_,_=>none) else none
   |_=>none)
  |.val (.list k) l=>if k.size=size then (match Xh ev lo 0,Xh ev hi l.length with
   |some a,some b=>some ([0<=a,a<=b,b<=l.length],.val (.list k) ((l.drop a.toNat).take (b-a).toNat))
   |_,_=>none) else none
  |.dd o w=>(match Qa own o with
   |.deep _ _ _ _ _ _=>(match w with
    |.inn k l=>if k.size=size then (match Xh ev lo 0,Xh ev hi l.length with
     |some a,some b=>some ([0<=a,a<=b,b<=l.length],.dd o (.inn k ((l.drop a.toNat).take (b-a).toNat)))
     |_,_=>none) else none
    |.row k l _=>if k.size=size then (match Xh ev lo 0,Xh ev hi l.length with
     |some a,some b=>some ([0<=a,a<=b,b<=l.length],.dd o (.inn k ((l.drop a.toNat).take (b-a).toNat)))
     |_,_=>none) else none
    |_=>none)
   |_=>none)
  |.nilS=>(match Xh ev lo 0,Xh ev hi 0 with
   |some a,some b=>some ([a=0,b=0],.nilS)
   |_,_=>none)
  |_=>none
 |.sliceStr x lo hi=>match asS (ev x) with
  |some s=>(match Xh ev lo 0,Xh ev hi s.length with
   |some a,some b=>some ([0<=a,a<=b,b<=s.length],.val .st ((s.drop a.toNat).take (b-a).toNat))
   |_,_=>none)
  |none=>none
 |.len x=>match Q5m own (ev x) with|some n=>some ([],.val (.i .i64) (n:Nat))|none=>none
 |.lenStr x=>match asS (ev x) with|some s=>some ([],.val (.i .i64) (s.length:Nat))|none=>none
 |.max4 x y z w=>match asI (ev x),asI (ev y),asI (ev z),asI (ev w) with
  |some (k,a),some (k2,b),some (k3,c),some (k4,d)=>if k=k2/\k=k3/\k=k4 then some ([],.val (.i k) (Q05 (Q05 (Q05 a b) c) d)) else none
  |_,_,_,_=>none
 |.max x y=>match asI (ev x),asI (ev y) with
  |some (k,a),some (k',b)=>if k=k' then some ([],.val (.i k) (Q05 a b)) else none
  |_,_=>none
 |.min x y=>match asI (ev x),asI (ev y) with
  |some (k,a),some (k',b)=>if k=k' then some ([],.val (.i k) (Q7a a b)) else none
  |_,_=>none
 |.makeFunc (.func f) first cap=>some ([],.fn f (first.map ev) (cap.map ev))
 |.extract x i=>match ev x with|.tup l=>(l[i]?).map λv=>([],v)|_=>none
 |.nilCheck x=>match ev x with
  |.box o f=>some ([],.box o f)
  |.cp l f=>some ([],.cp l f)
  |.fn f a b=>some ([],.fn f a b)
  |_=>none
 |.ext (.eqNil 1 neg x y)=>match ev x,ev y with
  |.nilS,.nilS=>some ([],.val .bo (!neg))
  |.lst o,.nilS=>(match Qa own o with|.lst _ _ _ nl=>some ([],.val .bo (bif neg then !nl else nl))|_=>none)
  |.dd o .out,.nilS=>(match Qa own o with|.deep _ _ _ _ nl _=>some ([],.val .bo (bif neg then !nl else nl))|_=>none)
  |.val (.list _) l,.nilS=>some ([l≠[]],.val .bo neg)
  |_,_=>none
 |.ext (.eqNil 0 neg x y)=>match ev x,ev y with
  |.nilP,.nilP=>some ([],.val .bo (!neg))
  |.box _ _,.nilP=>some ([],.val .bo neg)
  |.cp _ _,.nilP=>some ([],.val .bo neg)
  |.dd _ (.obx c),.nilP=>some ([],.val .bo (bif neg then c else !c))
  |.dd o (.obx c),.box o' f=>(match Qa own o with
   |.cells _ _=>if o=o'/\f=0 then some ([c=true],.val .bo (!neg)) else none
   |_=>none)
  |_,_=>none
 |.ext (.eqAgg neg s x y)=>match ev x,ev y with
  |.agg l,.agg m=>(BN s l m).map λb=>([],.val .bo (bif neg then !b else b))
  |_,_=>none
 |.ext (.toUnsafe x)=>match ev x with
  |.box o f=>(match Qa own o with|.cells l _=>if f<l.length then some ([],.box o f) else none|_=>none)
  |_=>none
 |.ext (.fromUnsafe u size x)=>match ev x with
  |.box o f=>(match Qa own o with
   |.cells l (some t)=>if f=0/\t=u/\size<=l.length then some ([],.box o 0) else none
   |_=>none)
  |_=>none
 |.ext (.bytesStr x)=>match view own (.i .u8) (ev x) with
  |some xs=>some ([],.val .st (U8 xs))
  |none=>none
 |.ext (.sliceData x)=>match ev x with
  |.nilS=>some ([],.nilP)
  |.lst o=>(match Qa own o with|.lst _ _ xs nl=>some ([nl=false->xs≠[]],.dd o .dat)|_=>none)
  |_=>none
 |.ext (.lookup mk z ok x i)=>match ev x with
  |.map o=>(match Qa own o with
   |.map kk vk m=>if mkOk mk kk=true/\Xj vk (FY vk z)=true then (match dkV kk (ev i) with
    |some key=>(if ok then some ([],.tup [IA vk (aget kk m key vk.dflt),.val .bo (ahas kk m key)]) else some ([],IA vk (aget kk m key vk.dflt)))
    |none=>none) else none
   |.fm ik l=>(match asI (ev i) with
    |some (il,n)=>if il=ik/\mkI mk ik=true/\ok=false then (match fmGet l n with|some f=>some ([],.fn f [] [])|none=>none) else none
    |none=>none)
   |_=>none)
  |_=>none
 |.ext (.entry x)=>match ev x with
  |.box o f=>(match Qa own o with
   |.iter kk vk m dn=>if f=0/\kk.keyk=true/\vk.one=true then some ([dn≠[]],.tup [IA kk (m.getD (dn.getLastD 0) (kk.dflt,vk.dflt)).1,.val vk (m.getD (dn.getLastD 0) (kk.dflt,vk.dflt)).2]) else none
   |_=>none)
  |_=>none
 |.ext (.lenMap x)=>match ev x with
  |.map o=>(match Qa own o with|.map _ _ m=>some ([],.val (.i .i64) m.length)|_=>none)
  |_=>none
 |_=>none
 where
 mkI:MK->IntKind->Bool
  |.int k,k'=>decide (k=k')
  |_,_=>false
 fmGet:List (Int×Nat)->Int->Option Nat
  |[],_=>none
  |(k,f)::r,n=>bif decide (n=k) then some f else fmGet r n
 mkP:MK->Kind->Bool
  |.int k,.i k'=>decide (k=k')
  |.string,.st=>true
  |.bool,.bo=>true
  |_,_=>false
 mkAt:Kind->List MK->Option (List MK)
  |.pair a b,l=>(match mkAt a l with|some r=>mkAt b r|none=>none)
  |k,m::r=>bif mkP m k then some r else none
  |_,[]=>none
 mkOk (m:MK) (k:Kind):Bool:=bif k.one then mkP m k else match m with
  |.agg l=>(match mkAt k l with|some []=>true|_=>false)
  |_=>false
 keq:(k:Kind)->k.T->k.T->Bool
  |.i _,(a:Int),b=>a==b
  |.bo,(a:Bool),b=>a==b
  |.st,(a:List UInt8),b=>a==b
  |.pair k l,x,y=>keq k x.1 y.1&&keq l x.2 y.2
  |_,_,_=>false
 aget (kk:Kind) {V:Type}:List (kk.T×V)->kk.T->V->V
  |[],_,d=>d
  |(k,v)::r,key,d=>if keq kk key k then v else aget kk r key d
 ahas (kk:Kind) {V:Type}:List (kk.T×V)->kk.T->Bool
  |[],_=>false
  |(k,_)::r,key=>keq kk key k||ahas kk r key
def Xb (kk:Kind) {V:Type}:List (kk.T×V)->kk.T->V->List (kk.T×V)
 |[],key,v=>[(key,v)]
 |(k,x)::r,key,v=>if gq.keq kk key k then (key,v)::r else (k,x)::Xb kk r key v
mutual
def SV.ret (n:Nat):SV->Bool
 |.val k _=>k.flat
 |.nilS|.nilP|.nilM|.nilF=>true
 |.lst j=>Nat.blt j n
 |.box j _=>Nat.blt j n
 |.map j=>Nat.blt j n
 |.dd j w=>(match w with|.out=>Nat.blt j n|_=>false)
 |.agg l=>SVs.ret n l
 |.tup l=>SVs.ret n l
 |_=>false
def SVs.ret (n:Nat):List SV->Bool
 |[]=>true
 |s::ss=>SV.ret n s&&SVs.ret n ss
end
mutual
def Yp:SV->Bool
 |.val k _=>k.one
 |.box _ _=>false
 |.map _=>false
 |.dd _ _=>false
 |.agg l=>KG l
 |.tup l=>KG l
 |_=>true
def KG:List SV->Bool
 |[]=>true
 |s::ss=>Yp s&&KG ss
end
def OB.isL:OB->Bool
 |.lst _ _ _ _=>true
 |_=>false
def OB.ret:OB->Bool
 |.lst _ k _ _=>k.flat
 |.cells l _=>SVs.ret 0 l
 |.map kk vk _=>kk.flat&&vk.flat
 |.dead=>false
 |.stk _ _=>false
 |.deep _ _ _ _ _ h=>h.isNone
 |.iter _ _ _ _=>false
 |.rmap _ _ _=>false
 |.siter _ _=>false
 |.mapE _ _ _ _ _=>false
 |.lpf _ _ _=>false
 |.fm _ _=>false
def gap (cs:List (Nat×CSp)):Nat->SV->List SV->Option (Prop×SV)
 |0,_,_=>none
 |n+1,f,args=>match f with
  |.fn g a b=>(match Qp cs g with
   |some sp=>(match sp (gap cs n) (a++args++b) with
    |some (c,v,[])=>bif v.ret 0 then some (c,v) else none
    |_=>none)
   |none=>none)
  |.pf ks r cu p=>(match deca ks args with
   |some x=>bif r.flat then some (cu x,IA r (p x)) else none
   |none=>none)
  |_=>none
 where
 deca:(ks:List Kind)->List SV->Option (AT ks)
  |[],[]=>some ()
  |[k],[v]=>asV k v
  |k::k'::ks,v::vs=>match asV k v,deca (k'::ks) vs with|some x,some y=>some (x,y)|_,_=>none
  |_,_=>none
 asV (k:Kind) (v:SV):Option k.T:=bif k.one then GV k [v] else match v with|.agg l=>GV k l|_=>none
def Yq (cs:List (Nat×CSp)) (f:SV) (args:List SV):Option (Prop×SV×List OB) :=
 match f with
 |.fn g a b=>(match Qp cs g with|some sp=>sp (gap cs 3) (a++args++b)|none=>none)
 |f=>(gap cs 3 f args).map λ(c,v)=>(c,v,[])
mutual
def SV.ren (d nt:Nat):SV->SV
 |.lst j=>.lst (d+j*nt)
 |.box j off=>.box (d+j*nt) off
 |.map j=>.map (d+j*nt)
 |.dd j w=>(match w with|.out=>.dd (d+j*nt) .out|_=>.any)
 |.agg l=>.agg (SVs.ren d nt l)
 |.tup l=>.tup (SVs.ren d nt l)
 |.any=>.any
 |.val k x=>.val k x
 |.bid _ c=>.val .bo c
 |.nilS=>.nilS
 |.nilP=>.nilP
 |.nilM=>.nilM
 |.nilF=>.nilF
 |.sub _ _ _ _|.elp _ _ _ _|.grd _ _|.cp _ _|.fn _ _ _|.rop _ _ _ _|.pf _ _ _ _=>.any
def SVs.ren (d nt:Nat):List SV->List SV
 |[]=>[]
 |s::ss=>SV.ren d nt s::SVs.ren d nt ss
end
def St.makes (s:St) (d nt:Nat):Nat->List OB->St
 |_,[]=>s
 |j,b::bs=>(s.make (d+j*nt) b).makes d nt (j+1) bs
def S6 (k:Kind) (ev:Operand->SV):List (Nat×Operand)->List k.T->Option (List k.T)
 |[],xs=>some xs
 |(j,x)::r,xs=>match Y6 (ev x) with
  |some l=>(match GV k l with
   |some y=>if j<xs.length then S6 k ev r (xs.set j y) else none
   |none=>none)
  |none=>none
mutual
def nmV:SV->(SV->Prop)->Prop
 |.val k x,K=>∀ y:k.T,y=x->K (.val k y)
 |.agg l,K=>Q23 l λl'=>K (.agg l')
 |.tup l,K=>Q23 l λl'=>K (.tup l')
 |.any,K=>K .any
 |.dd o w,K=>K (.dd o w)
 |.bid n c,K=>K (.bid n c)
 |.grd gs v,K=>K (.grd gs v)
 |.nilS,K=>K .nilS
 |.nilP,K=>K .nilP
 |.nilM,K=>K .nilM
 |.nilF,K=>K .nilF
 |.lst o,K=>K (.lst o)
 |.sub o lo n sz,K=>K (.sub o lo n sz)
 |.elp o i off sz,K=>K (.elp o i off sz)
 |.rop k l i off,K=>K (.rop k l i off)
 |.box o off,K=>K (.box o off)
 |.cp l off,K=>K (.cp l off)
 |.map o,K=>K (.map o)
 |.fn f a b,K=>K (.fn f a b)
 |.pf ks r cu p,K=>K (.pf ks r cu p)
def Q23:List SV->(List SV->Prop)->Prop
 |[],K=>K []
 |v::r,K=>nmV v λv'=>Q23 r λr'=>K (v'::r')
end
def Q7y (o:VOp) (ev:Operand->SV):Bool:=match o with
 |.load _ _ a=>(match ev a with|.elp _ _ _ _=>true|.rop _ _ _ _=>true|.dd _ _=>true|_=>false)
 |.cmp ..|.str ..|.eqB ..|.un ..|.pick ..|.indexStr ..|.bits ..|.shift ..|.div ..|.sliceStr ..|.max ..|.max4 ..|.min ..=>true
 |.ext (.lookup ..)|.ext (.eqNil ..)|.ext (.eqAgg ..)|.ext (.entry ..)=>true
 |_=>false
def gnm (C:Cx) (o:VOp) (ev:Operand->SV) (v:SV) (K:SV->Prop):Prop:=bif C.nm&&Q7y o ev then nmV v K else K v
def Cs (C:Cx) (d:Nat) (f:SV) (args:List SV) (s:St) (K:SV->St->Prop):Prop :=
 match Yq C.cs ((Pj s.own [f]).getD 0 .any) (Pj s.own args) with
 |some (c,v,bs)=>bif v.ret bs.length&&(bs.all OB.ret&&Nat.blt 0 C.nt) then c/\K (v.ren d C.nt) (s.makes d C.nt 0 bs) else False
 |none=>False
def PI (C:Cx) (d:Nat) (f:SV) (args:List SV) (s:St) (K:SV->St->Prop):Prop :=
 match f with
 |.fn g a b=>(match Qp C.xs g with
  |some x=>x d (a++(args++b)) s K
  |none=>Cs C d (.fn g a b) args s K)
 |.dd o .yv=>(match Qp C.yl o with
  |some y=>y args s K
  |none=>False)
 |f=>Cs C d f args s K
def gn (C:Cx) (d:Nat) (o:VOp) (ev:Operand->SV) (s:St) (K:SV->St->Prop):Prop :=
 match o with
 |.alloc t z=>K (.box d 0) (s.make d (.cells (z.map cvp) (some t)))
 |.box t x=>match Y6 (ev x) with
  |some l=>K (.box d 0) (s.make d (.cells (SVs.kill d l) (some t)))
  |none=>False
 |.buildSlice e z n parts=>match Qp C.kt e.ty with
  |some k=>if k.size=e.sz/\Xj k z=true then (match S6 k ev parts (List.replicate n k.dflt) with
   |some xs=>K (.lst d) (s.make d (.lst e.ty k xs false))
   |none=>False) else False
  |none=>False
 |.makeSlice e bytes z l c=>match Qp C.kt e.ty,asI (ev l),asI (ev c) with
  |some k,some (_,a),some (_,b)=>if k.size=e.sz/\Xj k z=true then
    G4 [] [0<=a,a<=b,b*bytes<=70368744177664,b<=70368744177664] (K (.lst d) (s.make d (.lst e.ty k (List.replicate a.toNat k.dflt) false))) else False
  |_,_,_=>False
 |.append e bytes x y=>match Qp C.kt e.ty with
  |some k=>(match view s.own k (ev y) with
   |some ys=>(match ev x with
    |.nilS=>if k.size=e.sz then G4 [] [ys.length*bytes<=70368744177664] (K (.lst d) (s.make d (.lst e.ty k ys ys.isEmpty))) else False
    |.lst o=>(match Qa s.own o with
     |.lst ty _k' xs nl=>if ty=e.ty/\k.size=e.sz then (match YM xs k with
      |some xs=>G4 [] [(xs.length+ys.length)*bytes<=70368744177664] (K (.lst o) (s.make o (.lst ty k (xs++ys) (ys.isEmpty&&nl))))
      |none=>False) else False
     |_=>False)
    |_=>False)
   |none=>False)
  |none=>False
 |.store size a v=>match ev a,Y6 (ev v) with
  |.box o off,some vs=>(match Qa s.own o with
   |.cells l u=>if vs.length=size/\off+size<=l.length then K .any ⟨s.env,oset s.own o (.cells (gfill.setS l off vs) u),s.nx⟩ else False
   |_=>False)
  |.elp o i off sz,some vs=>(match Qa s.own o with
   |.lst ty k xs nl=>(if off=0/\size=k.size/\sz=k.size then (match GV k vs with
     |some x=>K .any ⟨s.env,oset s.own o (.lst ty k (xs.set i.toNat x) nl),s.nx⟩
     |none=>False)
    else if size=1/\vs.length=1/\sz=k.size/\off<k.size then (match Q2p k off (vs.getD 0 .any) (xs.getD i.toNat k.dflt) with
     |some x=>K .any ⟨s.env,oset s.own o (.lst ty k (xs.set i.toNat x) nl),s.nx⟩
     |none=>False) else False)
   |_=>False)
  |_,_=>False
 |.callF f args=>PI C d (.fn f [] []) (args.map ev) s K
 |.callV f args=>PI C d (ev f) (args.map ev) s K
 |.ext (.mapUpdate mk m k v)=>match ev m with
  |.map o=>(match Qa s.own o with
   |.map kk vk l=>if gq.mkOk mk kk=true then (match dkV kk (ev k),dkV vk (ev v) with
    |some key,some x=>K .any ⟨s.env,oset s.own o (.map kk vk (Xb kk l key x)),s.nx⟩
    |_,_=>False) else False
   |.fm ik l=>(match asI (ev k),ev v with
    |some (il,n),.fn f [] []=>if il=ik/\gq.mkI mk ik=true/\gq.fmGet l n=none then K .any ⟨s.env,oset s.own o (.fm ik (l++[(n,f)])),s.nx⟩ else False
    |_,_=>False)
   |_=>False)
  |_=>False
 |.ext (.rangeMap x)=>match ev x with
  |.map o=>(match Qa s.own o with
   |.map kk vk m=>if kk.keyk=true/\vk.one=true then K (.box d 0) (St.make ⟨s.env,oset s.own o .dead,s.nx⟩ d (.iter kk vk m [])) else False
   |.rmap kk vk m=>if kk.keyk=true/\vk.one=true then K (.box d 0) (s.make d (.iter kk vk m [])) else False
   |_=>False)
  |_=>False
 |.ext (.nextMap x)=>match ev x with
  |.box o f=>(match Qa s.own o with
   |.iter kk vk m dn=>if f=0/\kk.keyk=true then ((∀ r:Nat,r<m.length->r∈dn)->K (.tup [.val .bo false]) s)/\∀ r:Nat,r<m.length->r∉dn->K (.tup [.val .bo true,.any,.any]) ⟨s.env,oset s.own o (.iter kk vk m (dn++[r])),s.nx⟩ else False
   |_=>False)
  |_=>False
 |.ext (.unsafeStr e x n)=>match ev x,asI (ev n) with
  |.nilP,some (.i64,k)=>G4 [] [k=0] (K (.val .st []) s)
  |.dd o .dat,some (.i64,k)=>(match Qa s.own o with
   |.lst ty (.i .u8) xs _=>if ty=e then G4 [] [k=xs.length,xs.length<=4611686018427387904] (K (.val .st (U8 xs)) (s.make o .dead)) else False
   |_=>False)
  |_,_=>False
 |_=>False
def Q0a (q:Option Nat) (ty:Nat):Bool:=match q with|some t=>Nat.beq t ty|none=>true
def KA (own:Own):(q:Option Nat)->(k:Kind)->List SV->Option (k.T×List Nat)
 |q,.list k,[v]=>(match v with
  |.nilS=>some ([],[])
  |.lst e=>(match Qa own e with
   |.lst ty _ xs _=>bif Q0a q ty&&k.flat then (YM xs k).map λxs=>(xs,[e]) else none
   |_=>none)
  |.dd e .out=>(match Qa own e with
   |.deep ty _ _ xs _ none=>bif Q0a q ty then (YM xs k).map λxs=>(xs,[e]) else none
   |_=>none)
  |_=>none)
 |_,.pair a b,l=>(match KA own none a (l.take a.size),KA own none b (l.drop a.size) with
  |some (x,m),some (y,n)=>some ((x,y),m++n)
  |_,_=>none)
 |_,.i ik,l=>(GV (.i ik) l).map λx=>(x,[])
 |_,.bo,l=>(GV .bo l).map λx=>(x,[])
 |_,.st,l=>(GV .st l).map λx=>(x,[])
 |_,.list _,_=>none
def Ew:List Nat->Bool
 |[]=>true
 |a::l=>l.all (λb=>!(Nat.beq a b))&&Ew l
mutual
def SV.stale (o:Nat):SV->SV
 |.dd o' w=>bif Nat.beq o' o then (match w with|.out=>.dd o' .out|.el i off sz=>.dd o' (.el i off sz)|_=>.any) else .dd o' w
 |.grd gs v=>.grd gs (SV.stale o v)
 |.agg l=>.agg (SVs.stale o l)
 |.tup l=>.tup (SVs.stale o l)
 |.cp l off=>.cp (SVs.stale o l) off
 |.fn f a b=>.fn f (SVs.stale o a) (SVs.stale o b)
 |.lst o'=>bif Nat.beq o' o then .any else .lst o'
 |.sub o' lo n sz=>bif Nat.beq o' o then .any else .sub o' lo n sz
 |.elp o' i off sz=>bif Nat.beq o' o then .any else .elp o' i off sz
 |.box o' off=>bif Nat.beq o' o then .any else .box o' off
 |.map o'=>bif Nat.beq o' o then .any else .map o'
 |.any=>.any
 |.val k x=>.val k x
 |.bid n c=>.bid n c
 |.nilS=>.nilS
 |.nilP=>.nilP
 |.nilM=>.nilM
 |.nilF=>.nilF
 |.rop k l i off=>.rop k l i off
 |.pf ks r cu p=>.pf ks r cu p
def SVs.stale (o:Nat):List SV->List SV
 |[]=>[]
 |s::ss=>SV.stale o s::SVs.stale o ss
end
def OB.stale (o:Nat):OB->OB
 |.cells l u=>.cells (SVs.stale o l) u
 |.stk l vals=>.stk (SVs.stale o l) vals
 |.lpf l q s=>.lpf (SVs.stale o l) q s
 |.dead=>.dead
 |.lst ty k xs nl=>.lst ty k xs nl
 |.map kk vk m=>.map kk vk m
 |.deep ty q k xs nl h=>.deep ty q k xs nl h
 |.iter kk vk m dn=>.iter kk vk m dn
 |.rmap kk vk m=>.rmap kk vk m
 |.siter l pos=>.siter l pos
 |.mapE kk vk m key n=>.mapE kk vk m key n
 |.fm ik l=>.fm ik l
def CB (o:Nat):Own->Own
 |[]=>[]
 |(k,b)::r=>(k,b.stale o)::CB o r
def St.dput (s:St) (o:Nat) (b:OB):St:=⟨SVs.stale o s.env,oset (CB o s.own) o b,s.nx⟩
def St.kills (s:St):List Nat->St
 |[]=>s
 |o::r=>(s.make o .dead).kills r
def gnd (C:Cx) (d:Nat) (o:VOp) (ev:Operand->SV) (s:St) (K:SV->St->Prop):Prop :=
 match o with
 |.buildSlice e z n parts=>(match Qp C.kt e.ty with
  |some k=>if k.size=e.sz/\Xj k z=true then (match n,parts with
   |0,[]=>K (.dd d .out) (s.make d (.deep e.ty (Qp C.el e.ty) k [] false none))
   |1,[(0,x)]=>(match Y6 (ev x) with
    |some l=>(match KA s.own (Qp C.el e.ty) k l with
     |some (x,mv)=>bif Ew (d::mv) then K (.dd d .out) ((s.kills mv).make d (.deep e.ty (Qp C.el e.ty) k [x] false none)) else False
     |none=>False)
    |none=>False)
   |_,_=>False) else False
  |none=>False)
 |.makeSlice e bytes z l c=>(match Qp C.kt e.ty,asI (ev l),asI (ev c) with
  |some k,some (_,a),some (_,b)=>if k.size=e.sz/\Xj k z=true then
    G4 [] [0<=a,a<=b,b*bytes<=70368744177664,b<=70368744177664] (K (.dd d .out) (s.make d (.deep e.ty (Qp C.el e.ty) k (List.replicate a.toNat k.dflt) false none))) else False
  |_,_,_=>False)
 |.append e bytes x y=>(match ev x,ev y with
  |.nilS,.dd b .out=>(match Qa s.own b with
   |.deep ty q k ys _ none=>if ty=e.ty/\k.size=e.sz then bif Ew [d,b] then G4 [] [ys.length*bytes<=70368744177664] (K (.dd d .out) ((s.kills [b]).make d (.deep ty q k ys ys.isEmpty none))) else False else False
   |_=>False)
  |.dd o .out,.dd b .out=>(match Qa s.own o,Qa s.own b with
   |.deep ty q k xs nl none,.deep fy q' _k' ys _ none=>if ty=e.ty/\fy=e.ty/\k.size=e.sz/\q=q' then (match YM ys k with
    |some ys=>bif Ew [o,b] then G4 [] [(xs.length+ys.length)*bytes<=70368744177664] (K (.dd o .out) ((s.kills [b]).make o (.deep ty q k (xs++ys) (ys.isEmpty&&nl) none))) else False
    |none=>False) else False
   |_,_=>False)
  |.dd o (.row _kr _ i),y=>(match Qa s.own o with
   |.deep ty q k xs nl none=>(match k with
    |.list k'=>if q=some e.ty/\k'.size=e.sz then (match view s.own k' y with
     |some ys=>bif k'.flat&&Ew [o,d] then G4 [] [((xs.getD i.toNat []).length+ys.length)*bytes<=70368744177664,ys≠[]] (K (.lst d) ((s.dput o (.deep ty q (.list k') xs nl (some i.toNat))).make d (.lst e.ty k' (xs.getD i.toNat []++ys) false))) else False
     |none=>False) else False
    |_=>False)
   |_=>False)
  |_,_=>False)
 |.store size a v=>(match ev a,Y6 (ev v) with
  |.dd o (.el i off sz),some vs=>(match Qa s.own o with
   |.deep ty q k xs nl h=>if off=0/\size=k.size/\sz=k.size then (match KA s.own q k vs with
    |some (x,mv)=>bif Ew (o::mv) then
      (match h with
      |none=>K .any ((s.kills mv).dput o (.deep ty q k (xs.set i.toNat x) nl none))
      |some j=>i.toNat=j/\K .any ((s.kills mv).dput o (.deep ty q k (xs.set i.toNat x) nl none))) else False
    |none=>False) else False
   |_=>False)
  |.dd o (.rowp kr _ i j off),some vs=>(match Qa s.own o with
   |.deep ty q (.list k) xs nl none=>if off=0/\size=k.size/\kr=k/\k.flat=true then (match GV k vs with
    |some x=>K .any (s.dput o (.deep ty q (.list k) (xs.set i.toNat ((xs.getD i.toNat []).set j.toNat x)) nl none))
    |none=>False) else False
   |_=>False)
  |_,_=>False)
 |_=>False
def SV.thing:SV->List Nat
 |.lst o=>[o]
 |.dd o _=>[o]
 |_=>[]
def TS (l:List SV):List Nat:=l.flatMap SV.thing
def X2 (d:Nat) (o:VOp) (ev:Operand->SV):List Nat:=d::(match o with
 |.buildSlice _ _ _ parts=>parts.flatMap λp=>(match Y6 (ev p.2) with|some l=>TS l|none=>[])
 |.append _ _ x y=>SV.thing (ev x)++SV.thing (ev y)
 |.store _ a v=>SV.thing (ev a)++(match Y6 (ev v) with|some l=>TS l|none=>[])
 |_=>[])
def SA (C:Cx) (d:Nat) (o:VOp) (ev:Operand->SV):Bool :=
 match o with
 |.buildSlice e _ _ _=>(match Qp C.kt e.ty with|some k=>!k.flat&&!(C.raw.contains d)|none=>false)
 |.makeSlice e _ _ _ _=>(match Qp C.kt e.ty with|some k=>!k.flat&&!(C.raw.contains d)|none=>false)
 |.append _ _ x y=>(match ev x with
  |.dd _ _=>true
  |_=>(match ev y with|.dd _ .out=>true|_=>false))
 |.store _ a _=>(match ev a with|.dd _ _=>true|_=>false)
 |_=>false
mutual
def SV.frz (o:Nat) (k:Kind) (xs:List k.T):SV->SV
 |.lst o'=>bif Nat.beq o' o then .val (.list k) xs else .lst o'
 |.sub o' lo n sz=>bif Nat.beq o' o then .any else .sub o' lo n sz
 |.elp o' i off sz=>bif Nat.beq o' o then .any else .elp o' i off sz
 |.dd o' w=>bif Nat.beq o' o then .any else .dd o' w
 |.box o' off=>bif Nat.beq o' o then .any else .box o' off
 |.map o'=>bif Nat.beq o' o then .any else .map o'
 |.grd gs v=>.grd gs (SV.frz o k xs v)
 |.agg l=>.agg (SVs.frz o k xs l)
 |.tup l=>.tup (SVs.frz o k xs l)
 |.cp l off=>.cp (SVs.frz o k xs l) off
 |.fn f a b=>.fn f (SVs.frz o k xs a) (SVs.frz o k xs b)
 |.any=>.any
 |.val k x=>.val k x
 |.bid n c=>.bid n c
 |.nilS=>.nilS
 |.nilP=>.nilP
 |.nilM=>.nilM
 |.nilF=>.nilF
 |.rop k l i off=>.rop k l i off
 |.pf ks r cu p=>.pf ks r cu p
def SVs.frz (o:Nat) (k:Kind) (xs:List k.T):List SV->List SV
 |[]=>[]
 |s::ss=>SV.frz o k xs s::SVs.frz o k xs ss
end
def OB.frz (o:Nat) (k:Kind) (xs:List k.T):OB->OB
 |.cells l u=>.cells (SVs.frz o k xs l) u
 |.dead=>.dead
 |.lst ty k xs nl=>.lst ty k xs nl
 |.map kk vk m=>.map kk vk m
 |.stk l vals=>.stk (SVs.frz o k xs l) vals
 |.lpf l q s=>.lpf (SVs.frz o k xs l) q s
 |.deep ty q k xs nl h=>.deep ty q k xs nl h
 |.iter kk vk m dn=>.iter kk vk m dn
 |.rmap kk vk m=>.rmap kk vk m
 |.siter l pos=>.siter l pos
 |.mapE kk vk m key n=>.mapE kk vk m key n
 |.fm ik l=>.fm ik l
def Ot (o:Nat) (k:Kind) (xs:List k.T):Own->Own
 |[]=>[]
 |(j,b)::r=>bif Nat.beq j o then Ot o k xs r else (j,b.frz o k xs)::Ot o k xs r
def St.frz (s:St) (o:Nat):St:=match Qa s.own o with
 |.lst _ k xs _=>⟨SVs.frz o k xs s.env,Ot o k xs s.own,s.nx⟩
 |_=>s
def St.frzs (s:St):List Nat->St
 |[]=>s
 |o::r=>(s.frz o).frzs r
def Xt:List SV->List Nat
 |[]=>[]
 |s::r=>(match s with|.lst o=>o::Xt r|_=>Xt r)
def Q1b (C:Cx) (d:Nat) (o:VOp) (ev:Operand->SV) (own:Own):List Nat:=match o with
 |.store _ a v=>(match ev a with
  |.elp q _ _ _=>(match Qa own q with
   |.lst _ k _ _=>bif k.flat then [] else (match Y6 (ev v) with|some l=>Xt l|none=>[])
   |_=>[])
  |.box _ _=>bif C.raw.contains 2999999 then (match Y6 (ev v) with|some l=>Xt l|none=>[]) else []
  |_=>[])
 |.buildSlice e _ _ parts=>(match Qp C.kt e.ty with
  |some k=>bif k.flat||!(C.raw.contains d) then [] else parts.flatMap λp=>(match Y6 (ev p.2) with|some l=>Xt l|none=>[])
  |none=>[])
 |.move x=>bif C.raw.contains (2000000+d) then Xt [ev x] else []
 |.box _ v=>bif C.raw.contains 2999999 then (match Y6 (ev v) with|some l=>Xt l|none=>[]) else []
 |_=>[]
def Gp (s:St) (j:Nat) (want:Bool):Option (List Gd×St) :=
 match s.env.getD j .any with
 |.val .bo c=>some ([⟨s.nx,want,c⟩],⟨s.env.set j (.bid s.nx c),s.own,s.nx+1⟩)
 |.bid n c=>some ([⟨n,want,c⟩],s)
 |.grd gs (.val .bo c)=>some (gs++[⟨s.nx,want,c⟩],⟨s.env.set j (.grd gs (.bid s.nx c)),s.own,s.nx+1⟩)
 |.grd gs (.bid n c)=>some (gs++[⟨n,want,c⟩],s)
 |_=>none
def gqc (C:Cx) (raw:Bool) (o:VOp) (ev:Operand->SV) (own:Own):Option (List Prop×SV) :=
 match o with
 |.callF f args=>match Yq C.cs (.fn f [] []) (Pj own (args.map ev)) with
  |some (c,v,[])=>bif v.ret 0 then some ([c],v) else none
  |_=>none
 |.callV f args=>match Yq C.cs ((Pj own [ev f]).getD 0 .any) (Pj own (args.map ev)) with
  |some (c,v,[])=>bif v.ret 0 then some ([c],v) else none
  |_=>none
 |o=>gq C.kt raw o ev own
def CM (nt:Nat):Option (Prop×SV×List OB)->Option (Prop×SV)
 |some (c,v,bs)=>(match v,bs with
  |.lst 0,[.lst _ k xs _]=>bif k.flat&&Nat.blt 0 nt then some (c,.val (.list k) xs) else none
  |_,_=>none)
 |none=>none
def Rt (C:Cx) (o:VOp) (ev:Operand->SV) (own:Own):Option (Prop×SV) :=
 match o with
 |.callF f args=>CM C.nt (Yq C.cs (.fn f [] []) (Pj own (args.map ev)))
 |.callV f args=>CM C.nt (Yq C.cs ((Pj own [ev f]).getD 0 .any) (Pj own (args.map ev)))
 |.buildSlice e z n parts=>(match Qp C.kt e.ty with
  |some k=>if k.size=e.sz/\Xj k z=true/\k.flat=true then (match S6 k ev parts (List.replicate n k.dflt) with
   |some xs=>some (True,.val (.list k) xs)
   |none=>none) else none
  |none=>none)
 |_=>none
def RN (env:List SV) (x:Operand):Option Bool:=match x with
 |.tmp j=>(match env.getD j .any with
  |.grd gs v=>(match gs with
   |[]=>(match v with
    |.val k x=>(match k,x with|.bo,b=>some b|_,_=>none)
    |_=>none)
   |_=>none)
  |_=>none)
 |_=>none
def F9 (env:List SV) (g:Option (Nat×Bool)):Option Bool:=match g with
 |none=>none
 |some (j,want)=>(match RN env (.tmp j) with
  |some b=>some (b==want)
  |none=>none)
def Q07 (gs:List Gd) (env:List SV) (c a b:Operand):Option SV :=
 match gev gs env c with
 |.bid n t =>
  match a,b with
  |.const (.bool true),b=>(asB (gev (gs++[⟨n,false,t⟩]) env b)).map λy=>.val .bo (t||y)
  |a,.const (.bool false)=>(asB (gev (gs++[⟨n,true,t⟩]) env a)).map λx=>.val .bo (t&&x)
  |a,b=>match gev (gs++[⟨n,true,t⟩]) env a,gev (gs++[⟨n,false,t⟩]) env b with
   |.val (.i k) x,.val (.i k') y=>if k=k' then some (.val (.i k) (if t then x else y)) else none
   |.val .bo x,.val .bo y=>some (.val .bo (if t then x else y))
   |_,_=>none
 |_=>none
def AY (gs:List Gd) (env:List SV) (c a b:Operand):Option SV:=match RN env c with
 |some t=>some (bif t then gev gs env a else gev gs env b)
 |none=>Q07 gs env c a b
def EP:VOp->Bool
 |.alloc ..|.box ..|.buildSlice ..|.makeSlice ..|.append ..|.store ..|.callF ..|.callV ..=>false
 |.ext (.makeMap)|.ext (.mapUpdate ..)|.ext (.delete ..)|.ext (.mapEntry ..)|.ext (.entryStore ..)|.ext (.copy ..)|.ext (.clear ..)|.ext (.unsafeStr ..)|.ext (.strBytes ..)|.ext (.rangeMap _)|.ext (.nextMap _)|.ext (.rangeStr _)|.ext (.nextStr _)=>false
 |_=>true
def NV:SV->SV
 |.bid _ c=>.val .bo c
 |v=>v
def Q2i (o:VOp):Option (Nat×Nat×(Nat->VOp)):=match o with
 |.indexAddrArr len size x (.tmp t)=>some (len,t,λn=>.indexAddrArr len size x (.const (.int .i64 (Int.ofNat n))))
 |.indexArr len agg size x (.tmp t)=>some (len,t,λn=>.indexArr len agg size x (.const (.int .i64 (Int.ofNat n))))
 |_=>none
def A6 (j:Int) (f:Nat->Prop):Nat->Nat->Prop
 |0,_=>True
 |n+1,i=>(j=(i:Int)->f i)/\A6 j f n (i+1)
def Q6w (C:Cx) (o:VOper) (s:St) (K:St->Prop):Prop :=
 (match o.op with
 |.pick c a b=>match AY [] s.env c a b with
  |some v=>gnm C (.pick c a b) (gev [] s.env) v λv=>K (s.put o.dst v)
  |none=>False
 |op=>bif EP op then (match gq C.kt (C.raw.contains (o.dst.getD 0)) op (gev [] s.env) s.own with
   |some (cs,v)=>G4 [] cs (gnm C op (gev [] s.env) v λv=>K (s.put o.dst v))
   |none=>False)
  else (match op with
   |.ext .makeMap=>(match Qp C.kt (1000000+o.dst.getD 0) with
    |some (.pair kk vk)=>K ((s.make (C.off+o.dst.getD 0) (.map kk vk [])).put o.dst (.map (C.off+o.dst.getD 0)))
    |some (.i ik)=>K ((s.make (C.off+o.dst.getD 0) (.fm ik [])).put o.dst (.map (C.off+o.dst.getD 0)))
    |_=>False)
   |op=>bif SA C (o.dst.getD 0) op (gev [] s.env) then gnd C (C.off+o.dst.getD 0) op (gev [] s.env) s λv s'=>K (s'.put o.dst v) else gn C (C.off+o.dst.getD 0) op (gev [] s.env) s λv s'=>K (s'.put o.dst v)))
def Q7g (C:Cx) (o:VOper) (s:St) (K:St->Prop):Prop :=
 match Q2i o.op with
 |some (len,i,f)=>(match asI (gev [] s.env (.tmp i)) with
  |some (_,j)=>0<=j/\j<(len:Int)/\A6 j (λn=>match gq C.kt (C.raw.contains (o.dst.getD 0)) (f n) (gev [] s.env) s.own with
   |some (cs,v)=>G4 [] cs (gnm C (f n) (gev [] s.env) v λv=>K (s.put o.dst v))
   |none=>False) len 0
  |none=>False)
 |none=>Q6w C o s K
def Q4n (C:Cx) (o:VOper) (s:St) (K:St->Prop):Prop :=
 match o.guard with
 |none=>Q7g C o (s.frzs (Q1b C (o.dst.getD 0) o.op (gev [] s.env) s.own)) K
 |some (j,want)=>match Gp s j want with
  |none=>False
  |some (gs,s)=>(match o.op with
   |.pick c a b=>match AY gs s.env c a b with
    |some v=>gnm C (.pick c a b) (gev gs s.env) v λv=>K (s.put o.dst (.grd gs (NV v)))
    |none=>False
   |op=>(match gqc C (C.raw.contains (o.dst.getD 0)) op (gev gs s.env) s.own with
    |some (cs,v)=>G4 gs cs (gnm C op (gev gs s.env) v λv=>K (s.put o.dst (.grd gs (NV v))))
    |none=>(match Rt C op (gev gs s.env) s.own with
     |some (c,v)=>G4 gs [c] (gnm C op (gev gs s.env) v λv=>K ((s.make (C.off+o.dst.getD 0) .dead).put o.dst (.grd gs v)))
     |none=>False)))
def gop (C:Cx) (o:VOper) (s:St) (K:St->Prop):Prop:=match F9 s.env o.guard with
 |some t=>bif t then Q4n C ⟨o.dst,o.op,none⟩ s K else K (s.put o.dst .any)
 |none=>Q4n C o s K
def Q1j (d:Nat) (s:St):Option St:=match s.env.getD d .any with
 |.box o off=>bif Nat.beq off 0 then (match Qa s.own o with
  |.cells l _=>some ⟨s.env.set d (.cp l 0),oset s.own o .dead,s.nx⟩
  |_=>none) else none
 |_=>none
def Q1m (raw:List Nat) (d:Nat) (s:St):Option St:=match raw.find? (λr=>Nat.beq (r / 1000) (4000+d)) with
 |some r=>(match Qa s.own (r % 1000) with
  |.map kk vk m=>some ⟨s.env,oset s.own (r % 1000) (.rmap kk vk m),s.nx⟩
  |_=>none)
 |none=>none
def Q4p (C:Cx) (d:Option Nat) (K:St->Prop) (s:St):Prop:=match d with
 |none=>K s
 |some d=>bif C.spl.contains d then (match asB (s.env.getD d .any) with
   |some t=>bif C.raw.contains (3000000+d) then (bif t then K (s.put (some d) (.grd [] (.val .bo true))) else K (s.put (some d) (.grd [] (.val .bo false))))
    else (t=true->K (s.put (some d) (.grd [] (.val .bo true))))/\(t=false->K (s.put (some d) (.grd [] (.val .bo false))))
   |none=>(match asI (s.env.getD d .any),C.raw.find? (λr=>Nat.beq (r / 64) (62500+d)) with
    |some (ik,x),some r=>1<=x/\x<=((r % 64:Nat):Int)/\A6 x (λn=>K (s.put (some d) (.val (.i ik) ((n:Nat):Int)))) (r % 64) 1
    |_,_=>(match Q1j d s with
     |some s'=>K s'
     |none=>(match Q1m C.raw d s with
      |some s'=>K s'
      |none=>False))))
  else K s
def Q4o (C:Cx):List VOper->St->(St->Prop)->Prop
 |[],s,K=>K s
 |o::r,s,K=>gop C o s (Q4p C o.dst λs'=>Q4o C r s' K)
def dv (o:DOper):VOper:=⟨o.dst,o.op,o.guard⟩
def Q0h (l:List DOper):Bool:=l.all λo=>!(o.kind==2)&&!(o.op.kind==2)
def gd1 (C:Cx) (o:DOper) (s:St) (K:St->Prop):Prop :=
 match o.guard with
 |none=>(match o.op with
  |.pick c a b=>(match AY [] s.env c a b with
   |some v=>gnm C (.pick c a b) (gev [] s.env) v λv=>K (s.put o.dst v)
   |none=>False)
  |op=>(match gq C.kt (C.raw.contains (o.dst.getD 0)) op (gev [] s.env) s.own with
   |some (cs,v)=>G4 [] cs (gnm C op (gev [] s.env) v λv=>K (s.put o.dst v))
   |none=>False))
 |some (j,want)=>(match Gp s j want with
  |none=>False
  |some (gs,s)=>(match o.op with
   |.pick c a b=>(match AY gs s.env c a b with
    |some v=>gnm C (.pick c a b) (gev gs s.env) v λv=>K (s.put o.dst (.grd gs (NV v)))
    |none=>False)
   |op=>(match gq C.kt (C.raw.contains (o.dst.getD 0)) op (gev gs s.env) s.own with
    |some (cs,v)=>G4 gs cs (gnm C op (gev gs s.env) v λv=>K (s.put o.dst (.grd gs (NV v))))
    |none=>False)))
def OB.wf:OB->Prop
 |.lst _ _ xs nl=>nl=true->xs=[]
 |_=>True
def EH:List OB->Prop->Prop
 |[],q=>q
 |b::r,q=>b.wf/\EH r q
def Ux (C:Cx) (d:Nat) (f:SV) (args:List SV) (s:St) (K:List Nat->SV->St->Prop):Prop :=
 match Yq C.cs f args with
 |some (c,v,bs)=>bif v.ret bs.length&&(bs.all OB.ret&&(Nat.blt 0 C.nt&&(bs.all OB.isL&&Yp v))) then c/\EH bs (K ((List.range bs.length).map λj=>d+j*C.nt) (v.ren d C.nt) (s.makes d C.nt 0 bs)) else False
 |none=>False
def H8:VOp->Bool
 |.alloc ..|.box ..|.buildSlice ..|.makeSlice ..=>true
 |_=>false
def QN (d:Nat) (o:VOp) (ev:Operand->SV):Nat:=match o with
 |.append _ _ x _=>(match ev x with|.lst q=>q|_=>d)
 |.store _ a _=>(match ev a with|.box q _=>q|.elp q _ _ _=>q|_=>d)
 |.ext (.mapUpdate _ m _ _)=>(match ev m with|.map q=>q|_=>d)
 |.ext (.delete _ m _)=>(match ev m with|.map q=>q|_=>d)
 |.ext (.mapEntry _ _ m _)=>(match ev m with|.map q=>q|_=>d)
 |.ext (.entryStore m _ _)=>(match ev m with|.map q=>q|_=>d)
 |.ext (.copy _ a _)=>(match ev a with|.lst q=>q|.sub q _ _ _=>q|_=>d)
 |.ext (.unsafeStr _ a _)=>(match ev a with|.dd q _=>q|_=>d)
 |_=>d
def OB.here:OB->Bool
 |.dead=>false
 |.stk _ _=>false
 |.deep _ _ _ _ _ _=>false
 |.iter _ _ _ _=>false
 |.rmap _ _ _=>false
 |.siter _ _=>false
 |.mapE _ _ _ _ _=>false
 |.lpf _ _ _=>false
 |.fm _ _=>false
 |_=>true
def stP:MK->Value->Bool
 |.agg [.int .i64,.int .i64],.int .i64 n=>n==0
 |_,_=>false
def V2 (o:VOp) (ev:Operand->SV) (own:Own):Option Nat:=match o with
 |.load _ _ a=>(match ev a with
  |.box q _=>bif (Qa own q).here then some (2*q) else none
  |.elp q _ _ _=>bif (Qa own q).here then some (2*q) else none
  |_=>none)
 |.ext (.lookup mk z false x _)=>bif stP mk z then (match ev x with
  |.map q=>(match Qa own q with|.map _ _ _=>some (2*q+1)|_=>none)
  |_=>none) else none
 |.slice _ x _ _ none=>(match ev x with
  |.lst q=>(match Qa own q with
   |.lst _ _ _ nl=>bif nl then none else some (2*q)
   |_=>none)
  |_=>none)
 |_=>none
def PR:VOp->Bool
 |.ext (.mapEntry mk z _ _)=>stP mk z
 |_=>false
def QW (A:List (Nat×Option Nat)) (j q:Nat):Bool:=A.all λa=>Nat.blt a.1 j||(match a.2 with|some t=>!(Nat.beq t q)|none=>false)
def Dx (A:List (Nat×Option Nat)) (j:Nat) (q:Option Nat):Bool:=match q with|some q=>QW A j (q / 2)|none=>false
def PH (R:List (Nat×Option Nat)) (hl t:Nat):Bool:=R.all λr=>Nat.blt r.1 hl||(match r.2 with|some q=>!(Nat.beq (q / 2) t)|none=>false)
def Se (R:List (Nat×Option Nat)) (hl t:Nat):Bool:=R.all λr=>Nat.blt r.1 hl||(match r.2 with|some q=>!(Nat.beq (q / 2) t)|none=>true)
def Q1y (R:List (Nat×Option Nat)) (hl t:Nat):Bool:=R.all λr=>Nat.blt r.1 hl||(match r.2 with|some q=>!(Nat.beq (q / 2) t)||Nat.beq (q % 2) 1|none=>false)
def Ea (mk:Bool) (R:List (Nat×Option Nat)) (hl:Nat) (ts:List Nat):Bool:=R.all λr=>Nat.blt r.1 hl||(match r.2 with|some q=>ts.all (λt=>!(Nat.beq (q / 2) t))|none=>mk)
def Q20 (o:VOp) (ev:Operand->SV):Bool:=match o with
 |.load _ _ a=>(match ev a with|.rop _ _ _ _=>true|.cp _ _=>true|_=>false)
 |_=>false
def Fy (s:St) (j:Nat) (want:Bool) (o:VOp):Bool:=match Gp s j want with
 |some (gs,s1)=>Q20 o (gev gs s1.env)
 |none=>false
def N7 (A:List (Nat×Option Nat)) (j:Nat):Bool:=A.all λa=>Nat.blt a.1 j||a.2.isSome
def Fk (C:Cx) (f:SV) (args:List SV):Option (List Prop×SV):=match Yq C.cs f args with
 |some (c,v,bs)=>(match v,bs with
  |.lst 0,[.lst _ k xs nl]=>bif k.flat&&Nat.blt 0 C.nt then some ([c,nl=true->xs=[]],.val (.list k) xs) else none
  |_,_=>none)
 |none=>none
def E0 (env:List SV) (o:DOper):DOper:=match F9 env o.guard with
 |some true=>{o with guard:=none}
 |_=>o
def Q3d (own:Own):SV->Option (List SV)
 |.box o off=>bif Nat.beq off 0 then (match Qa own o with|.cells l _=>some l|_=>none) else none
 |.cp l off=>bif Nat.beq off 0 then some l else none
 |_=>none
def Q03 (own:Own) (j:Nat):List SV->Option Nat
 |a::_=>(match Q3d own a with
  |some l=>(match l[j]? with
   |some (.map o)=>some o
   |_=>none)
  |none=>(match a with|.map o=>some o|_=>none))
 |[]=>none
def Cx.nx (C:Cx):Cx:={C with xs:=[]}
def Jw (C:Cx):List DOper->St->Nat->Nat->List (Nat×Option Nat)->List (Nat×Option Nat)->(St->Prop)->Prop
 |[],s,_,_,_,_,K=>K s
 |o0::r,s,hl,chg,A,R,K=>match F9 s.env o0.guard with
  |some false=>if o0.kind=2 then Jw C r (s.put o0.dst .any) (hl+1) chg A R K else Jw C r (s.put o0.dst .any) hl chg A R K
  |_=>(λo:DOper =>
  if o.kind=2 then
   (match o.op with
   |.callF f args=>(match o.guard with
    |none=>(match Qp C.xs f with
     |some x=>(match Qp C.xf f with
      |some j=>(match Q03 s.own j (args.map (gev [] s.env)) with
       |some t=>bif waits o.dst.toList r&&Ea false R hl [t] then
         x (C.off+o.dst.getD 0) (args.map (gev [] s.env)) s λv s'=>Jw C r (s'.put o.dst v) (hl+1) hl ((hl-1,some t)::A) R K else False
       |none=>False)
      |none=>bif waits o.dst.toList r&&R.all (λq=>Nat.blt q.1 hl) then
       x (C.off+o.dst.getD 0) (args.map (gev [] s.env)) s λv s'=>Jw C r (s'.put o.dst v) (hl+1) hl ((hl-1,none)::A) [] K
      else Ux C (C.off+o.dst.getD 0) (.fn f [] []) (Pj s.own (args.map (gev [] s.env))) s λts v s'=>Jw C r (s'.put o.dst v) (hl+1) (bif ts.isEmpty then chg else hl) (ts.map (λt=>(hl-1,some t))++A) (bif ts.isEmpty then R else R.map λr=>(r.1,none)) K)
     |none=>Ux C (C.off+o.dst.getD 0) (.fn f [] []) (Pj s.own (args.map (gev [] s.env))) s λts v s'=>Jw C r (s'.put o.dst v) (hl+1) (bif ts.isEmpty then chg else hl) (ts.map (λt=>(hl-1,some t))++A) (bif ts.isEmpty then R else R.map λr=>(r.1,none)) K)
    |some (j,want)=>(match Gp s j want with
     |none=>False
     |some (gs,s)=>(match gqc C false (.callF f args) (gev gs s.env) s.own with
      |some (cs,v)=>bif Yp v then G4 gs cs (gnm C (.callF f args) (gev gs s.env) v λv=>Jw C r (s.put o.dst (.grd gs (NV v))) (hl+1) chg A R K) else False
      |none=>(match Fk C (.fn f [] []) (Pj s.own (args.map (gev gs s.env))) with
       |some (cs,v)=>G4 gs cs (Jw C r ((s.make (C.off+o.dst.getD 0) .dead).put o.dst (.grd gs v)) (hl+1) hl ((hl-1,none)::A) (R.map λr=>(r.1,none)) K)
       |none=>False))))
   |.callV f args=>(match o.guard with
    |none=>Ux C (C.off+o.dst.getD 0) ((Pj s.own [gev [] s.env f]).getD 0 .any) (Pj s.own (args.map (gev [] s.env))) s λts v s'=>Jw C r (s'.put o.dst v) (hl+1) (bif ts.isEmpty then chg else hl) (ts.map (λt=>(hl-1,some t))++A) (bif ts.isEmpty then R else R.map λr=>(r.1,none)) K
    |some _=>False)
   |.ext (.rangeMap _)=>False
   |.ext (.nextMap _)=>False
   |.ext (.rangeStr _)=>False
   |.ext (.nextStr _)=>False
   |op=>(match o.guard with
    |none=>bif SA C (o.dst.getD 0) op (gev [] s.env) then
      (bif Ea (H8 op) R hl (X2 (C.off+o.dst.getD 0) op (gev [] s.env)) then
       gnd C (C.off+o.dst.getD 0) op (gev [] s.env) s λv s'=>Jw C r (s'.put o.dst v) (hl+1) hl ((X2 (C.off+o.dst.getD 0) op (gev [] s.env)).map (λt=>(hl-1,some t))++A) R K else False)
     else bif (H8 op&&Se R hl (QN (C.off+o.dst.getD 0) op (gev [] s.env)))||PH R hl (QN (C.off+o.dst.getD 0) op (gev [] s.env))||(PR op&&Q1y R hl (QN (C.off+o.dst.getD 0) op (gev [] s.env))) then
      gn C (C.off+o.dst.getD 0) op (gev [] s.env) s λv s'=>Jw C r (s'.put o.dst v) (hl+1) hl ((hl-1,some (QN (C.off+o.dst.getD 0) op (gev [] s.env)))::A) R K else False
    |some _=>False))
  else if o.kind=1 then
   (match o.guard with
   |none=>bif Q20 o.op (gev [] s.env)&&N7 A o.kmin then gd1 C o s λs'=>Jw C r s' hl chg A R K
    else bif Nat.ble chg o.kmin||Dx A o.kmin (V2 o.op (gev [] s.env) s.own) then gd1 C o s λs'=>Jw C r s' hl chg A ((o.kmax,V2 o.op (gev [] s.env) s.own)::R) K else False
   |some (j,want)=>bif Fy s j want o.op&&N7 A o.kmin then gd1 C o s λs'=>Jw C r s' hl chg A R K
    else bif Nat.ble chg o.kmin then gd1 C o s λs'=>Jw C r s' hl chg A ((o.kmax,none)::R) K else False)
  else gd1 C o s λs'=>Jw C r s' hl chg A R K) (E0 s.env o0)
inductive Src where
 |slot (j:Nat)
 |cell (t off:Nat)
 |key (k:Nat)
structure LoopAnn where
 E:Type
 D:Type
 sl:List Nat
 vs:E->D->List SV
 own:E->D->List (Nat×Src×OB)
def Q1x:List Nat->List SV->List (Nat×SV)
 |[],_=>[]
 |j::js,[]=>(j,.any)::Q1x js []
 |j::js,v::vs=>(j,v)::Q1x js vs
def LoopAnn.st (A:LoopAnn) (p:A.E) (d:A.D):List (Nat×SV):=Q1x A.sl (A.vs p d)
def LoopP {D:Type}(F:D->(D->Prop)->Prop) (d0:D):Prop :=
 ∃ (I:D->Prop) (μ:D->Nat),I d0/\∀ d,I d->F d λd'=>I d'/\μ d'<μ d
def Q85 (s:St) (mp:List (Nat×Option Nat)):Src->Option (Option Nat)
 |.slot j=>match s.env.getD j .any with
  |.lst a=>some (some a)
  |.sub a _ _ _=>some (some a)
  |.dd a _=>some (some a)
  |.box a _=>some (some a)
  |.map a=>some (some a)
  |.nilS=>some none
  |_=>none
 |.cell t off=>match Qp mp t with
  |some (some a)=>(match Qa s.own a with
   |.cells l _=>(match l.getD off .any with
    |.lst a=>some (some a)
    |.dd a _=>some (some a)
    |.box a _=>some (some a)
    |.map a=>some (some a)
    |.nilS=>some none
    |_=>none)
   |_=>none)
  |_=>none
 |.key k=>some (some k)
def Q2j (s:St):List (Nat×Src)->List (Nat×Option Nat)->Option (List (Nat×Option Nat))
 |[],mp=>some mp
 |(t,src)::r,mp=>match Q85 s mp src with
  |some (some a)=>if (mp.any λp=>p.2==some a)||(Qp mp t).isSome then none else Q2j s r (mp++[(t,some a)])
  |some none=>if (Qp mp t).isSome then none else Q2j s r (mp++[(t,none)])
  |none=>none
def KZ {k:Kind}(x:k.T) {k':Kind}(y:k'.T):Prop:=match FH y k with|some y=>y=x|none=>False
mutual
def SV.pure:SV->Bool
 |.lst _|.sub _ _ _ _|.elp _ _ _ _|.box _ _|.map _|.grd _ _|.bid _ _|.dd _ _=>false
 |.agg l=>SVs.pure l
 |.tup l=>SVs.pure l
 |.cp l _=>SVs.pure l
 |.fn _ a b=>SVs.pure a&&SVs.pure b
 |.any|.val _ _|.nilS|.nilP|.nilM|.nilF|.rop _ _ _ _|.pf _ _ _ _=>true
def SVs.pure:List SV->Bool
 |[]=>true
 |s::ss=>SV.pure s&&SVs.pure ss
end
mutual
def D4 (mp:List (Nat×Option Nat)):SV->SV->Prop
 |.any,_=>True
 |.val k x,v=>match v with
  |.val _k' y=>KZ x y
  |.bid _ c=>KZ (k:=k) x (k':=.bo) c
  |.nilS=>match k,x with|.list _,x=>x=[]|_,_=>False
  |_=>False
 |.lst t,v=>match v with
  |.lst a=>if Qp mp t=some (some a) then True else False
  |.nilS=>if Qp mp t=some none then True else False
  |_=>False
 |.box t off,v=>match v with
  |.box a dy=>if Qp mp t=some (some a)/\off=dy then True else False
  |_=>False
 |.map t,v=>match v with
  |.map a=>if Qp mp t=some (some a) then True else False
  |_=>False
 |.dd t w,v=>(match w with
  |.obx c=>(match v with
   |.nilP=>c=false
   |.box a f=>if Qp mp t=some (some a)/\f=0 then c=true else False
   |.dd a w'=>(match w' with|.obx c'=>if Qp mp t=some (some a) then c'=c else False|_=>False)
   |_=>False)
  |.yv=>(match v with
   |.dd a w'=>(match w' with|.yv=>if Qp mp t=some (some a) then True else False|_=>False)
   |_=>False)
  |.out=>(match v with
   |.dd a w'=>(match w' with|.out=>if Qp mp t=some (some a) then True else False|_=>False)
   |.nilS=>if Qp mp t=some none then True else False
   |_=>False)
  |_=>False)
 |.agg l,v=>match v with|.agg l'=>VT mp l l'|_=>False
 |.tup l,v=>match v with|.tup l'=>VT mp l l'|_=>False
 |.fn f a b,v=>match v with|.fn f' a' b'=>if f=f' then VT mp a a'/\VT mp b b' else False|_=>False
 |.nilS,v=>match v with|.nilS=>True|_=>False
 |.nilP,v=>match v with|.nilP=>True|_=>False
 |.nilM,v=>match v with|.nilM=>True|_=>False
 |.nilF,v=>match v with|.nilF=>True|_=>False
 |.cp l off,v=>bif SVs.pure l then .cp l off=v/\SVs.pure l=true else match v with|.cp l' dy=>if off=dy then VT mp l l' else False|_=>False
 |.pf ks r cu p,v=>.pf ks r cu p=v
 |.sub t lo n sz,v=>match v with
  |.sub a tX n' tY=>if Qp mp t=some (some a) then tX=lo/\n'=n/\tY=sz else False
  |_=>False
 |.elp _ _ _ _,_|.grd _ _,_|.bid _ _,_|.rop _ _ _ _,_=>False
def VT (mp:List (Nat×Option Nat)):List SV->List SV->Prop
 |[],l=>l=[]
 |s::ss,l=>match l with|v::vs=>D4 mp s v/\VT mp ss vs|[]=>False
end
def Ak (s:St) (mp:List (Nat×Option Nat)) (t:Nat) (b:OB):Prop :=
 match Qp mp t with
 |some (some a)=>(match b,Qa s.own a with
  |.dead,_=>True
  |.lst ty k xs nl,.lst fy k' bN gP=>if ty=fy then KZ (k:=.list k) xs (k':=.list k') bN/\gP=nl else False
  |.cells l u,.cells l' u'=>if u=u' then VT mp l l' else False
  |.map kk vk m,.map gQ kH m'=>if kk=gQ then KZ (k:=.list (.pair kk vk)) m (k':=.list (.pair gQ kH)) m' else False
  |.stk l vals,.stk l' kI=>vals=kI/\VT mp l l'
  |.lpf l q u,.lpf l' q' u'=>(match u,u' with|.rdy,.rdy=>q=q'/\VT mp l l'|.busy,.busy=>q=q'/\VT mp l l'|_,_=>False)
  |.iter kk vk m dn,.iter gQ kH m' rZ=>if kk=gQ then KZ (k:=.list (.pair kk vk)) m (k':=.list (.pair gQ kH)) m'/\rZ=dn else False
  |.rmap kk vk m,.rmap gQ kH m'=>if kk=gQ then KZ (k:=.list (.pair kk vk)) m (k':=.list (.pair gQ kH)) m' else False
  |.siter l pos,.siter l' pos'=>l=l'/\pos=pos'
  |.deep ty q k xs nl h,.deep fy q' k' bN gP h'=>if ty=fy/\q=q' then (match h,h' with|none,none=>KZ (k:=.list k) xs (k':=.list k') bN/\gP=nl|_,_=>False) else False
  |.fm ik l,.fm il l'=>if ik=il/\l=l' then True else False
  |_,_=>False)
 |some none=>(match b with
  |.lst _ _ xs nl=>xs=[]/\nl=true
  |.deep _ _ _ xs nl h=>(match h with|none=>xs=[]/\nl=true|some _=>False)
  |_=>False)
 |none=>False
def gmatch (s:St) (st:List (Nat×SV)) (ow:List (Nat×Src×OB)):Prop :=
 match Q2j s (ow.map λp=>(p.1,p.2.1)) [] with
 |some mp=>slots mp st/\obs mp ow
 |none=>False
 where
 slots (mp:List (Nat×Option Nat)):List (Nat×SV)->Prop
  |[]=>True
  |(j,v)::r=>D4 mp v (s.env.getD j .any)/\slots mp r
 obs (mp:List (Nat×Option Nat)):List (Nat×Src×OB)->Prop
  |[]=>True
  |(t,_,b)::r=>Ak s mp t b/\obs mp r
def QH (len:Nat) (st:List (Nat×SV)) (ow:List (Nat×Src×OB)):St :=
 ⟨st.foldl (λe p=>e.set p.1 p.2) (List.replicate len .any),ow.foldl (λo p=>oset o p.1 p.2.2) [],0⟩
def Q87:SV->SV
 |.bid _ c=>.val .bo c
 |.grd _ _=>.any
 |.elp _ _ _ _=>.any
 |.rop _ _ _ _=>.any
 |.dd o w=>(match w with|.out=>.dd o .out|.obx c=>.dd o (.obx c)|.yv=>.dd o .yv|_=>.any)
 |v=>v
def Q5l (jn:List Nat) (s:St):List (Nat×SV):=jn.map λj=>(j,Q87 (s.env.getD j .any))
def Q32:Own->List (Nat×Src×OB)
 |[]=>[]
 |(t,b)::r=>(match b with|.dead=>Q32 r|b=>(t,.key t,b)::Q32 r)
def MI (n:Nat) (s:St) (st:List (Nat×SV)) (ow:List (Nat×Src×OB)):Prop:=bif Nat.beq s.env.length n then gmatch s st ow else False
def Q1r (C:Cx):List (List DOper)->St->List (Nat×SV)->List (Nat×Src×OB)->Prop->Prop
 |[],_,_,_,Q=>Q
 |l::ls,s,st,ow,Q=>(Jw C.nx l s 1 0 [] [] λs'=>MI s.env.length s' st ow)/\Q1r C ls s st ow Q
def Tq (C:Cx):List DSeg->St->(St->Prop)->Prop
 |[],s,K=>K s
 |.one o::r,s,K=>gop C o s (Q4p C o.dst λs'=>Tq C r s' K)
 |.alts [l]::r,s,K=>bif Q0h l then Q4o C (l.map dv) s λs'=>Tq C r s' K else bif l.all (λo=>o.kind==o.op.kind) then Jw C l s 1 0 [] [] λs'=>Tq C r s' K else False
 |.alts (l::l2::ls)::r,s,K=>bif (l::l2::ls).all (λl=>l.all λo=>o.kind==o.op.kind) then
   Jw C.nx l s 1 0 [] [] λs0=>MI s.env.length s0 (Q5l C.jn s0) (Q32 s0.own)/\Q1r C (l2::ls) s (Q5l C.jn s0) (Q32 s0.own) (Tq C r (QH s.env.length (Q5l C.jn s0) (Q32 s0.own)) K) else False
 |.alts []::_,_,_=>False
def OG (R:St->Prop) (K:Exit->St->Prop):Exit->St->Prop
 |.normal,s=>R s
 |e,s=>K e s
def Fp (id:Nat) (K:Exit->St->Prop):Exit->St->Prop
 |.exit iz,s=>if iz=id then K .normal s else K (.exit iz) s
 |e,s=>K e s
def Q51:Own->Bool
 |[]=>true
 |(_,b)::r=>(match b with|.lpf _ _ .ret=>false|.lpf _ _ (.exit _)=>false|_=>true)&&Q51 r
def Q0k (A:LoopAnn) (p:A.E) (next:A.D->Prop) (K:Exit->St->Prop):Exit->St->Prop
 |.normal,s=>bif Q51 s.own then ∃ d,gmatch s (A.st p d) (A.own p d)/\next d else False
 |e,s=>K e s
def Q6r {D:Type}(F:(D->Prop)->Prop) (iV:D->Prop):Prop:=∃ I:D->Prop,F I/\∀ d,I d->iV d
def Q61 (L:List (Nat×LoopAnn)) (c:Operand):Option LoopAnn:=match c with
 |.tmp j=>Qp L (3000000+j)
 |_=>none
def Q0p (n:Nat) (A:LoopAnn) (p:A.E) (next:A.D->Prop) (K:Exit->St->Prop):Exit->St->Prop
 |.normal,s=>∃ d,MI n s (A.st p d) (A.own p d)/\next d
 |e,s=>K e s
def Q2c {D:Type}(m:Nat) (F:Nat->D->(D->Prop)->Prop) (iV:D->Prop) (d0:D):Prop :=
 ∃ I:Nat->D->Prop,I 0 d0/\(∀ k d,k<m->I k d->F k d λd'=>I (k+1) d')/\∀ d,I m d->iV d
def Q1f:St->List SV->Option (St×List SV)
 |s,[]=>some (s,[])
 |s,v::vs=>match v with
  |.box o 0=>(match Qa s.own o with
   |.cells l _=>bif SVs.pure l then (match Q1f ⟨s.env,oset s.own o .dead,s.nx⟩ vs with|some (s',r)=>some (s',.cp l 0::r)|none=>none) else none
   |_=>none)
  |v=>bif v.pure then (match Q1f s vs with|some (s',r)=>some (s',v::r)|none=>none) else none
def Lj (key:Nat) (vals:List Value) (s:St):St:=s.make key (.stk (SVs.kill key s.env) vals)
def NX:List SV->List Nat->List SV->List SV
 |env,p::ps,v::vs=>NX (env.set p v) ps vs
 |env,_,_=>env
def Im (key:Nat) (A:LoopAnn) (p:A.E) (vals:List Value) (next:A.D->Prop) (K:Exit->St->Prop) (e:Exit) (s:St):Prop :=
 match Qa s.own key with
 |.stk l vs=>vs=vals/\(match e with
  |.normal=>∃ d,gmatch ⟨l,s.own,s.nx⟩ (A.st p d) (A.own p d)/\next d
  |.ret=>K .ret ⟨l,s.own,s.nx⟩
  |.exit id=>K (.exit id) ⟨l,s.own,s.nx⟩
  |_=>False)
 |_=>False
def Q7q (o:Nat) (q:LpD) (s:St):St:=s.make o (.lpf (SVs.kill o s.env) q .rdy)
def gyK (o aH:Nat) (gA:List Value) (q:LpD) (K:SV->St->Prop) (e:Exit) (s:St):Prop :=
 match Qa s.own aH,Qa s.own o with
 |.stk l2 jA,.lpf l q' u=>(match u with
  |.busy=>jA=gA/\q'=q/\(match e with
   |.normal=>K (.val .bo true) ⟨l2,oset (oset s.own aH .dead) o (.lpf l q' .rdy),s.nx⟩
   |.ret=>K (.val .bo false) ⟨l2,oset (oset s.own aH .dead) o (.lpf l q' .ret),s.nx⟩
   |.exit id=>K (.val .bo false) ⟨l2,oset (oset s.own aH .dead) o (.lpf l q' (.exit id)),s.nx⟩
   |_=>False)
  |_=>False)
 |_,_=>False
def Q1e (o:Nat) (q:LpD) (K:Exit->St->Prop) (s:St):Prop :=
 match Qa s.own o with
 |.lpf l q' u=>(match u with
  |.busy=>False
  |.rdy=>q'=q/\K .normal ⟨l,oset s.own o .dead,s.nx⟩
  |.ret=>q'=q/\K .ret ⟨l,oset s.own o .dead,s.nx⟩
  |.exit id=>q'=q/\K (.exit id) ⟨l,oset s.own o .dead,s.nx⟩)
 |_=>False
def FL (o aH np:Nat) (q:LpD) (W:(Exit->St->Prop)->St->Prop) (ps:List Nat):YSp:=λargs s K =>
 match Qa s.own o with
 |.lpf l q' u=>(match u with
  |.rdy=>bif Nat.beq args.length np then q'=q/\∀ gA,W (gyK o aH gA q K) ⟨NX (SVs.kill aH l) ps (SVs.kill aH args),oset (Lj aH gA s).own o (.lpf (SVs.kill aH l) q' .busy),s.nx⟩ else False
  |_=>False)
 |_=>False
def gwp (C:Cx) (L:List (Nat×LoopAnn)):VCode->Nat->(Exit->St->Prop)->St->Prop
 |.skip,_,K,s=>K .normal s
 |.region ops,_,K,s=>Q4o C ops s λs'=>K .normal s'
 |.regionD aT,_,K,s=>Tq C aT s λs'=>K .normal s'
 |.seq a b,n,K,s=>gwp C L a n (OG (λs'=>gwp C L b n K s') K) s
 |.cond c a b,n,K,s=>match RN s.env c with
  |some t=>bif t then gwp C L a n K s else gwp C L b n K s
  |none=>(match asB (gev [] s.env c) with
   |some t=>(match Q61 L c with
    |some A=>∃ p:A.E,Q6r (λnext=>(t=true->gwp C L a n (Q0p s.env.length A p next K) s)/\(t=false->gwp C L b n (Q0p s.env.length A p next K) s)) (λd=>K .normal (QH s.env.length (A.st p d) (A.own p d)))
    |none=>(t=true->gwp C L a n K s)/\(t=false->gwp C L b n K s))
   |none=>False)
 |.block id b,_,K,s=>gwp C L b id (Fp id K) s
 |.loop b,n,K,s=>match Qp L n with
  |some A=>∃ (p:A.E) (d0:A.D),gmatch s (A.st p d0) (A.own p d0)/\LoopP (λd next=>gwp C L b n (Q0k A p next K) (QH s.env.length (A.st p d) (A.own p d))) d0
  |none=>False
 |.rangeF g ps a b,n,K,s=>match gev [] s.env g with
  |.fn f first dx=>(match Qp C.iy f with
   |some x=>∀ q:LpD,x (C.off+2000000+n) (SVs.kill (C.off+2000000+n) first++(.dd (C.off+2000000+n) .yv::SVs.kill (C.off+2000000+n) dx))
     (C.off+2000000+n,FL (C.off+2000000+n) (100000*(C.off+2000000+n+1)-1) ps.length q (λK' s'=>gwp C L a n (OG (λs3=>gwp C L b n K' s3) λ_ _=>False) s') ps)
     (Q7q (C.off+2000000+n) q s) (Q1e (C.off+2000000+n) q K)
   |none=>(match first with
   |[]=>(match Qp C.it f,Q1f s dx,Qp L n with
    |some it,some (s1,cz),some A=>(match it cz with
     |some (c,m,ar,xs)=>(bif Nat.beq ps.length ar then c/\∃ (p:A.E) (d0:A.D),gmatch s1 (A.st p d0) (A.own p d0) /\
      Q2c m (λk d next=>∀ vals,gwp C L a n (OG (λs3=>gwp C L b n (Im (2000000+n) A p vals next K) s3) λ_ _=>False)
       ⟨NX (Lj (2000000+n) vals (QH s.env.length (A.st p d) (A.own p d))).env ps (xs k),(Lj (2000000+n) vals (QH s.env.length (A.st p d) (A.own p d))).own,0⟩)
       (λd=>K .normal (QH s.env.length (A.st p d) (A.own p d))) d0 else False)
     |none=>False)
    |_,_,_=>False)
   |_=>False))
  |_=>False
 |.exit id,_,K,s=>K (.exit id) s
 |.ret,_,K,s=>K .ret s
 |.bad,_,_,_=>False
section
variable {P:Program}
theorem Z2 {a b:Nat}(h:¬ a=b):Nat.beq a b=false:=by
 grind [Nat.eq_of_beq_eq_true]
theorem PfRel.mono {B B':Heap}(hB:B.Le B') {ks:List Kind}{r:Kind}{cu:AT ks->Prop}{p:AT ks->r.T}{v:Value}(h:PfRel P B ks r cu p v):PfRel P B' ks r cu p v:=by obtain⟨g,first,cap,hv,hx⟩:=h;exact⟨g,first,cap,hv,λx hd U vs hs ha=>hx x hd U vs (hB.trans hs) ha⟩
theorem Oh {tb tb':Nat->Option Bool}(ht:∀ n c,tb n=some c->tb' n=some c) {v:SV}(h:gtb tb v):gtb tb' v:=by cases v<;>first|trivial|exact ht _ _ h
theorem IP {tb tb':Nat->Option Bool}{o:Nat}(ht:∀ n c,tb n=some c->tb' n=some c) {v:SV}(h:gtb tb v):gtb tb' (v.kill o):=by
 cases v
 case bid n c=>exact ht _ _ h
 all_goals (simp only[SV.kill];first|trivial|(split<;>trivial)|(cases Nat.beq _ _<;>trivial))
mutual
theorem SR.upd {B B':Heap}{pl pl':Nat->Value}{tb tb':Nat->Option Bool}{o:Nat}(hB:B.Le B') (ht:∀ n c,tb n=some c->tb' n=some c) (hp:∀ d,d≠o->pl' d=pl d) :
  ∀ (s:SV) (v:Value),SR P B pl tb s v->SR P B' pl' tb' (s.kill o) v
 |.any,_,_=>trivial
 |.val k x,v,h=>by simp only[SV.kill,SR] at h |-;exact KC.mono hB h
 |.bid n c,v,h=>by simp only[SV.kill,SR] at h |-;exact⟨h.1,ht _ _ h.2⟩
 |.grd gs s,v,h=>by simp only[SV.kill,SR] at h |-;exact⟨⟨λg hg=>ht _ _ (h.1.1 g hg),IP ht h.1.2⟩,λhg=>SR.upd hB ht hp s v (h.2.1 hg),h.2.2⟩
 |.nilS,v,h=>h
 |.nilP,v,h=>h
 |.nilM,v,h=>h
 |.nilF,v,h=>h
 |.lst o',v,h=>by
  by_cases e:o'=o
  .subst e;simp[SV.kill,SR]
  .simp only[SV.kill,Z2 e,cond_false];simp only[SR] at h |-;rw[hp _ e];exact h
 |.sub o' lo n sz,v,h=>by
  by_cases e:o'=o
  .subst e;simp[SV.kill,SR]
  .simp only[SV.kill,Z2 e,cond_false];simp only[SR] at h |-;rw[hp _ e];exact h
 |.elp o' i off sz,v,h=>by
  by_cases e:o'=o
  .subst e;simp[SV.kill,SR]
  .simp only[SV.kill,Z2 e,cond_false];simp only[SR] at h |-;rw[hp _ e];exact h
 |.box o' off,v,h=>by
  by_cases e:o'=o
  .subst e;simp[SV.kill,SR]
  .simp only[SV.kill,Z2 e,cond_false];simp only[SR] at h |-;rw[hp _ e];exact h
 |.map o',v,h=>by
  by_cases e:o'=o
  .subst e;simp[SV.kill,SR]
  .simp only[SV.kill,Z2 e,cond_false];simp only[SR] at h |-;rw[hp _ e];exact h
 |.dd o' w,v,h=>by
  by_cases e:o'=o
  .subst e;simp[SV.kill,SR]
  .simp only[SV.kill,Z2 e,cond_false];simp only[SR] at h |-;rw[hp _ e];exact h
 |.rop k l i off,v,h=>by simp only[SV.kill,SR] at h |-;obtain⟨b,o,c,e,wr,t,h1,h2,h3,h4,h5,h6⟩:=h;exact⟨b,o,c,e,wr,t,h1,h2,hB.2 _ _ h3,h4,h5,h6.mono λ_ _=>KC.mono hB⟩
 |.cp l off,v,h=>by simp only[SV.kill,SR] at h |-;obtain⟨b,c,e,wr,t,h1,h2,h3⟩:=h;exact⟨b,c,e,wr,t,hB.2 _ _ h1,h2,SRs.upd hB ht hp l c h3⟩
 |.agg l,v,h=>by simp only[SV.kill,SR] at h |-;obtain⟨cs,h1,h2⟩:=h;exact⟨cs,h1,SRs.upd hB ht hp l cs h2⟩
 |.tup l,v,h=>by simp only[SV.kill,SR] at h |-;obtain⟨cs,h1,h2⟩:=h;exact⟨cs,h1,SRs.upd hB ht hp l cs h2⟩
 |.fn f a b,v,h=>by simp only[SV.kill,SR] at h |-;obtain⟨x,y,h1,h2,h3⟩:=h;exact⟨x,y,h1,SRs.upd hB ht hp a x h2,SRs.upd hB ht hp b y h3⟩
 |.pf ks r cu p,v,h=>by simp only[SV.kill,SR] at h |-;exact h.mono hB
theorem SRs.upd {B B':Heap}{pl pl':Nat->Value}{tb tb':Nat->Option Bool}{o:Nat}(hB:B.Le B') (ht:∀ n c,tb n=some c->tb' n=some c) (hp:∀ d,d≠o->pl' d=pl d) :
  ∀ (s:List SV) (v:List Value),SRs P B pl tb s v->SRs P B' pl' tb' (SVs.kill o s) v
 |[],v,h=>h
 |s::ss,v,h=>by simp only[SVs.kill,SRs] at h |-;obtain⟨x,y,h1,h2,h3⟩:=h;exact⟨x,y,h1,SR.upd hB ht hp s x h2,SRs.upd hB ht hp ss y h3⟩
end
mutual
theorem SR.mono {B B':Heap}{pl:Nat->Value}{tb tb':Nat->Option Bool}(hB:B.Le B') (ht:∀ n c,tb n=some c->tb' n=some c) :
  ∀ (s:SV) (v:Value),SR P B pl tb s v->SR P B' pl tb' s v
 |.any,_,_=>trivial
 |.val k x,v,h=>by simp only[SR] at h |-;exact KC.mono hB h
 |.bid n c,v,h=>by simp only[SR] at h |-;exact⟨h.1,ht _ _ h.2⟩
 |.grd gs s,v,h=>by simp only[SR] at h |-;exact⟨⟨λg hg=>ht _ _ (h.1.1 g hg),Oh ht h.1.2⟩,λhg=>SR.mono hB ht s v (h.2.1 hg),h.2.2⟩
 |.nilS,v,h|.nilP,v,h|.nilM,v,h|.nilF,v,h=>by simp only[SR] at h |-;exact h
 |.lst _,v,h|.sub _ _ _ _,v,h|.elp _ _ _ _,v,h|.box _ _,v,h|.map _,v,h|.dd _ _,v,h=>by simp only[SR] at h |-;exact h
 |.rop k l i off,v,h=>by simp only[SR] at h |-;obtain⟨b,o,c,e,wr,t,h1,h2,h3,h4,h5,h6⟩:=h;exact⟨b,o,c,e,wr,t,h1,h2,hB.2 _ _ h3,h4,h5,h6.mono λ_ _=>KC.mono hB⟩
 |.cp l off,v,h=>by simp only[SR] at h |-;obtain⟨b,c,e,wr,t,h1,h2,h3⟩:=h;exact⟨b,c,e,wr,t,hB.2 _ _ h1,h2,SRs.mono hB ht l c h3⟩
 |.agg l,v,h=>by simp only[SR] at h |-;obtain⟨cs,h1,h2⟩:=h;exact⟨cs,h1,SRs.mono hB ht l cs h2⟩
 |.tup l,v,h=>by simp only[SR] at h |-;obtain⟨cs,h1,h2⟩:=h;exact⟨cs,h1,SRs.mono hB ht l cs h2⟩
 |.fn f a b,v,h=>by simp only[SR] at h |-;obtain⟨x,y,h1,h2,h3⟩:=h;exact⟨x,y,h1,SRs.mono hB ht a x h2,SRs.mono hB ht b y h3⟩
 |.pf ks r cu p,v,h=>by simp only[SR] at h |-;exact h.mono hB
theorem SRs.mono {B B':Heap}{pl:Nat->Value}{tb tb':Nat->Option Bool}(hB:B.Le B') (ht:∀ n c,tb n=some c->tb' n=some c) :
  ∀ (s:List SV) (v:List Value),SRs P B pl tb s v->SRs P B' pl tb' s v
 |[],v,h=>h
 |s::ss,v,h=>by simp only[SRs] at h |-;obtain⟨x,y,h1,h2,h3⟩:=h;exact⟨x,y,h1,SR.mono hB ht s x h2,SRs.mono hB ht ss y h3⟩
end
mutual
theorem SR.frz {B:Heap}{pl:Nat->Value}{tb:Nat->Option Bool}{o:Nat}{k:Kind}{xs:List k.T}(hk:KC B (.list k) xs [pl o]) :
  ∀ (s:SV) (v:Value),SR P B pl tb s v->SR P B pl tb (s.frz o k xs) v
 |.any,_,_=>trivial
 |.val k' x,v,h=>by simp only[SV.frz];exact h
 |.bid n c,v,h=>by simp only[SV.frz];exact h
 |.grd gs s,v,h=>by simp only[SV.frz,SR] at h |-;refine⟨⟨h.1.1,?_⟩,λhg=>SR.frz hk s v (h.2.1 hg),h.2.2⟩;have h2:=h.1.2;cases s<;>first|exact h2|trivial|(simp only[SV.frz];cases Nat.beq _ _<;>trivial)
 |.nilS,v,h|.nilP,v,h|.nilM,v,h|.nilF,v,h=>h
 |.lst o',v,h=>by
  by_cases e:o'=o
  .subst e;simp only[SV.frz,Nat.beq_refl,zh];simp only[SR] at h |-;rw[h.1];exact hk
  .simp only[SV.frz,Z2 e,cond_false];exact h
 |.sub o' lo n sz,v,h=>by
  simp only[SV.frz];cases Nat.beq o' o with
  |true=>trivial
  |false=>exact h
 |.elp o' i off sz,v,h=>by
  simp only[SV.frz];cases Nat.beq o' o with
  |true=>trivial
  |false=>exact h
 |.box o' off,v,h=>by
  simp only[SV.frz];cases Nat.beq o' o with
  |true=>trivial
  |false=>exact h
 |.map o',v,h=>by
  simp only[SV.frz];cases Nat.beq o' o with
  |true=>trivial
  |false=>exact h
 |.dd o' w,v,h=>by
  simp only[SV.frz];cases Nat.beq o' o with
  |true=>trivial
  |false=>exact h
 |.rop k l i off,v,h=>by simp only[SV.frz];exact h
 |.cp l off,v,h=>by simp only[SV.frz,SR] at h |-;obtain⟨b,c,e,wr,t,h1,h2,h3⟩:=h;exact⟨b,c,e,wr,t,h1,h2,SRs.frz hk l c h3⟩
 |.agg l,v,h=>by simp only[SV.frz,SR] at h |-;obtain⟨cs,h1,h2⟩:=h;exact⟨cs,h1,SRs.frz hk l cs h2⟩
 |.tup l,v,h=>by simp only[SV.frz,SR] at h |-;obtain⟨cs,h1,h2⟩:=h;exact⟨cs,h1,SRs.frz hk l cs h2⟩
 |.fn f a b,v,h=>by simp only[SV.frz,SR] at h |-;obtain⟨x,y,h1,h2,h3⟩:=h;exact⟨x,y,h1,SRs.frz hk a x h2,SRs.frz hk b y h3⟩
 |.pf ks r cu p,v,h=>by simp only[SV.frz];exact h
theorem SRs.frz {B:Heap}{pl:Nat->Value}{tb:Nat->Option Bool}{o:Nat}{k:Kind}{xs:List k.T}(hk:KC B (.list k) xs [pl o]) :
  ∀ (s:List SV) (v:List Value),SRs P B pl tb s v->SRs P B pl tb (SVs.frz o k xs s) v
 |[],v,h=>h
 |s::ss,v,h=>by simp only[SVs.frz,SRs] at h |-;obtain⟨x,y,h1,h2,h3⟩:=h;exact⟨x,y,h1,SR.frz hk s x h2,SRs.frz hk ss y h3⟩
end
theorem SRs.length {B:Heap}{pl:Nat->Value}{tb:Nat->Option Bool}:∀ {s:List SV}{v:List Value},SRs P B pl tb s v->s.length=v.length
 |[],v,h=>by simp only[SRs] at h;subst h;rfl
 |s::ss,v,h=>by simp only[SRs] at h;obtain⟨x,y,rfl,_,h3⟩:=h;simp[SRs.length h3]
theorem SRs.get {B:Heap}{pl:Nat->Value}{tb:Nat->Option Bool}:∀ {s:List SV}{v:List Value},SRs P B pl tb s v->∀ {i:Nat}{a:SV},s[i]?=some a->∃ c,v[i]?=some c/\SR P B pl tb a c
 |[],v,h,i,a,hi=>by simp at hi
 |s::ss,v,h,i,a,hi=>by
  simp only[SRs] at h;obtain⟨x,y,rfl,h2,h3⟩:=h;cases i with
  |zero=>simp at hi;subst hi;exact⟨x,rfl,h2⟩
  |succ i=>simp at hi;simpa using SRs.get h3 hi
theorem SRs.of {B:Heap}{pl:Nat->Value}{tb:Nat->Option Bool}:∀ {s:List SV}{v:List Value},s.length=v.length->(∀ (i:Nat) (a:SV) (c:Value),s[i]?=some a->v[i]?=some c->SR P B pl tb a c)->SRs P B pl tb s v
 |[],v,hl,_=>by simp only[SRs];grind
 |s::ss,[],hl,_=>by simp at hl
 |s::ss,x::y,hl,h=>by simp only[SRs];exact⟨x,y,rfl,h 0 s x rfl rfl,SRs.of (by simpa using hl) λi a c ha hc=>h (i+1) a c (by simpa using ha) (by simpa using hc)⟩
theorem SRs.getD {B:Heap}{pl:Nat->Value}{tb:Nat->Option Bool}{s:List SV}{v:List Value}(h:SRs P B pl tb s v) (i:Nat) (d:Value):SR P B pl tb (s.getD i .any) (v.getD i d):=by
 by_cases hi:i<s.length
 .obtain⟨c,h1,h2⟩:=h.get (z8 hi);simp_all
 .rw[ze,zI (by omega)];simp[SR]
theorem SRs.set {B:Heap}{pl:Nat->Value}{tb:Nat->Option Bool}{s:List SV}{v:List Value}(h:SRs P B pl tb s v) (i:Nat) {a:SV}{c:Value}(ha:SR P B pl tb a c):SRs P B pl tb (s.set i a) (v.set i c):=by
 refine SRs.of (by simp[h.length]) λj a' c' h1 h2=>?_;rw[xE] at h1 h2;by_cases cB:i=j
 .simp_all
 .simp only[cB,if_false] at h1 h2;obtain⟨c,h3,h4⟩:=h.get h1;simp_all
theorem SRs.append {B:Heap}{pl:Nat->Value}{tb:Nat->Option Bool}:∀ {s:List SV}{v:List Value}{s':List SV}{v':List Value},SRs P B pl tb s v->SRs P B pl tb s' v'->SRs P B pl tb (s++s') (v++v')
 |[],v,s',v',h,h'=>by simp only[SRs] at h;subst h;exact h'
 |s::ss,v,s',v',h,h'=>by simp only[SRs,xw] at h |-;obtain⟨x,y,rfl,h2,h3⟩:=h;exact⟨x,y++v',rfl,h2,SRs.append h3 h'⟩
theorem SRs.take {B:Heap}{pl:Nat->Value}{tb:Nat->Option Bool}:∀ {s:List SV}{v:List Value},SRs P B pl tb s v->∀ n,SRs P B pl tb (s.take n) (v.take n)
 |[],v,h,n=>by simp only[SRs] at h;subst h;simp[SRs]
 |s::ss,v,h,0=>by simp[SRs]
 |s::ss,v,h,n+1=>by simp only[SRs] at h;obtain⟨x,y,rfl,h2,h3⟩:=h;simp only[xP,SRs];exact⟨x,_,rfl,h2,SRs.take h3 n⟩
theorem SRs.drop {B:Heap}{pl:Nat->Value}{tb:Nat->Option Bool}:∀ {s:List SV}{v:List Value},SRs P B pl tb s v->∀ n,SRs P B pl tb (s.drop n) (v.drop n)
 |[],v,h,n=>by simp only[SRs] at h;subst h;simp[SRs]
 |s::ss,v,h,0=>by simpa using h
 |s::ss,v,h,n+1=>by simp only[SRs] at h;obtain⟨x,y,rfl,h2,h3⟩:=h;simpa using SRs.drop h3 n
theorem SRs.map {B:Heap}{pl:Nat->Value}{tb:Nat->Option Bool}{α:Type}{f:α->SV}{g:α->Value}:∀ {l:List α},(∀ x∈l,SR P B pl tb (f x) (g x))->SRs P B pl tb (l.map f) (l.map g)
 |[],_=>by simp[SRs]
 |x::l,h=>by simp only[zS,SRs];exact⟨_,_,rfl,h x (by simp),SRs.map λy hy=>h y (by simp[hy])⟩
def OB.live:OB->Bool
 |.dead=>false
 |.stk _ _=>false
 |.lpf _ _ s=>s.live
 |.rmap _ _ _=>false
 |_=>true
def oid:Value->Option Nat
 |.slice (some a) _ _=>some a.block
 |.pointer (some a)=>some a.block
 |.map m=>m
 |_=>none
def Oid (p:Value) (i:Nat):Prop:=match p with
 |.tuple l=>∃ b,(Je (.tuple l)).get i=some b
 |v=>oid v=some i
theorem UO {p:Value}{i:Nat}(h:oid p=some i):Oid p i:=by cases p<;>first|exact h|cases h
theorem FM {p:Value}{n i:Nat}(hp:oid p=some n) (hi:Oid p i):i=n:=by cases p<;>first|exact osj (hi.symm.trans hp)|cases hp
def RowsH {α:Type}(R:α->List Value->List Nat->Prop) (sz:Nat) (h:Option Nat):Nat->List α->List Value->List Nat->Prop
 |_,[],cs,is=>cs=[]/\is=[]
 |j,x::xs,cs,is=>∃ c cs' i1 i2,cs=c++cs'/\is=i1++i2/\(if h=some j then c.length=sz/\i1=[] else R x c i1)/\RowsH R sz h (j+1) xs cs' i2
def DO (H:Heap) (ty:Nat) (q:Option Nat) (k:Kind) (xs:List k.T) (h:Option Nat) (v:Value) (is:List Nat):Prop :=
 (xs=[]/\v=.slice none 0 0/\is=[])\/∃ i cap c t js,v=.slice (some ⟨i,0,none⟩) xs.length cap/\is=i::js/\xs.length<=cap/\H.get i=some (.cells c ⟨k.size,ty⟩ true t)/\cap*k.size<=c.length /\
  RowsH (KO H q k) k.size h 0 xs (c.take (xs.length*k.size)) js
def DP (U:Heap) (p:Value) (ty:Nat) (q:Option Nat) (k:Kind) (xs:List k.T) (nl:Bool) (h:Option Nat):Prop :=
 ∃ is,(∀ i,Oid p i<->∃ b,(Je p).get i=some b)/\is.Nodup/\DO (Je p) ty q k xs h (phd p) is/\(∀ i,(∃ b,(Je p).get i=some b)<->i∈is)/\(∀ i b,(Je p).get i=some b->U.get i=some b)/\(nl=true<->phd p=.slice none 0 0)
theorem DP.mono {U U':Heap}{p:Value}{ty:Nat}{q:Option Nat}{k:Kind}{xs:List k.T}{nl:Bool}{h:Option Nat}(hd:DP U p ty q k xs nl h) (hg:∀ i,Oid p i->U'.get i=U.get i):DP U' p ty q k xs nl h:=by obtain⟨is,hO,h1,h2,h3,h4,h5⟩:=hd;exact⟨is,hO,h1,h2,h3,(by grind),h5⟩
def MR (B:Heap) (kk vk:Kind):List (kk.T×vk.T)->List ZZ->Prop
 |[],es=>es=[]
 |m::ms,es=>∃ e bC,es=e::bC/\KV B kk m.1 e.1/\KV B vk m.2 e.2.1/\MR B kk vk ms bC
def SOk (es:List ZZ) (clock:Nat):Prop:=(es.map λe=>e.2.2).Nodup/\∀ e∈es,e.2.2<clock
def MC (B:Heap) (kk vk:Kind) (m:List (kk.T×vk.T)) (es:List ZZ) (clock:Nat):Prop:=MR B kk vk m es/\SOk es clock
def DN (es:List ZZ) (dn seen:List Nat):Prop:=seen.length=dn.length/\∀ (t r:Nat),dn[t]?=some r->∃ e,es[r]?=some e/\seen[t]?=some e.2.2
def FR (ik:IntKind):List (Int×Nat)->List ZZ->Prop
 |[],es=>es=[]
 |e::r,es=>∃ st bC,es=(.int ik e.1,.func (.func e.2) #[] #[],st)::bC/\FR ik r bC
def OR (P:Program) (B:Heap) (pl:Nat->Value) (tb:Nat->Option Bool) (U:Heap) (p:Value):OB->Prop
 |.dead=>True
 |.lst ty k xs nl=>(nl=true/\xs=[]/\p=.slice none 0 0)\/(nl=false/\∃ i cap c t,p=.slice (some ⟨i,0,none⟩) xs.length cap/\xs.length<=cap/\U.get i=some (.cells c ⟨k.size,ty⟩ true t)/\cap*k.size<=c.length/\Rows (KC B k) xs (c.take (xs.length*k.size)))
 |.cells l u=>∃ i c e t,p=.pointer (some ⟨i,0,none⟩)/\U.get i=some (.cells c e true t)/\SRs P B pl tb l c/\(∀ y,u=some y->e.ty=y/\t=true)
 |.map kk vk m=>∃ i es clock,p=.map (some i)/\U.get i=some (.obj (.map es clock) true)/\MC B kk vk m es clock
 |.rmap kk vk m=>∃ i es clock wr,p=.map (some i)/\B.get i=some (.obj (.map es clock) wr)/\MC B kk vk m es clock
 |.siter l pos=>∃ j s,p=.pointer (some ⟨j,0,none⟩)/\U.get j=some (.obj (.siter s pos) true)/\s.data.toList=l
 |.iter kk vk m dn=>∃ j i es clock wr seen,p=.pointer (some ⟨j,0,none⟩)/\U.get j=some (.obj (.iter i clock seen clock) true)/\B.get i=some (.obj (.map es clock) wr)/\MC B kk vk m es clock/\DN es dn seen
 |.mapE kk vk m key n=>∃ i es clock,∃ r:Nat,∃ e:ZZ,p=.map (some i)/\U.get i=some (.obj (.map es clock) true)/\MC B kk vk m es clock/\es[r]?=some e/\KV B kk key e.1/\Qv e.1 es=some e/\(e.2.2:Int)=n/\∃ mk,gq.mkOk mk kk=true
 |.stk l vals=>SRs P B pl tb l vals
 |.deep ty q k xs nl h=>DP U p ty q k xs nl h
 |.fm ik l=>∃ i es clock,p=.map (some i)/\U.get i=some (.obj (.map es clock) true)/\FR ik l es
 |.lpf l q s=>p=.pointer (some ⟨q.i,0,none⟩)/\SRs P B pl tb l q.vals/\(s.live=true->U.get q.i=some (.obj (.lp q.vals q.r s.st s.pend) true))
theorem MR.mono {B B':Heap}(hB:B.Le B') {kk vk:Kind}:∀ {m:List (kk.T×vk.T)}{es:List ZZ},MR B kk vk m es->MR B' kk vk m es
 |[],es,h=>h
 |m::ms,es,h=>by obtain⟨e,bC,h1,h2,h3,h4⟩:=h;exact⟨e,bC,h1,h2.mono hB,h3.mono hB,h4.mono hB⟩
theorem MC.mono {B B':Heap}(hB:B.Le B') {kk vk:Kind}{m:List (kk.T×vk.T)}{es:List ZZ}{clock:Nat}(h:MC B kk vk m es clock):MC B' kk vk m es clock:=⟨h.1.mono hB,h.2⟩
theorem OR.upd {B B':Heap}{pl pl':Nat->Value}{tb tb':Nat->Option Bool}{o:Nat}(hB:B.Le B') (ht:∀ n c,tb n=some c->tb' n=some c) (hp:∀ d,d≠o->pl' d=pl d) {U U':Heap}{p:Value}{b:OB}
  (h:OR P B pl tb U p b) (hg:b.live=true->∀ i,Oid p i->U'.get i=U.get i):OR P B' pl' tb' U' p (b.kill o):=by
 cases b with
 |dead=>trivial
 |lst ty k xs nl =>
  rcases h with h|⟨h0,i,cap,c,t,h1,h2,h3,h4,h5⟩
  .exact .inl h
  .exact .inr ⟨h0,i,cap,c,t,h1,h2,by rw[hg rfl i (by rw[h1];rfl)];exact h3,h4,h5.mono λ_ _=>KC.mono hB⟩
 |cells l u =>obtain⟨i,c,e,t,h1,h2,h3,h4⟩:=h;exact⟨i,c,e,t,h1,by rw[hg rfl i (by rw[h1];rfl)];exact h2,SRs.upd hB ht hp l c h3,h4⟩
 |map kk vk m =>obtain⟨i,es,clock,h1,h2,h3⟩:=h;exact⟨i,es,clock,h1,by rw[hg rfl i (by rw[h1];rfl)];exact h2,h3.mono hB⟩
 |mapE kk vk m key n =>obtain⟨i,es,clock,r,e,h1,h2,h3,h4,h5,h6⟩:=h;exact⟨i,es,clock,r,e,h1,by rw[hg rfl i (by rw[h1];rfl)];exact h2,h3.mono hB,h4,h5.mono hB,h6⟩
 |fm ik l =>obtain⟨i,es,clock,h1,h2,h3⟩:=h;exact⟨i,es,clock,h1,by rw[hg rfl i (by rw[h1];rfl)];exact h2,h3⟩
 |stk l vals=>exact SRs.upd hB ht hp l vals h
 |deep ty q k xs nl hh=>exact DP.mono h (hg rfl)
 |iter kk vk m dn =>obtain⟨j,i,es,clock,wr,seen,h1,h2,h3,h4,h5⟩:=h;exact⟨j,i,es,clock,wr,seen,h1,by rw[hg rfl j (by rw[h1];rfl)];exact h2,hB.2 _ _ h3,h4.mono hB,h5⟩
 |rmap kk vk m =>obtain⟨i,es,clock,wr,h1,h2,h3⟩:=h;exact⟨i,es,clock,wr,h1,hB.2 _ _ h2,h3.mono hB⟩
 |siter l pos =>obtain⟨j,s,h1,h2,h3⟩:=h;exact⟨j,s,h1,by rw[hg rfl j (by rw[h1];rfl)];exact h2,h3⟩
 |lpf l q s=>exact⟨h.1,SRs.upd hB ht hp l q.vals h.2.1,λhl=>by rw[hg hl q.i (by rw[h.1];rfl)];exact h.2.2 hl⟩
theorem OR.mono {B B':Heap}{pl:Nat->Value}{tb tb':Nat->Option Bool}(hB:B.Le B') (ht:∀ n c,tb n=some c->tb' n=some c) {U U':Heap}{p:Value}{b:OB}
  (h:OR P B pl tb U p b) (hg:b.live=true->∀ i,Oid p i->U'.get i=U.get i):OR P B' pl tb' U' p b:=by
 cases b with
 |dead=>trivial
 |lst ty k xs nl =>
  rcases h with h|⟨h0,i,cap,c,t,h1,h2,h3,h4,h5⟩
  .exact .inl h
  .exact .inr ⟨h0,i,cap,c,t,h1,h2,by rw[hg rfl i (by rw[h1];rfl)];exact h3,h4,h5.mono λ_ _=>KC.mono hB⟩
 |cells l u =>obtain⟨i,c,e,t,h1,h2,h3,h4⟩:=h;exact⟨i,c,e,t,h1,by rw[hg rfl i (by rw[h1];rfl)];exact h2,SRs.mono hB ht l c h3,h4⟩
 |map kk vk m =>obtain⟨i,es,clock,h1,h2,h3⟩:=h;exact⟨i,es,clock,h1,by rw[hg rfl i (by rw[h1];rfl)];exact h2,h3.mono hB⟩
 |mapE kk vk m key n =>obtain⟨i,es,clock,r,e,h1,h2,h3,h4,h5,h6⟩:=h;exact⟨i,es,clock,r,e,h1,by rw[hg rfl i (by rw[h1];rfl)];exact h2,h3.mono hB,h4,h5.mono hB,h6⟩
 |fm ik l =>obtain⟨i,es,clock,h1,h2,h3⟩:=h;exact⟨i,es,clock,h1,by rw[hg rfl i (by rw[h1];rfl)];exact h2,h3⟩
 |stk l vals=>exact SRs.mono hB ht l vals h
 |deep ty q k xs nl hh=>exact DP.mono h (hg rfl)
 |iter kk vk m dn =>obtain⟨j,i,es,clock,wr,seen,h1,h2,h3,h4,h5⟩:=h;exact⟨j,i,es,clock,wr,seen,h1,by rw[hg rfl j (by rw[h1];rfl)];exact h2,hB.2 _ _ h3,h4.mono hB,h5⟩
 |rmap kk vk m =>obtain⟨i,es,clock,wr,h1,h2,h3⟩:=h;exact⟨i,es,clock,wr,h1,hB.2 _ _ h2,h3.mono hB⟩
 |siter l pos =>obtain⟨j,s,h1,h2,h3⟩:=h;exact⟨j,s,h1,by rw[hg rfl j (by rw[h1];rfl)];exact h2,h3⟩
 |lpf l q s=>exact⟨h.1,SRs.mono hB ht l q.vals h.2.1,λhl=>by rw[hg hl q.i (by rw[h.1];rfl)];exact h.2.2 hl⟩
theorem Qc (own:Own) (d:Nat) (b:OB) (d':Nat):Qa (oset own d b) d'=if d'=d then b else Qa own d':=by
 induction own with
 |nil =>
  simp only[oset,Qa];by_cases h:d'=d
  .subst h;simp
  .rw[z7 h,Z2 λe=>h e.symm];rfl
 |cons p r ih =>
  obtain⟨k,c⟩:=p;simp only[oset];by_cases h1:k=d
  .subst h1;simp only[Nat.beq_refl,zh,Qa];by_cases h:d'=k
   .subst h;simp
   .rw[z7 h,Z2 λe=>h e.symm];rfl
  .rw[Z2 h1,cond_false];cases Nat.blt d k with
   |true =>
    simp only[zh,Qa];by_cases h:d'=d
    .subst h;simp
    .rw[z7 h,Z2 λe=>h e.symm];rfl
   |false =>
    simp only[cond_false,Qa,ih];by_cases h:k=d'
    .subst h;simp[h1]
    .rw[Z2 h];rfl
theorem Xy (own:Own) (o d:Nat):Qa (E8 o own) d=if d=o then .dead else (Qa own d).kill o:=by
 induction own with
 |nil=>simp[E8,Qa,OB.kill]
 |cons p r ih =>
  obtain⟨k,c⟩:=p;simp only[E8];by_cases h1:k=o
  .subst h1;simp only[Nat.beq_refl,zh,ih,Qa];by_cases h:d=k
   .simp[h]
   .rw[z7 h,z7 h,Z2 λe=>h e.symm];rfl
  .rw[Z2 h1,cond_false];simp only[Qa,ih]
   grind [Z2]
theorem OR.frz {B:Heap}{pl:Nat->Value}{tb:Nat->Option Bool}{o:Nat}{k:Kind}{xs:List k.T}(hk:KC B (.list k) xs [pl o]) {U:Heap}{p:Value}{b:OB}
  (h:OR P B pl tb U p b):OR P B pl tb U p (b.frz o k xs):=by
 cases b with
 |cells l u =>obtain⟨i,c,e,t,h1,h2,h3,h4⟩:=h;exact⟨i,c,e,t,h1,h2,SRs.frz hk l c h3,h4⟩
 |stk l vals=>exact SRs.frz hk l vals h
 |lpf l q s=>exact⟨h.1,SRs.frz hk l q.vals h.2.1,h.2.2⟩
 |_=>exact h
theorem Ih (own:Own) (o:Nat) (k:Kind) (xs:List k.T) (d:Nat):Qa (Ot o k xs own) d=if d=o then .dead else (Qa own d).frz o k xs:=by
 induction own with
 |nil=>simp[Ot,Qa,OB.frz]
 |cons p r ih =>
  obtain⟨j,c⟩:=p;simp only[Ot];by_cases h1:j=o
  .subst h1;simp only[Nat.beq_refl,zh,ih,Qa];by_cases h:d=j
   .simp[h]
   .rw[z7 h,z7 h,Z2 λe=>h e.symm];rfl
  .rw[Z2 h1,cond_false];simp only[Qa,ih]
   grind [Z2]
theorem OB.q2h (b:OB) (o:Nat) (k:Kind) (xs:List k.T):(b.frz o k xs).live=b.live:=by cases b<;>rfl
structure Gam (P:Program) (B F:Heap) (pl:Nat->Value) (tb:Nat->Option Bool) (s:St) (env:Env) (U:Heap):Prop where
 bf:B.Le F
 le:F.Le U
 env:SRs P B pl tb s.env env
 obj:∀ d,OR P B pl tb U (pl d) (Qa s.own d)
 fresh:∀ d i,(Qa s.own d).live=true->Oid (pl d) i->F.get i=none
 sep:∀ d d' i,d≠d'->(Qa s.own d).live=true->(Qa s.own d').live=true->Oid (pl d) i->Oid (pl d') i->False
 free:∀ n,s.nx<=n->tb n=none
theorem Gam.leB {B F:Heap}{pl:Nat->Value}{tb:Nat->Option Bool}{s:St}{env:Env}{U:Heap}(h:Gam P B F pl tb s env U):B.Le U:=h.bf.trans h.le
def QR (pl:Nat->Value) (d:Nat) (p:Value):Nat->Value:=λj=>if j=d then p else pl j
theorem OB.q0m (b:OB) (o:Nat):(b.kill o).live=b.live:=by cases b<;>rfl
theorem Gam.make {B F:Heap}{pl:Nat->Value}{tb:Nat->Option Bool}{s:St}{env:Env}{U U':Heap}(h:Gam P B F pl tb s env U) (d:Nat) (b:OB) (p:Value) (hle:F.Le U')
  (cE:∀ j i,j≠d->(Qa s.own j).live=true->Oid (pl j) i->U'.get i=U.get i) (hb:OR P B (QR pl d p) tb U' p b)
  (hid:∀ i,b.live=true->Oid p i->F.get i=none/\∀ j,j≠d->(Qa s.own j).live=true->¬ Oid (pl j) i):Gam P B F (QR pl d p) tb (s.make d b) env U':=by
 have hp:∀ j,j≠d->QR pl d p j=pl j:=λj hj=>by simp[QR,hj]
 have hg:∀ j,Qa (s.make d b).own j=if j=d then b else (Qa s.own j).kill d:=λj=>by simp only[St.make,St.kill,Qc,Xy];split<;>rfl
 refine⟨h.bf,hle,SRs.upd (Heap.Le.refl B) (λ_ _ h=>h) hp _ _ h.env,λj=>?_,λj i hl hi=>?_,λj j' i aK hl bF hi bS=>?_,h.free⟩
 .rw[hg];by_cases hj:j=d
  .subst hj;rw[z6 rfl];simpa [QR] using hb
  .rw[z7 hj,hp j hj];exact(h.obj j).upd (Heap.Le.refl B) (λ_ _ h=>h) hp λhl i hi=>cE j i hj hl hi
 .rw[hg] at hl;by_cases hj:j=d
  .subst hj;rw[z6 rfl] at hl;simp only[QR,zx] at hi;exact(hid i hl hi).1
  .rw[z7 hj,OB.q0m] at hl;rw[hp j hj] at hi;exact h.fresh j i hl hi
 .rw[hg] at hl bF;by_cases hj:j=d
  .subst hj;rw[z6 rfl] at hl;have bc:j'≠j:=λe=>aK e.symm;rw[z7 bc,OB.q0m] at bF;rw[hp j' bc] at bS;simp only[QR,zx] at hi;exact(hid i hl hi).2 j' bc bF bS
  .rw[z7 hj,OB.q0m] at hl;rw[hp j hj] at hi;by_cases bc:j'=d
   .subst bc;rw[z6 rfl] at bF;simp only[QR,zx] at bS;exact(hid i bF bS).2 j hj hl hi
   .rw[z7 bc,OB.q0m] at bF;rw[hp j' bc] at bS;exact h.sep j j' i aK hl bF hi bS
theorem Gam.write {B F:Heap}{pl:Nat->Value}{tb:Nat->Option Bool}{s:St}{env:Env}{U U':Heap}(h:Gam P B F pl tb s env U) (d:Nat) (b:OB) (hle:F.Le U') (ak:(Qa s.own d).live=true)
  (cE:∀ j i,j≠d->(Qa s.own j).live=true->Oid (pl j) i->U'.get i=U.get i) (hb:OR P B pl tb U' (pl d) b):Gam P B F pl tb ⟨s.env,oset s.own d b,s.nx⟩ env U':=by
 refine⟨h.bf,hle,h.env,λj=>?_,λj i hl hi=>?_,λj j' i aK hl bF hi bS=>?_,h.free⟩
 .simp only[Qc];by_cases hj:j=d
  .subst hj;rw[z6 rfl];exact hb
  .rw[z7 hj];exact(h.obj j).mono (Heap.Le.refl B) (λ_ _ h=>h) λhl i hi=>cE j i hj hl hi
 .simp only[Qc] at hl;by_cases hj:j=d
  .subst hj;exact h.fresh j i ak hi
  .rw[z7 hj] at hl;exact h.fresh j i hl hi
 .simp only[Qc] at hl bF;have k1:(Qa s.own j).live=true:=by
   grind
  have k2:(Qa s.own j').live=true:=by
   grind
  exact h.sep j j' i aK k1 k2 hi bS
theorem Gam.put {B F:Heap}{pl:Nat->Value}{tb:Nat->Option Bool}{s:St}{env:Env}{U:Heap}(h:Gam P B F pl tb s env U) (d:Option Nat) {v:SV}{u:Value}(hv:SR P B pl tb v u):Gam P B F pl tb (s.put d v) (Jb env d u) U:=by
 cases d with
 |none=>exact h
 |some d=>exact⟨h.bf,h.le,h.env.set d hv,h.obj,h.fresh,h.sep,h.free⟩
end
end Go.V
namespace Go.V
open Go
section
variable {P:Program}{B:Heap}{pl:Nat->Value}{tb:Nat->Option Bool}{own:Own}{U:Heap}
theorem QS {s:SV}{v:Value}{k:IntKind}{x:Int}(h:asI s=some (k,x)) (hs:SR P B pl tb s v):v=.int k x:=by
 unfold asI at h;split at h
 .obtain⟨rfl,rfl⟩:=(by simpa using h:_=k/\_=x);simp only[SR,KC] at hs;simpa using hs
 .cases h
theorem JK {s:SV}{v:Value}{x:Bool}(h:asB s=some x) (hs:SR P B pl tb s v):v=.bool x:=by
 unfold asB at h;split at h
 .obtain rfl:=osj h;simp only[SR,KC] at hs;simpa using hs
 .obtain rfl:=osj h;simp only[SR] at hs;exact hs.1
 .cases h
theorem Ki {s:SV}{v:Value}{x:List UInt8}(h:asS s=some x) (hs:SR P B pl tb s v):v=.string ⟨x.toArray⟩:=by
 unfold asS at h;split at h
 .obtain rfl:=osj h;simp only[SR,KC] at hs;simpa using hs
 .cases h
theorem ZB {k k':Kind}{l:List k.T}{l':List k'.T}(h:YM l k'=some l'):k=k':=by
 unfold YM at h;split at h
 .assumption
 .cases h
theorem Zw {k:Kind}{l l':List k.T}(h:YM l k=some l'):l'=l:=by unfold YM at h;simp_all
theorem Pv {k k':Kind}{x:k.T}{x':k'.T}(h:FH x k'=some x'):k=k':=by
 unfold FH at h;split at h
 .assumption
 .cases h
theorem Pw {k:Kind}{x x':k.T}(h:FH x k=some x'):x'=x:=by unfold FH at h;simp_all
theorem Mc (v:Value):SR P B pl tb (cvp v) v:=by unfold cvp;split<;>simp[SR,KC]
theorem Oo (v:Value):SR P B pl tb (cv v) v:=by
 unfold cv;split
 .rename_i cs;simp only[SR];refine⟨cs.toList,by simp,?_⟩;have:SRs P B pl tb (cs.toList.map cvp) (cs.toList.map id):=SRs.map λx _=>Mc x;simpa using this
 .exact Mc v
def Gds (tb:Nat->Option Bool) (gs:List Gd):Prop:=∀ g∈gs,g.c=g.want/\tb g.id=some g.c
theorem Av {a b:List Gd}(h:Q0w a b=true) (hb:Gds tb b) (ha:∀ g∈a,tb g.id=some g.c):∀ g∈a,g.c=g.want:=by
 induction b generalizing a with
 |nil=>cases a with
  |nil=>intro g hg;cases hg
  |cons x a=>simp[Q0w] at h
 |cons y b ih =>
  cases a with
  |nil=>intro g hg;cases hg
  |cons x a =>
   have bD:Gds tb b:=λg hg=>hb g (zA _ hg);simp only[Q0w] at h;cases hc:(Nat.beq x.id y.id&&(x.want==y.want)) with
   |true =>
    rw[hc] at h;simp only[zh] at h;simp only[z1,zj] at hc;have e1:=zP hc.1;intro g hg;rcases zD.1 hg with rfl|hg
    .have h1:=ha g (by simp);have h2:=hb y (by simp);simp_all
    .grind
   |false =>rw[hc] at h;exact ih h bD ha
theorem S5 {gs:List Gd}(hg:Gds tb gs) {s:SV}{v:Value}(h:SR P B pl tb s v):SR P B pl tb (I0 gs s) v:=by
 unfold I0;split
 .rename_i g s;simp only[SR] at h;cases hs:Q0w g gs with
  |true=>exact h.2.1 (Av hs hg h.1.1)
  |false=>trivial
 .exact h
theorem FX {gs:List Gd}(hg:Gds tb gs) {env:List SV}{nV:Env}(h:SRs P B pl tb env nV) (x:Operand):SR P B pl tb (gev gs env x) (Q6 nV x):=by
 cases x with
 |tmp t=>exact S5 hg (h.getD t undef)
 |const v=>exact Oo v
 |global g=>trivial
 |func f=>simp only[gev,Q6,SR,SRs];exact⟨[],[],rfl,rfl,rfl⟩
theorem XS {h:Heap}:∀ {k:Kind}{x:k.T}{cs:List Value},KC h k x cs->SRs P h pl tb (Vu k x) cs
 |.i ik,x,cs,e=>by simp only[KC] at e;subst e;simp[Vu,SRs,SR,KC]
 |.bo,x,cs,e=>by simp only[KC] at e;subst e;simp[Vu,SRs,SR,KC]
 |.st,x,cs,e=>by simp only[KC] at e;subst e;simp[Vu,SRs,SR,KC]
 |.list k,l,cs,e=>by obtain⟨v,rfl,hs⟩:=e;simp only[Vu,SRs,SR];exact⟨v,[],rfl,⟨v,rfl,hs⟩,rfl⟩
 |.pair a b,x,cs,e=>by obtain⟨c1,c2,rfl,h1,h2⟩:=e;exact(XS h1).append (XS h2)
theorem JP {h:Heap}{k:Kind}{x:k.T}{v:Value}(e:KV h k x v):SR P h pl tb (IA k x) v:=by
 cases k with
 |pair a b =>
  rcases e with⟨h1,_⟩|⟨_,cs,rfl,e⟩
  .cases h1
  .simp only[IA,SR];exact⟨cs,rfl,XS e⟩
 |i k|bo|st|list k =>
  rcases e with⟨_,e⟩|⟨h1,_⟩
  .simpa only [IA,SR] using e
  .cases h1
theorem ZQ {l:List SV}{c:List Value}(h:SRs P B pl tb l c) {agg:Bool}{size off:Nat}{v:SV}(hv:GP agg size l off=some v):∃ u,Xc agg size c off=some u/\SR P B pl tb v u:=by
 cases agg with
 |true =>
  simp only[GP,zh] at hv;split at hv
  .rename_i hle;obtain rfl:=osj hv;rw[h.length] at hle;refine⟨.agg ((c.drop off).take size).toArray,by simp only[Xc,zx,hle],?_⟩;simp only[SR];exact⟨_,rfl,(h.drop off).take size⟩
  .cases hv
 |false =>simp only[GP,zT] at hv;obtain⟨u,h1,h2⟩:=h.get hv;exact⟨u,by simpa [Xc] using h1,h2⟩
theorem V4 {agg:Bool}{size off n m i:Nat}{c:List Value}{u:Value}(bg:off+size<=n) (hs:0<size) (h:Xc agg size (((c.take m).drop (i*n)).take n) off=some u) (hl:i*n+n<=m):Xc agg size c (i*n+off)=some u:=by
 cases agg with
 |true =>
  simp only[Xc,zx] at h |-;split at h
  .rename_i hle;simp only[wi,wj] at hle;rw[z6 (by omega)];obtain rfl:=osj h;congr 3;apply zN
   grind
  .cases h
 |false =>simp only[Xc,zz,if_false] at h |-;simp only[xt,zZ] at h;rw[z6 (by omega),z6 (by omega)] at h;exact h
theorem KC.q0f {h:Heap}{k:Kind}:∀ (x:k.T) (c:List Value),KC h k x c->c.length=k.size:=λ_ _ e=>KC.length e
theorem KC.flat {h h':Heap}:∀ {k:Kind}{x:k.T}{cs:List Value},k.flat=true->KC h k x cs->KC h' k x cs
 |.i _,_,_,_,e|.bo,_,_,_,e|.st,_,_,_,e=>e
 |.list _,_,_,f,_=>by cases f
 |.pair a b,x,cs,f,e=>by simp only[Kind.flat,z1] at f;obtain⟨c1,c2,hc,h1,h2⟩:=e;exact⟨c1,c2,hc,KC.flat f.1 h1,KC.flat f.2 h2⟩
theorem KV.flat {h h':Heap}{k:Kind}{x:k.T}{v:Value}(e:KV h k x v) (f:k.flat=true):KV h' k x v:=by
 rcases e with⟨ho,e⟩|⟨ho,cs,hv,e⟩
 .exact .inl ⟨ho,KC.flat f e⟩
 .exact .inr ⟨ho,cs,hv,KC.flat f e⟩
theorem KO.kc {H:Heap}:∀ {k:Kind}{q:Option Nat}{x:k.T}{cs:List Value}{is:List Nat},KO H q k x cs is->KC H k x cs
 |.i _,_,_,_,_,h=>by simp only[KO] at h;exact h.1
 |.bo,_,_,_,_,h=>by simp only[KO] at h;exact h.1
 |.st,_,_,_,_,h=>by simp only[KO] at h;exact h.1
 |.list k,q,l,cs,is,h=>by
  simp only[KO] at h;rcases h with⟨rfl,rfl,_⟩|⟨i,cap,c,e,t,js,rfl,rfl,h1,h2,h3,_,h4,h5⟩
  .exact⟨_,rfl,.inl ⟨rfl,rfl⟩⟩
  .refine⟨_,rfl,.inr ⟨i,0,cap,c,e,true,t,rfl,h1,h2,h3,by have:=zm k.size h1;omega,?_⟩⟩;rw[xr];have key:∀ {xs:List k.T}{cs:List Value}{js:List Nat},RowsO (λx c is=>KO H none k x c is) xs cs js->Rows (λx c=>KC H k x c) xs cs:=λh=>by
    induction h with
    |nil=>exact .nil
    |cons h _ ih=>exact .cons (KO.kc (k:=k) h) ih
   exact key h5
 |.pair a b,_,x,cs,is,h=>by simp only[KO] at h;obtain⟨c1,c2,i1,i2,rfl,rfl,h1,h2⟩:=h;exact⟨c1,c2,rfl,h1.kc,h2.kc⟩
def Q6s:Kind->List Value->Prop
 |.list _,cs=>∀ v,cs=[v]->∀ a n c,v=.slice (some a) n c->a.off=0
 |_,_=>True
theorem KO.koff {H:Heap}:∀ {k:Kind}{q:Option Nat}{x:k.T}{cs:List Value}{is:List Nat},KO H q k x cs is->Q6s k cs
 |.i _,_,_,_,_,_|.bo,_,_,_,_,_|.st,_,_,_,_,_|.pair _ _,_,_,_,_,_=>trivial
 |.list k,q,l,cs,is,h=>by
  simp only[KO] at h;intro v hv a n c' hs
  grind
theorem RowsH.rows {α:Type}{R:α->List Value->List Nat->Prop}{R':α->List Value->Prop}(hR:∀ x c is,R x c is->R' x c) {sz:Nat}:∀ {xs:List α}{j:Nat}{cs:List Value}{is:List Nat},RowsH R sz none j xs cs is->Rows R' xs cs
 |[],j,cs,is,h=>by obtain⟨rfl,_⟩:=h;exact .nil
 |x::xs,j,cs,is,h=>by obtain⟨c,cs',i1,i2,rfl,rfl,h1,h2⟩:=h;rw[z7 (by simp)] at h1;exact .cons (hR _ _ _ h1) (RowsH.rows hR h2)
theorem Pf:∀ {l:List (Nat×Blk)}{p:Nat×Blk},p∈l->∃ b,GL l p.1=some b
 |(j,b)::r,p,h=>by
  by_cases e:p.1=j
  .exact⟨b,by simp only[GL,z6 e]⟩
  .rcases zD.1 h with rfl|h
   .exact absurd rfl e
   .obtain⟨b',h'⟩:=Pf h;exact⟨b',by simp only[GL,z7 e];exact h'⟩
theorem E_:∀ {l:List (Nat×Blk)}{n:Nat},(∀ p∈l,p.1<n)->Q1z l<=n
 |[],n,_=>Nat.zero_le _
 |(j,b)::r,n,h=>by have h1:=h (j,b) zl;have h2:=E_ (l:=r) (n:=n) (by grind);simp only[Q1z];simp only at h1;omega
theorem Ed (p:Value):∃ l,Je p=listH l:=by
 unfold Je;split
 .exact⟨_,rfl⟩
 .exact⟨_,rfl⟩
theorem OS {p:Value}{U:Heap}(h:∀ i b,(Je p).get i=some b->U.get i=some b):(Je p).Le U:=by obtain⟨l,e⟩:=Ed p;rw[e] at h |-;refine⟨E_ λx hx=>?_,h⟩;obtain⟨b,hb⟩:=Pf hx;exact U.lt (h x.1 b hb)
theorem LU:∀ (l:List Value) {i:Nat}{c:List Value}{e:El}{wr t:Bool},GL (Q0j l) i=some (.cells c e wr t)->wr=true
 |[],i,c,e,wr,t,h=>by cases h
 |v::vs,i,c,e,wr,t,h=>by
  unfold Q0j at h;split at h
  .rename_i q hq;obtain⟨j,b⟩:=q;simp only[GL] at h;split at h
   .obtain rfl:=osj h;unfold Q6d at hq
    grind
   .exact LU vs h
  .exact LU vs h
theorem OK {p:Value}{i:Nat}{c:List Value}{e:El}{wr t:Bool}(h:(Je p).get i=some (.cells c e wr t)):wr=true:=by
 unfold Je at h;split at h
 .exact LU _ h
 .cases h
theorem DP.le {U:Heap}{p:Value}{ty:Nat}{q:Option Nat}{k:Kind}{xs:List k.T}{nl:Bool}{h:Option Nat}(hd:DP U p ty q k xs nl h):(Je p).Le U:=by obtain⟨is,_,_,_,_,h4,_⟩:=hd;exact OS h4
theorem DP.sl {U:Heap}{p:Value}{ty:Nat}{q:Option Nat}{k:Kind}{xs:List k.T}{nl:Bool}(hd:DP U p ty q k xs nl none):SlRel (Je p) k.size (KC (Je p) k) xs (phd p):=by
 obtain⟨is,_,_,h2,_,_,_⟩:=hd;rcases h2 with⟨rfl,h,_⟩|⟨i,cap,c,t,js,h,_,h1,h3,h4,h5⟩
 .exact .inl ⟨rfl,h⟩
 .refine .inr ⟨i,0,cap,c,_,true,t,h,h1,h3,rfl,by have:=zm k.size h1;omega,?_⟩;rw[xr];exact h5.rows λ_ _ _ h=>h.kc
theorem DP.hd {U:Heap}{p:Value}{ty:Nat}{q:Option Nat}{k:Kind}{xs:List k.T}{nl:Bool}{h:Option Nat}(hd:DP U p ty q k xs nl h):∃ a cap,phd p=.slice a xs.length cap:=by
 obtain⟨is,_,_,h2,_,_,_⟩:=hd;rcases h2 with⟨rfl,h,_⟩|⟨i,cap,c,t,js,h,_⟩
 .exact⟨_,_,h⟩
 .exact⟨_,_,h⟩
theorem CE {H:Heap}{k:Kind}{l:List k.T}{v:Value}(h:KC H (.list k) l [v]) {j:Nat}(hj:j<l.length):∃ b o cap c e wr t,v=.slice (some ⟨b,o,none⟩) l.length cap/\H.get b=some (.cells c e wr t)/\o+l.length*k.size<=c.length/\Rows (KC H k) l ((c.drop o).take (l.length*k.size)):=by
 obtain⟨v',e,hs⟩:=h;obtain rfl:=(zM e).1;rcases hs with⟨rfl,_⟩|⟨b,o,cap,c,e',wr,t,h2,h3,h4,h5,h6,h7⟩
 .simp at hj
 grind
theorem D_ {p:Value}{k:Kind}{l:List k.T}{v:Value}(h:KC (Je p) (.list k) l [v]):SlRel (Je p) k.size (λx c=>KC (Je p) k x c) l v:=by obtain⟨v',e,hs⟩:=h;simp_all
theorem Ws (hle:B.Le U) (ax:∀ d,OR P B pl tb U (pl d) (Qa own d)) {k:Kind}{s:SV}{l:List k.T}{v:Value}(h:view own k s=some l) (hs:SR P B pl tb s v):SlRel U k.size (KC B k) l v:=by
 unfold view at h;split at h
 .obtain rfl:=osj h;simp only[SR] at hs;exact .inl ⟨rfl,hs⟩
 .rename_i k' l0;obtain rfl:=ZB h;obtain rfl:=Zw h;simp only[SR,KC] at hs;obtain⟨v',e,hs⟩:=hs;obtain rfl:=(zM e).1;exact hs.mono hle λ_ _ h=>h
 .rename_i o;have ho:=ax o;simp only[SR] at hs
  replace hs:=hs.1
  split at h
  .rename_i ty k' xs nl heq;obtain rfl:=ZB h;obtain rfl:=Zw h;rw[heq] at ho;rcases ho with⟨_,rfl,h2⟩|⟨_,i,cap,c,t,h1,h2,h3,h4,h5⟩
   .exact .inl ⟨rfl,by rw[hs,h2]⟩
   .refine .inr ⟨i,0,cap,c,_,true,t,by rw[hs,h1],h2,h3,rfl,?_,by simpa using h5⟩;have:=zm k'.size h2;omega
  .cases h
 .rename_i o lo n sz;have ho:=ax o;split at h
  .rename_i ty k' xs nl heq;split at h
   .rename_i az;subst az;cases hc:YM xs k with
    |none=>rw[hc] at h;cases h
    |some bN =>
     obtain rfl:=ZB hc;obtain rfl:=Zw hc;rw[hc] at h;obtain rfl:=osj h;simp only[SR] at hs;rw[heq] at ho;rcases hs with⟨rfl,rfl,rfl,_⟩|⟨i,len,cap,ao,h1,h2,h3,rfl⟩
     .exact .inl ⟨by simp,rfl⟩
     .rcases ho with⟨_,_,h4⟩|⟨_,i',iW,c,t,h4,h5,h6,h7,h8⟩
      .rw[h1] at h4;cases h4
      .rw[h1] at h4;obtain⟨rfl,rfl,rfl⟩:=(by simpa using h4:i=i'/\len=bN.length/\cap=iW);have hlen:((bN.drop lo).take n).length=n:=by simp;omega
       have k1:lo*k'.size+n*k'.size<=bN.length*k'.size:=by rw[<-zH];exact zm _ h2
       have k2:=zm k'.size h5;refine .inr ⟨i,lo*k'.size,ao,c,_,true,t,by rw[hlen],by rw[hlen];exact h3,h6,rfl,by rw[hlen];omega,?_⟩;rw[hlen];have:=(h8.drop KC.q0f lo).take KC.q0f n;have e:((c.take (bN.length*k'.size)).drop (lo*k'.size)).take (n*k'.size)=(c.drop (lo*k'.size)).take (n*k'.size):=by
        apply zN
        grind
       rw[e] at this;exact this
   .cases h
  .cases h
 .rename_i o w;have ho:=ax o;simp only[SR] at hs;cases hf:k.flat with
  |false=>rw[hf] at h;cases h
  |true =>
   rw[hf] at h;simp only[zh] at h;split at h
   .rename_i ty q k' xs nl hole heq;rw[heq] at ho;have c_:=DP.le ho;split at h
    .split at h
     .obtain rfl:=ZB h;obtain rfl:=Zw h;obtain⟨hs,_⟩:=hs;rw[hs];exact(DP.sl ho).mono c_ λ_ _ e=>KC.flat hf e
     .cases h
    .rename_i k' l';obtain rfl:=ZB h;obtain rfl:=Zw h;exact(D_ hs).mono c_ λ_ _ e=>KC.flat hf e
    .rename_i k' l' i;obtain rfl:=ZB h;obtain rfl:=Zw h;exact(D_ hs.1).mono c_ λ_ _ e=>KC.flat hf e
    .cases h
   .cases h
 .cases h
theorem SlRel.len {h:Heap}{sz:Nat}{α:Type}{R:α->List Value->Prop}{l:List α}{v:Value}(hs:SlRel h sz R l v):∃ a cap,v=.slice a l.length cap:=by
 rcases hs with⟨rfl,rfl⟩|⟨i,o,cap,c,e,wr,t,rfl,_⟩
 .exact⟨_,_,rfl⟩
 .exact⟨_,_,rfl⟩
theorem AJ (ax:∀ d,OR P B pl tb U (pl d) (Qa own d)) {s:SV}{n:Nat}{v:Value}(h:Q5m own s=some n) (hs:SR P B pl tb s v):∃ a cap,v=.slice a n cap:=by
 unfold Q5m at h;split at h
 .obtain rfl:=osj h;simp only[SR] at hs;exact⟨_,_,hs⟩
 .obtain rfl:=osj h;simp only[SR,KC] at hs;obtain⟨v',e,hs⟩:=hs;obtain rfl:=(zM e).1;exact hs.len
 .rename_i o;have ho:=ax o;simp only[SR] at hs
  replace hs:=hs.1
  split at h
  .rename_i ty k' xs nl heq;obtain rfl:=osj h;rw[heq] at ho;rcases ho with⟨_,rfl,h2⟩|⟨_,i,cap,c,t,h1,h2,h3,h4,h5⟩
   .exact⟨_,_,by rw[hs,h2];rfl⟩
   .exact⟨_,_,by rw[hs,h1]⟩
  .cases h
 .obtain rfl:=osj h;simp only[SR] at hs
  grind
 .rename_i o w;have ho:=ax o;simp only[SR] at hs;split at h
  .rename_i ty q k' xs nl hole heq;rw[heq] at ho;split at h
   .split at h
    .obtain rfl:=osj h;obtain⟨hs,_⟩:=hs;rw[hs];exact DP.hd ho
    .cases h
   .obtain rfl:=osj h;exact(D_ hs).len
   .obtain rfl:=osj h;exact(D_ hs.1).len
   .cases h
  .cases h
 .cases h
theorem ZH {o:Nat}:∀ {k:Kind}{x:k.T}{cs:List Value},KC (Je (pl o)) k x cs->SRs P B pl tb (Un o k x) cs
 |.i ik,x,cs,h=>by simp only[KC] at h;subst h;simp[Un,SRs,SR,KC]
 |.bo,x,cs,h=>by simp only[KC] at h;subst h;simp[Un,SRs,SR,KC]
 |.st,x,cs,h=>by simp only[KC] at h;subst h;simp[Un,SRs,SR,KC]
 |.list k,x,cs,h=>by have hl:=KC.length h;obtain⟨v,rfl⟩:=z_.1 (show cs.length=1 from hl);simp only[Un,SRs,SR,DR];exact⟨v,[],rfl,h,rfl⟩
 |.pair a b,x,cs,h=>by obtain⟨c1,c2,rfl,h1,h2⟩:=h;exact SRs.append (ZH h1) (ZH h2)
theorem Ar {o:Nat}{i:Int}:∀ {k:Kind}{x:k.T}{cs:List Value},KC (Je (pl o)) k x cs->Q6s k cs->(k.one=true->∀ v,cs=[v]->∃ b len cap c e t,phd (pl o)=.slice (some ⟨b,0,none⟩) len cap/\0<=i/\i<len/\(Je (pl o)).get b=some (.cells c e true t)/\c[i.toNat]?=some v)->SRs P B pl tb (Q5k o i k x) cs
 |.i ik,x,cs,h,_,_=>ZH (o:=o) h
 |.bo,x,cs,h,_,_=>ZH (o:=o) h
 |.st,x,cs,h,_,_=>ZH (o:=o) h
 |.list k,x,cs,h,ho,hr=>by have hl:=KC.length h;obtain⟨v,rfl⟩:=z_.1 (show cs.length=1 from hl);simp only[Q5k,SRs,SR,DR];exact⟨v,[],rfl,⟨h,ho v rfl,hr rfl v rfl⟩,rfl⟩
 |.pair a b,x,cs,h,_,_=>ZH (o:=o) h
theorem DP.elem {U:Heap}{p:Value}{ty:Nat}{q:Option Nat}{k:Kind}{xs:List k.T}{nl:Bool}(hd:DP U p ty q k xs nl none) {b len cap:Nat}(hp:phd p=.slice (some ⟨b,0,none⟩) len cap) :
  ∃ c t,(Je p).get b=some (.cells c ⟨k.size,ty⟩ true t)/\len=xs.length/\xs.length<=cap/\cap*k.size<=c.length/\Rows (λx c=>KC (Je p) k x c/\Q6s k c) xs (c.take (xs.length*k.size)):=by
 obtain⟨is,_,_,h2,_,_,_⟩:=hd;rcases h2 with⟨rfl,h,_⟩|⟨i,ao,c,t,js,h,_,h1,h3,h4,h5⟩
 .rw[hp] at h;cases h
 .rw[hp] at h;obtain⟨rfl,rfl,rfl⟩:=(by simpa using h:b=i/\len=xs.length/\cap=ao);exact⟨c,t,h3,rfl,h1,h4,h5.rows λ_ _ _ h=>⟨h.kc,h.koff⟩⟩
theorem Bw (hle:B.Le U) (ax:∀ d,OR P B pl tb U (pl d) (Qa own d)) {agg:Bool}{size:Nat}(az:0<size) {s v:SV}{p:Value}(h:IF own agg size s=some v) (hs:SR P B pl tb s p) :
  ∃ i o c e wr t u,p=.pointer (some ⟨i,o,none⟩)/\U.get i=some (.cells c e wr t)/\Xc agg size c o=some u/\SR P B pl tb v u:=by
 unfold IF at h;split at h
 .rename_i o off;have ho:=ax o;simp only[SR] at hs;obtain⟨b,h1,rfl⟩:=hs;split at h
  .rename_i l _ heq;rw[heq] at ho;obtain⟨i,c,e,t,h2,h3,h4,_⟩:=ho
   grind [ZQ]
  .cases h
 .rename_i l off;simp only[SR] at hs;obtain⟨b,c,e,wr,t,h1,rfl,h3⟩:=hs;obtain⟨u,h5,h6⟩:=ZQ h3 h;exact⟨b,off,c,e,wr,t,u,rfl,hle.2 _ _ h1,h5,h6⟩
 .rename_i o i off sz;have ho:=ax o;simp only[SR] at hs;obtain⟨b,len,cap,h1,h2,h3,rfl⟩:=hs;split at h
  .rename_i ty k xs nl heq;rw[heq] at ho;split at h
   .rename_i aj;obtain⟨rfl,bg⟩:=aj;rcases ho with⟨_,_,h4⟩|⟨_,i',iW,c,t,h4,h5,h6,h7,h8⟩
    .rw[h1] at h4;cases h4
    .rw[h1] at h4;obtain⟨rfl,rfl,rfl⟩:=(by simpa using h4:b=i'/\len=xs.length/\cap=iW);have hi:i.toNat<xs.length:=by omega
     have hr:=h8.at KC.q0f hi;have hx:xs.getD i.toNat k.dflt=xs[i.toNat]:=by simp_all
     rw[hx] at h;obtain⟨u,h9,cf⟩:=ZQ (XS (P:=P) (pl:=pl) (tb:=tb) hr) h;refine⟨b,_,c,_,true,t,u,rfl,h6,V4 bg az h9 ?_,cf⟩;have:(i.toNat+1)*k.size<=xs.length*k.size:=zm _ hi
     rwa [zH,xD] at this
   .cases h
  .cases h
 .rename_i k l i off;simp only[SR] at hs;obtain⟨b,o,c,e,wr,t,h1,h2,h3,rfl,h5,h6⟩:=hs;split at h
  .rename_i bg;have hi:i.toNat<l.length:=by omega
   have hr:=h6.at KC.q0f hi;have hx:l.getD i.toNat k.dflt=l[i.toNat]:=by simp_all
   rw[hx] at h;obtain⟨u,h9,cf⟩:=ZQ (XS (P:=P) (pl:=pl) (tb:=tb) hr) h;have dS:(i.toNat+1)*k.size<=l.length*k.size:=zm _ hi;rw[zH,xD] at dS;refine⟨b,_,c,e,wr,t,u,rfl,hle.2 _ _ h3,?_,cf⟩;have:=V4 bg az h9 dS;clear h9;cases agg with
   |true =>
    simp only[Xc,zx,wj] at this |-;split at this
    .rename_i c_;rw[z6 (by omega)];rw[<-this,List.drop_drop,zE]
    .cases this
   |false =>simp only[Xc,zz,if_false,zZ] at this |-;rw[<-this,zE]
  .cases h
 .rename_i o w;have ho:=ax o;simp only[SR] at hs;split at h
  .rename_i ty q k xs nl hole heq;rw[heq] at ho;split at h
   .have c_:=DP.le ho;split at h
    .rename_i i off sz;obtain⟨b,len,cap,h1,h2,h3,rfl⟩:=hs;split at h
     .rename_i aj;obtain⟨rfl,bg⟩:=aj;obtain⟨c,t,h4,rfl,h5,h6,h7⟩:=DP.elem ho h1;have hi:i.toNat<xs.length:=by omega
      have hr:=h7.at (λx c h=>KC.q0f x c h.1) hi;have hx:xs.getD i.toNat k.dflt=xs[i.toNat]:=by simp_all
      rw[hx] at h;have iX:(i.toNat+1)*k.size<=xs.length*k.size:=zm _ hi;rw[zH,xD] at iX;obtain⟨u,h9,cf⟩:=ZQ (Ar (P:=P) (B:=B) (tb:=tb) hr.1 hr.2 λbJ v hv=>by
       refine⟨b,_,cap,c,_,t,h1,h2,h3,h4,?_⟩;have vE:=Kind.q1v bJ;have:(((c.take (xs.length*k.size)).drop (i.toNat*k.size)).take k.size)[0]?=some v:=by rw[hv];rfl
       grind) h
      exact⟨b,_,c,_,true,t,u,rfl,c_.2 _ _ h4,V4 bg az h9 iX,cf⟩
     .cases h
    .rename_i k' x i j off;obtain⟨b,len,cap,c,e,t,r,rl,rc,aJ,re,rt,h1,h2,h3,h4,h5,h6,h7,h8,h9,cf,ga,rfl⟩:=hs;split at h
     .rename_i bg;subst h8;have hj:j.toNat<x.length:=by omega
      have hr:=ga.at KC.q0f hj;have hx:x.getD j.toNat k'.dflt=x[j.toNat]:=by simp_all
      rw[hx] at h;have iX:(j.toNat+1)*k'.size<=x.length*k'.size:=zm _ hj;rw[zH,xD] at iX;obtain⟨u,k9,qt⟩:=ZQ (ZH (P:=P) (B:=B) (tb:=tb) hr) h;exact⟨r,_,aJ,_,true,rt,u,rfl,c_.2 _ _ h9,V4 bg az k9 iX,qt⟩
     .cases h
    .rename_i k' l j off;obtain⟨b,o',c,e,wr,t,h1,h2,h3,rfl,h5,h6⟩:=hs;split at h
     .rename_i bg;have hj:j.toNat<l.length:=by omega
      have hr:=h6.at KC.q0f hj;have hx:l.getD j.toNat k'.dflt=l[j.toNat]:=by simp_all
      rw[hx] at h;obtain⟨u,k9,qt⟩:=ZQ (ZH (P:=P) (B:=B) (tb:=tb) hr) h;have dS:(j.toNat+1)*k'.size<=l.length*k'.size:=zm _ hj;rw[zH,xD] at dS;refine⟨b,_,c,e,wr,t,u,rfl,c_.2 _ _ h3,?_,qt⟩;have:=V4 bg az k9 dS;clear k9;cases agg with
      |true =>
       simp only[Xc,zx,wj] at this |-;split at this
       .rename_i tZ;rw[z6 (by omega)];rw[<-this,List.drop_drop,zE]
       .cases this
      |false =>simp only[Xc,zz,if_false,zZ] at this |-;rw[<-this,zE]
     .cases h
    .cases h
   .cases h
  .cases h
 .cases h
end
end Go.V
namespace Go.V
open Go
section
variable {P:Program}{B:Heap}{pl:Nat->Value}{tb:Nat->Option Bool}{own:Own}{U:Heap}
theorem PS {s:SV}{v:Value}(h:s.solid=true) (hs:SR P B pl tb s v):Wz v=some [v]/\cellOk v=true:=by
 cases s with
 |any=>cases h
 |grd gs s=>cases h
 |agg l=>cases h
 |tup l=>cases h
 |val k x =>
  simp only[SR] at hs;cases k with
  |i ik=>simp only[KC] at hs;obtain rfl:=(zM hs).1;exact⟨rfl,rfl⟩
  |bo=>simp only[KC] at hs;obtain rfl:=(zM hs).1;exact⟨rfl,rfl⟩
  |st=>simp only[KC] at hs;obtain rfl:=(zM hs).1;exact⟨rfl,rfl⟩
  |list k =>obtain⟨v',e,hs⟩:=hs;obtain rfl:=(zM e).1;obtain⟨a,c,rfl⟩:=hs.len;exact⟨rfl,rfl⟩
  |pair a b =>have h1:=KC.length hs;have h2:=a.size_pos;have h3:=b.size_pos;simp only[Kind.size,zw] at h1;omega
 |bid n c=>simp only[SR] at hs;obtain⟨rfl,_⟩:=hs;exact⟨rfl,rfl⟩
 |nilS=>simp only[SR] at hs;subst hs;exact⟨rfl,rfl⟩
 |nilP=>simp only[SR] at hs;subst hs;exact⟨rfl,rfl⟩
 |nilM=>simp only[SR] at hs;subst hs;exact⟨rfl,rfl⟩
 |nilF=>simp only[SR] at hs;subst hs;exact⟨rfl,rfl⟩
 |lst o=>simp only[SR] at hs;obtain⟨_,a,n,c,rfl⟩:=hs;exact⟨rfl,rfl⟩
 |dd o w =>
  simp only[SR] at hs;cases w with
  |out=>obtain⟨_,a,n,c,rfl⟩:=hs;exact⟨rfl,rfl⟩
  |el i off sz=>obtain⟨_,_,_,_,_,_,rfl⟩:=hs;exact⟨rfl,rfl⟩
  |row k x i=>obtain⟨a,c,rfl⟩:=(D_ hs.1).len;exact⟨rfl,rfl⟩
  |rowp k x i j off=>obtain⟨_,_,_,_,_,_,_,_,_,_,_,_,_,_,_,_,_,_,_,_,_,_,_,rfl⟩:=hs;exact⟨rfl,rfl⟩
  |inn k x=>obtain⟨a,c,rfl⟩:=(D_ hs).len;exact⟨rfl,rfl⟩
  |inp k l j off=>obtain⟨_,_,_,_,_,_,_,_,_,rfl,_⟩:=hs;exact⟨rfl,rfl⟩
  |dat=>rcases hs with⟨_,rfl⟩|⟨_,_,_,_,_,rfl⟩<;>exact⟨rfl,rfl⟩
  |obx c=>rcases hs with⟨_,rfl⟩|⟨_,_,_,rfl⟩<;>exact⟨rfl,rfl⟩
  |yv=>obtain⟨_,_,rfl⟩:=hs;exact⟨rfl,rfl⟩
 |sub o lo n sz=>simp only[SR] at hs;rcases hs with⟨_,_,rfl,_⟩|⟨_,_,_,_,_,_,_,rfl⟩<;>exact⟨rfl,rfl⟩
 |elp o i off sz=>simp only[SR] at hs;obtain⟨_,_,_,_,_,_,rfl⟩:=hs;exact⟨rfl,rfl⟩
 |rop k l i off=>simp only[SR] at hs;obtain⟨_,_,_,_,_,_,_,_,_,rfl,_⟩:=hs;exact⟨rfl,rfl⟩
 |box o off=>simp only[SR] at hs;obtain⟨_,_,rfl⟩:=hs;exact⟨rfl,rfl⟩
 |cp l off=>simp only[SR] at hs;obtain⟨_,_,_,_,_,_,rfl,_⟩:=hs;exact⟨rfl,rfl⟩
 |map o=>simp only[SR] at hs;obtain⟨_,m,rfl⟩:=hs;exact⟨rfl,rfl⟩
 |fn f a b=>simp only[SR] at hs;obtain⟨_,_,rfl,_⟩:=hs;exact⟨rfl,rfl⟩
 |pf ks r cu p=>simp only[SR] at hs;obtain⟨_,_,_,rfl,_⟩:=hs;exact⟨rfl,rfl⟩
theorem Gj:∀ {l:List SV}{c:List Value},l.all SV.solid=true->SRs P B pl tb l c->c.all cellOk=true
 |[],c,_,h=>by simp only[SRs] at h;subst h;rfl
 |s::ss,c,hl,h=>by simp only[SRs] at h;obtain⟨x,y,rfl,h1,h2⟩:=h;simp only[zX,z1] at hl |-;exact⟨(PS hl.1 h1).2,Gj hl.2 h2⟩
theorem ZI {s:SV}{v:Value}{l:List SV}(h:Y6 s=some l) (hs:SR P B pl tb s v):∃ c,Wz v=some c/\SRs P B pl tb l c/\c.all cellOk=true:=by
 have key:s.solid=true->some [s]=some l->∃ c,Wz v=some c/\SRs P B pl tb l c/\c.all cellOk=true:=λqu e=>by obtain rfl:=osj e;obtain⟨h1,h2⟩:=PS qu hs;exact⟨[v],h1,by simp only[SRs];exact⟨v,[],rfl,hs,rfl⟩,by simp[h2]⟩
 cases s with
 |any=>cases h
 |grd gs s=>cases h
 |tup l=>cases h
 |agg l' =>
  simp only[Y6] at h;cases hl:l'.all SV.solid with
  |false=>rw[hl] at h;cases h
  |true =>rw[hl] at h;obtain rfl:=osj h;simp only[SR] at hs;obtain⟨cs,rfl,hs⟩:=hs;exact⟨cs,rfl,hs,Gj hl hs⟩
 |_=>exact key rfl h
theorem MB:∀ {vs:List SV}{us:List Value}{c:List SV}{cV:List Value}{o:Nat},SRs P B pl tb c cV->SRs P B pl tb vs us->SRs P B pl tb (gfill.setS c o vs) (JH cV o us)
 |[],us,c,cV,o,h,h'=>by simp only[SRs] at h';subst h';exact h
 |v::vs,us,c,cV,o,h,h'=>by simp only[SRs] at h';obtain⟨x,y,rfl,h1,h2⟩:=h';simp only[gfill.setS,JH];exact MB (h.set o h1) h2
theorem Dv:∀ {ps:List (Nat×Nat×Operand)}{c l:List SV}{cV:List Value}{ev:Operand->SV}{evV:Operand->Value},(∀ x,SR P B pl tb (ev x) (evV x))->SRs P B pl tb c cV->gfill c (ps.map λp=>(p.1,p.2.1,ev p.2.2))=some l ->
  ∃ lV,KD cV (ps.map λp=>(p.1,p.2.1,evV p.2.2))=some lV/\SRs P B pl tb l lV
 |[],c,l,cV,ev,evV,af,h,hg=>by obtain rfl:=osj hg;exact⟨cV,rfl,h⟩
 |p::ps,c,l,cV,ev,evV,af,h,hg=>by
  simp only[zS,gfill] at hg;split at hg
  .rename_i vs hs;split at hg
   .rename_i aj;obtain⟨us,h1,h2,_⟩:=ZI hs (af p.2.2);obtain⟨lV,h3,h4⟩:=Dv af (MB h h2) hg;refine⟨lV,?_,h4⟩;simp only[zS,KD,h1];rw[z6 ⟨by rw[<-h2.length];exact aj.1,by rw[<-h.length];exact aj.2⟩];exact h3
   .cases hg
  .cases hg
theorem Zg {h:Heap}:∀ {k:Kind}{z:List Value},Xj k z=true->KC h k k.dflt z
 |.i ik,z,e=>by unfold Xj at e;split at e<;>simp_all [KC,Kind.dflt]
 |.bo,z,e=>by unfold Xj at e;split at e<;>simp_all [KC,Kind.dflt]
 |.st,z,e=>by unfold Xj at e;split at e<;>simp_all [KC,Kind.dflt];rename_i s;cases s;simp_all
 |.list k,z,e=>by unfold Xj at e;split at e<;>simp_all [KC,Kind.dflt];exact .inl ⟨rfl,rfl⟩
 |.pair a b,z,e=>by simp only[Xj,z1] at e;exact⟨_,_,(xh a.size z).symm,Zg e.1,Zg e.2⟩
theorem TL {h:Heap}{mk:MK}{kk:Kind}(hk:gq.mkP mk kk=true) {x:kk.T}{cs:List Value}(e:KC h kk x cs):∃ v,cs=[v]/\Za mk v=true/\IC mk v=true:=by
 unfold gq.mkP at hk;split at hk
 .simp only[KC] at e;subst e;obtain rfl:=wc hk;exact⟨_,rfl,by simp[Za],by simp[IC]⟩
 .simp only[KC] at e;subst e;exact⟨_,rfl,rfl,rfl⟩
 .simp only[KC] at e;subst e;exact⟨_,rfl,rfl,rfl⟩
 .cases hk
theorem Q04 {h:Heap}{mk:MK}{kk:Kind}(hk:gq.mkP mk kk=true) {x y:kk.T}{u v:Value}(e:KC h kk x [u]) (e':KC h kk y [v]):XY u v=gq.keq kk x y/\Yh u v=gq.keq kk x y:=by
 unfold gq.mkP at hk;split at hk
 .simp only[KC] at e e';obtain rfl:=(zM e).1;obtain rfl:=(zM e').1;exact⟨rfl,rfl⟩
 .simp only[KC] at e e';obtain rfl:=(zM e).1;obtain rfl:=(zM e').1;simp[XY,Yh,gq.keq]
 .simp only[KC] at e e';obtain rfl:=(zM e).1;obtain rfl:=(zM e').1;exact⟨rfl,rfl⟩
 .cases hk
theorem BJ {h:Heap}:∀ {k:Kind}{l r:List MK}{x:k.T}{cs ds:List Value},gq.mkAt k l=some r->KC h k x cs->fits l (cs++ds)=fits r ds
 |.pair a b,l,r,x,cs,ds,hk,e=>by
  simp only[gq.mkAt] at hk;split at hk
  .rename_i q hq;obtain⟨c1,c2,rfl,h1,h2⟩:=e;rw[x6,BJ hq h1,BJ hk h2]
  .cases hk
 |.i _,m::l,r,x,cs,ds,hk,e|.bo,m::l,r,x,cs,ds,hk,e|.st,m::l,r,x,cs,ds,hk,e|.list _,m::l,r,x,cs,ds,hk,e=>by
  simp only[gq.mkAt] at hk;cases hp:gq.mkP m _ with
  |false=>rw[hp] at hk;cases hk
  |true =>rw[hp] at hk;obtain rfl:=osj hk;obtain⟨v,rfl,_,h2⟩:=TL hp e;simp[fits,h2]
 |.i _,[],r,x,cs,ds,hk,e|.bo,[],r,x,cs,ds,hk,e|.st,[],r,x,cs,ds,hk,e|.list _,[],r,x,cs,ds,hk,e=>by cases hk
theorem Ly {h:Heap}:∀ {k:Kind}{l r:List MK}{x y:k.T}{cs ds cs' ds':List Value},gq.mkAt k l=some r->KC h k x cs->KC h k y ds->Ql (cs++cs') (ds++ds')=(gq.keq k x y&&Ql cs' ds')
 |.pair a b,l,r,x,y,cs,ds,cs',ds',hk,e,e'=>by
  simp only[gq.mkAt] at hk;split at hk
  .rename_i q hq;obtain⟨c1,c2,rfl,h1,h2⟩:=e;obtain⟨d1,d2,rfl,g1,g2⟩:=e';rw[x6,x6,Ly hq h1 g1,Ly hk h2 g2];simp only[gq.keq,Bool.and_assoc]
  .cases hk
 |.i _,m::l,r,x,y,cs,ds,cs',ds',hk,e,e'|.bo,m::l,r,x,y,cs,ds,cs',ds',hk,e,e'|.st,m::l,r,x,y,cs,ds,cs',ds',hk,e,e'|.list _,m::l,r,x,y,cs,ds,cs',ds',hk,e,e'=>by
  simp only[gq.mkAt] at hk;cases hp:gq.mkP m _ with
  |false=>rw[hp] at hk;cases hk
  |true =>obtain⟨v,rfl,_,_⟩:=TL hp e;obtain⟨w,rfl,_,_⟩:=TL hp e';simp only[xw,xB,Ql,(Q04 hp e e').2]
 |.i _,[],r,x,y,cs,ds,cs',ds',hk,e,e'|.bo,[],r,x,y,cs,ds,cs',ds',hk,e,e'|.st,[],r,x,y,cs,ds,cs',ds',hk,e,e'|.list _,[],r,x,y,cs,ds,cs',ds',hk,e,e'=>by cases hk
theorem Tm {h:Heap}{mk:MK}{kk:Kind}(hk:gq.mkOk mk kk=true) {x:kk.T}{v:Value}(e:KV h kk x v):Za mk v=true:=by
 unfold gq.mkOk at hk;rcases e with⟨ho,e⟩|⟨ho,cs,rfl,e⟩
 .grind [TL,List.cons.inj]
 .rw[ho] at hk;simp only[zT] at hk;split at hk
  .rename_i l;split at hk
   .rename_i hr;have:=BJ (ds:=[]) hr e;rw[xA] at this;simp only[Za];rw[this];rfl
   .cases hk
  .cases hk
theorem RS {h:Heap}{mk:MK}{kk:Kind}(hk:gq.mkOk mk kk=true) {x y:kk.T}{u v:Value}(e:KV h kk x u) (e':KV h kk y v):XY u v=gq.keq kk x y:=by
 unfold gq.mkOk at hk;rcases e with⟨ho,e⟩|⟨ho,cs,rfl,e⟩
 .rcases e' with⟨_,e'⟩|⟨dC,_⟩
  .rw[ho] at hk;exact(Q04 hk e e').1
  .rw[ho] at dC;cases dC
 .rcases e' with⟨dC,_⟩|⟨_,ds,rfl,e'⟩
  .rw[ho] at dC;cases dC
  .rw[ho] at hk;simp only[zT] at hk;split at hk
   .split at hk
    .rename_i hr;have:=Ly (cs':=[]) (ds':=[]) hr e e';rw[xA,xA] at this;simp only[XY];rw[this];simp[Ql]
    .cases hk
   .cases hk
theorem H7 {B:Heap}{k:Kind}{v:SV}{u:Value}{x:k.T}(h:dkV k v=some x) (hs:SR P B pl tb v u) (hd:∀ {k:Kind}{l:List SV}{x:k.T}{c:List Value},GV k l=some x->SRs P B pl tb l c->KC B k x c):KV B k x u:=by
 unfold dkV at h;cases bJ:k.one with
 |true =>rw[bJ] at h;exact .inl ⟨bJ,hd h (by simp only[SRs];exact⟨u,[],rfl,hs,rfl⟩)⟩
 |false =>
  rw[bJ] at h;simp only[zT] at h;split at h
  .simp only[SR] at hs;obtain⟨cs,rfl,hs⟩:=hs;exact .inr ⟨bJ,cs,rfl,hd h hs⟩
  .cases h
theorem SS {B:Heap}{k:Kind}{z:Value}(h:Xj k (FY k z)=true):KV B k k.dflt z:=by
 have e:=Zg (h:=B) h;unfold FY at e;cases bJ:k.one with
 |true=>rw[bJ] at e;exact .inl ⟨bJ,e⟩
 |false =>
  rw[bJ] at e;simp only[zT] at e;split at e
  .exact .inr ⟨bJ,_,by simp,e⟩
  .have:=KC.length e;have:=k.size_pos;simp at *
   omega
theorem KV.kc {B:Heap}{k:Kind}{x:k.T}{v:Value}(h:KV B k x v) (ho:k.one=true):KC B k x [v]:=by
 rcases h with⟨_,h⟩|⟨h1,_⟩
 .exact h
 .rw[ho] at h1;cases h1
theorem MR.keys {mk:MK}{kk vk:Kind}(hk:gq.mkOk mk kk=true):∀ {m:List (kk.T×vk.T)}{es:List ZZ},MR B kk vk m es->es.all (λe=>Za mk e.1)=true
 |[],es,h=>by simp only[MR] at h;subst h;rfl
 |m::ms,es,h=>by obtain⟨e,bC,rfl,h2,h3,h4⟩:=h;simp only[zX,z1];exact⟨Tm hk h2,MR.keys hk h4⟩
theorem MR.length {kk vk:Kind}:∀ {m:List (kk.T×vk.T)}{es:List ZZ},MR B kk vk m es->es.length=m.length
 |[],es,h=>by simp only[MR] at h;subst h;rfl
 |m::ms,es,h=>by obtain⟨e,bC,rfl,h2,h3,h4⟩:=h;simp[MR.length h4]
theorem MR.find {mk:MK}{kk vk:Kind}(hk:gq.mkOk mk kk=true) {key:kk.T}{kv:Value}(cm:KV B kk key kv) {d:vk.T}{z:Value}(hz:KV B vk d z):∀ {m:List (kk.T×vk.T)}{es:List ZZ},MR B kk vk m es ->
  (∃ e,Qv kv es=some e/\gq.ahas kk m key=true/\KV B vk (gq.aget kk m key d) e.2.1)\/(Qv kv es=none/\gq.ahas kk m key=false/\gq.aget kk m key d=d)
 |[],es,h=>by simp only[MR] at h;subst h;exact .inr ⟨rfl,rfl,rfl⟩
 |m::ms,es,h=>by
  obtain⟨e,bC,rfl,h2,h3,h4⟩:=h;have hq:=RS hk cm h2;cases hc:gq.keq kk key m.1 with
  |true =>refine .inl ⟨e,by simp[Qv,hq,hc],by simp[gq.ahas,hc],by simpa [gq.aget,hc] using h3⟩
  |false =>
   rcases MR.find hk cm hz h4 with⟨e',k1,k2,k3⟩|⟨k1,k2,k3⟩
   .exact .inl ⟨e',by simp[Qv,hq,hc,k1],by simp[gq.ahas,hc,k2],by simpa [gq.aget,hc] using k3⟩
   .exact .inr ⟨by simp[Qv,hq,hc,k1],by simp[gq.ahas,hc,k2],by simpa [gq.aget,hc] using k3⟩
theorem SRs.one {v:SV}{c:List Value}(h:SRs P B pl tb [v] c):∃ u,c=[u]/\SR P B pl tb v u:=by simp only[SRs] at h;simp_all
theorem Qm:∀ {k:Kind}{l:List SV}{x:k.T}{c:List Value},GV k l=some x->SRs P B pl tb l c->KC B k x c
 |.i ik,[],x,c,h,hs|.bo,[],x,c,h,hs|.st,[],x,c,h,hs|.list _,[],x,c,h,hs=>by cases h
 |.i ik,_::_::_,x,c,h,hs|.bo,_::_::_,x,c,h,hs|.st,_::_::_,x,c,h,hs|.list _,_::_::_,x,c,h,hs=>by cases h
 |.i ik,[v],x,c,h,hs=>by
  obtain⟨u,rfl,h1⟩:=hs.one;simp only[GV] at h;split at h
  .rename_i il y;split at h
   .rename_i e;obtain rfl:=osj h;subst e;simp only[SR] at h1;exact h1
   .cases h
  .cases h
 |.bo,[v],x,c,h,hs=>by obtain⟨u,rfl,h1⟩:=hs.one;rw[JK h h1];rfl
 |.st,[v],x,c,h,hs=>by obtain⟨u,rfl,h1⟩:=hs.one;rw[Ki h h1];rfl
 |.list k,[v],x,c,h,hs=>by
  obtain⟨u,rfl,h1⟩:=hs.one;simp only[GV] at h;split at h
  .obtain rfl:=osj h;simp only[SR] at h1;subst h1;exact⟨_,rfl,.inl ⟨rfl,rfl⟩⟩
  .rename_i k' l';obtain rfl:=ZB h;obtain rfl:=Zw h;simp only[SR] at h1;exact h1
  .cases h
 |.pair a b,l,x,c,h,hs=>by
  simp only[GV] at h;split at h
  .rename_i y z h1 h2;obtain rfl:=osj h;exact⟨c.take a.size,c.drop a.size,(xh _ _).symm,Qm h1 (hs.take _),Qm h2 (hs.drop _)⟩
  .cases h
end
theorem Ia {mk:MK}{ik:IntKind}(h:gq.mkI mk ik=true):mk=.int ik:=by cases mk<;>simp_all [gq.mkI]
theorem FR.keys {ik:IntKind}:∀ {l:List (Int×Nat)}{es:List ZZ},FR ik l es->es.all (λe=>Za (.int ik) e.1)=true
 |[],es,h=>by obtain rfl:=h;rfl
 |e::r,es,h=>by obtain⟨st,bC,rfl,h⟩:=h;rw[zX,FR.keys h];simp[Za]
theorem FR.find {ik:IntKind}{n:Int}{f:Nat}:∀ {l:List (Int×Nat)}{es:List ZZ},FR ik l es->gq.fmGet l n=some f->∃ k st,Qv (.int ik n) es=some (k,.func (.func f) #[] #[],st)
 |[],es,_,hf=>by cases hf
 |e::r,es,h,hf=>by
  obtain⟨st,bC,rfl,h⟩:=h;simp only[gq.fmGet] at hf;by_cases c:n=e.1
  .rw[wb c] at hf;obtain rfl:=osj hf;exact⟨.int ik e.1,st,by simp[Qv,XY,c]⟩
  .rw[xL c] at hf;obtain⟨k,kg,h2⟩:=FR.find h hf;exact⟨k,kg,by simp[Qv,XY,c,h2]⟩
theorem FR.put {ik:IntKind}{n:Int}{f clock:Nat}:∀ {l:List (Int×Nat)}{es:List ZZ},FR ik l es->gq.fmGet l n=none->FR ik (l++[(n,f)]) (QC (.int ik n) (.func (.func f) #[] #[]) clock es).1
 |[],es,h,_=>by obtain rfl:=h;exact⟨clock,[],rfl,rfl⟩
 |e::r,es,h,hf=>by
  obtain⟨st,bC,rfl,h⟩:=h;simp only[gq.fmGet] at hf;by_cases c:n=e.1
  .rw[wb c] at hf;cases hf
  .rw[xL c] at hf;have:=FR.put (f:=f) (clock:=clock) h hf;simp only[QC,XY,zj,c,if_false];exact⟨st,_,rfl,this⟩
end Go.V
namespace Go.V
open Go
theorem InK.wrap {k:IntKind}{x:Int}(h:InK k x):k.wrap x=x:=by obtain⟨h1,h2⟩:=h;cases k<;>simp[IntKind.wrap,IntKind.bits,IntKind.signed,IntKind.min,IntKind.max] at h1 h2 |-<;>(try split)<;>omega
section
variable {P:Program}{B:Heap}{pl:Nat->Value}{tb:Nat->Option Bool}{own:Own}{U:Heap}
def QOk (P:Program) (B:Heap) (pl:Nat->Value) (tb:Nat->Option Bool) (U:Heap) (o:VOp) (evV:Operand->Value) (v:SV):Prop:=∃ u,Q8 o evV U=some (u,U)/\SR P B pl tb v u
theorem JT (k:IntKind) (x:Int):SR P B pl tb (.val (.i k) x) (.int k x):=by simp[SR,KC]
theorem Zo (x:Bool):SR P B pl tb (.val .bo x) (.bool x):=by simp[SR,KC]
theorem BU (x:List UInt8):SR P B pl tb (.val .st x) (.string ⟨x.toArray⟩):=by simp[SR,KC]
theorem QK {α β:Type _}{a c:α}{b d:β}(h:some (a,b)=some (c,d)):a=c/\b=d:=by cases h;exact⟨rfl,rfl⟩
section
variable {kt:List (Nat×Kind)}{raw:Bool}{ev:Operand->SV}{evV:Operand->Value}{cs:List Prop}{v:SV}
theorem NQ (af:∀ x,SR P B pl tb (ev x) (evV x)) {x y:Operand}{k k':IntKind}{a b:Int}(h1:asI (ev x)=some (k,a)) (h2:asI (ev y)=some (k',b)):evV x=.int k a/\evV y=.int k' b:=⟨QS h1 (af x),QS h2 (af y)⟩
theorem Q19 (af:∀ x,SR P B pl tb (ev x) (evV x)) {op:BinOp}{x y:Operand}(h:gq kt raw (.arith op x y) ev own=some (cs,v)) (hc:∀ c∈cs,c):QOk P B pl tb U (.arith op x y) evV v:=by
 simp only[gq] at h;split at h
 .rename_i k a k' b h1 h2;obtain⟨e1,e2⟩:=NQ af h1 h2;split at h
  .rename_i hk;subst hk;cases raw with
   |true =>
    obtain⟨rfl,rfl⟩:=QK h;refine⟨_,by simp only[Q8,e1,e2,zx]<;>rfl,?_⟩;have:PF op k a b=k.wrap (Bn op a b):=by cases op<;>rfl
    rw[this];exact JT _ _
   |false =>
    obtain⟨rfl,rfl⟩:=QK h;refine⟨_,by simp only[Q8,e1,e2,zx]<;>rfl,?_⟩;have:PF op k a b=Bn op a b:=by
     have hw:InK k (Bn op a b):=hc _ (by simp);have e:PF op k a b=k.wrap (Bn op a b):=by cases op<;>rfl
     rw[e,hw.wrap]
    rw[this];exact JT _ _
  .cases h
 .cases h
theorem Q4y (af:∀ x,SR P B pl tb (ev x) (evV x)) {op:BinOp}{x y:Operand}(h:gq kt raw (.div op x y) ev own=some (cs,v)) (hc:∀ c∈cs,c):QOk P B pl tb U (.div op x y) evV v:=by
 simp only[gq] at h;split at h
 .rename_i k a k' b h1 h2;obtain⟨e1,e2⟩:=NQ af h1 h2;split at h
  .rename_i hk;subst hk;split at h
   .obtain⟨rfl,rfl⟩:=QK h;have hb:b≠0:=hc _ (by simp);have hw:InK k (a.tdiv b):=hc _ (by simp);refine⟨_,by simp only[Q8,e1,e2,hb,ne_eq,not_false_iff,and_self,zx]<;>rfl,?_⟩;simp only[Q21,hw.wrap];exact JT _ _
   .obtain⟨rfl,rfl⟩:=QK h;have hb:b≠0:=hc _ (by simp);refine⟨_,by simp only[Q8,e1,e2,hb,ne_eq,not_false_iff,and_self,zx]<;>rfl,?_⟩;rename_i bB;have:Q21 op k a b=a.tmod b:=by unfold Q21;split<;>simp_all
    rw[this];exact JT _ _
  .cases h
 .cases h
theorem Q31 (af:∀ x,SR P B pl tb (ev x) (evV x)) {op:BinOp}{x y:Operand}(h:gq kt raw (.bits op x y) ev own=some (cs,v)):QOk P B pl tb U (.bits op x y) evV v:=by
 simp only[gq] at h;split at h
 .rename_i k a k' b h1 h2;obtain⟨e1,e2⟩:=NQ af h1 h2;split at h
  .rename_i hk;subst hk;obtain⟨rfl,rfl⟩:=QK h;exact⟨_,by simp only[Q8,e1,e2,zx]<;>rfl,JT _ _⟩
  .cases h
 .cases h
theorem Q0n (af:∀ x,SR P B pl tb (ev x) (evV x)) {op:BinOp}{x y:Operand}(h:gq kt raw (.shift op x y) ev own=some (cs,v)) (hc:∀ c∈cs,c):QOk P B pl tb U (.shift op x y) evV v:=by
 simp only[gq] at h;split at h
 .rename_i k a k' b h1 h2;obtain⟨e1,e2⟩:=NQ af h1 h2;split at h
  .cases raw with
   |true =>obtain⟨rfl,rfl⟩:=QK h;have hb:0<=b:=hc _ (by simp);exact⟨_,by simp only[Q8,e1,e2,hb,zx]<;>rfl,JT _ _⟩
   |false =>obtain⟨rfl,rfl⟩:=QK h;have hb:0<=b:=hc _ (by simp);have hw:InK k (LH k a b):=hc _ (by simp);refine⟨_,by simp only[Q8,e1,e2,hb,zx]<;>rfl,?_⟩;have:Po .shl k a b=k.wrap (LH k a b):=rfl;rw[this,hw.wrap];exact JT _ _
  .obtain⟨rfl,rfl⟩:=QK h;have hb:0<=b:=hc _ (by simp);refine⟨_,by simp only[Q8,e1,e2,hb,zx]<;>rfl,?_⟩;have:Po op k a b=Q17 k a b:=by unfold Po;split<;>simp_all [Q17]
   rw[this];exact JT _ _
 .cases h
theorem Q5f (af:∀ x,SR P B pl tb (ev x) (evV x)) {op:BinOp}{x y:Operand}(h:gq kt raw (.cmp op x y) ev own=some (cs,v)):QOk P B pl tb U (.cmp op x y) evV v:=by
 simp only[gq] at h;split at h
 .rename_i k a k' b h1 h2;obtain⟨e1,e2⟩:=NQ af h1 h2;split at h
  .rename_i hk;subst hk;obtain⟨rfl,rfl⟩:=QK h;exact⟨_,by simp only[Q8,e1,e2,zx]<;>rfl,Zo _⟩
  .cases h
 .cases h
theorem Q63 (af:∀ x,SR P B pl tb (ev x) (evV x)) {op:BinOp}{x y:Operand}(h:gq kt raw (.str op x y) ev own=some (cs,v)) (hc:∀ c∈cs,c):QOk P B pl tb U (.str op x y) evV v:=by
 simp only[gq] at h;split at h
 .rename_i a b h1 h2;have e1:=Ki h1 (af x);have e2:=Ki h2 (af y);split at h
  .obtain⟨rfl,rfl⟩:=QK h;have hw:a.length+b.length<=4611686018427387904:=hc _ (by simp);refine⟨.string (⟨a.toArray⟩++⟨b.toArray⟩),by simp only[Q8,e1,e2];rw[z6 (by simpa [ByteArray.size] using hw)],?_⟩;have:(⟨a.toArray⟩:ByteArray)++⟨b.toArray⟩=⟨(a++b).toArray⟩:=by
    apply ByteArray.ext;simp
   rw[this];exact BU _
  .obtain⟨rfl,rfl⟩:=QK h;exact⟨_,by simp only[Q8,e1,e2]<;>rfl,Zo _⟩
  .obtain⟨rfl,rfl⟩:=QK h;exact⟨_,by simp only[Q8,e1,e2]<;>rfl,Zo _⟩
  .obtain⟨rfl,rfl⟩:=QK h;exact⟨_,by simp only[Q8,e1,e2]<;>rfl,Zo _⟩
  .cases h
 .cases h
theorem Q64 (af:∀ x,SR P B pl tb (ev x) (evV x)) {neg:Bool}{x y:Operand}(h:gq kt raw (.eqB neg x y) ev own=some (cs,v)):QOk P B pl tb U (.eqB neg x y) evV v:=by
 simp only[gq] at h;split at h
 .rename_i a b h1 h2;have e1:=JK h1 (af x);have e2:=JK h2 (af y);obtain⟨rfl,rfl⟩:=QK h;exact⟨_,by simp only[Q8,e1,e2]<;>rfl,Zo _⟩
 .cases h
theorem DJ {k:MK}{a b:SV}{r:Bool}{u w:Value}(h:AV k a b=some r) (ha:SR P B pl tb a u) (hb:SR P B pl tb b w):IC k u=true/\IC k w=true/\Yh u w=r:=by
 cases k with
 |agg s=>cases h
 |int q =>
  simp only[AV] at h;split at h
  .rename_i q1 x q2 y h1 h2;split at h
   .rename_i hq;obtain⟨rfl,rfl⟩:=hq;obtain rfl:=osj h;rw[QS h1 ha,QS h2 hb];exact⟨by simp[IC],by simp[IC],rfl⟩
   .cases h
  .cases h
 |bool =>
  simp only[AV] at h;split at h
  .rename_i x y h1 h2;obtain rfl:=osj h;rw[JK h1 ha,JK h2 hb];exact⟨rfl,rfl,rfl⟩
  .cases h
 |string =>
  simp only[AV] at h;split at h
  .rename_i x y h1 h2;obtain rfl:=osj h;rw[Ki h1 ha,Ki h2 hb];exact⟨rfl,rfl,rfl⟩
  .cases h
theorem Gi:∀ {s:List MK}{l m:List SV}{r:Bool}{us ws:List Value},BN s l m=some r->SRs P B pl tb l us->SRs P B pl tb m ws->fits s us=true/\fits s ws=true/\Ql us ws=r
 |[],_,_,_,_,_,h,_,_=>by cases h
 |k::ks,[],_,_,_,_,h,_,_=>by simp[BN] at h
 |k::ks,_::_,[],_,_,_,h,_,_=>by simp[BN] at h
 |[k],a::l,b::m,r,us,ws,h,ha,hb=>by
  simp only[BN] at h;split at h
  .simp only[SRs] at ha hb;obtain⟨u,lG,rfl,h1,rfl⟩:=ha;obtain⟨w,t_,rfl,h2,rfl⟩:=hb;obtain⟨f1,f2,f3⟩:=DJ h h1 h2;simp[fits,Ql,f1,f2,f3]
  .cases h
 |k::k'::ks,a::l,b::m,r,us,ws,h,ha,hb=>by
  simp only[BN] at h;split at h
  .rename_i x y hx hy;obtain rfl:=osj h;simp only[SRs] at ha hb;obtain⟨u,lG,rfl,h1,ij⟩:=ha;obtain⟨w,t_,rfl,h2,fh⟩:=hb;obtain⟨f1,f2,f3⟩:=DJ hx h1 h2;obtain⟨g1,g2,g3⟩:=Gi (s:=k'::ks) hy ij fh;rw[fits,fits,f1,f2,g1,g2,Ql,f3,g3];exact⟨rfl,rfl,rfl⟩
  .cases h
theorem Q1l (af:∀ x,SR P B pl tb (ev x) (evV x)) {neg:Bool}{s:List MK}{x y:Operand}(h:gq kt raw (.ext (.eqAgg neg s x y)) ev own=some (cs,v)):QOk P B pl tb U (.ext (.eqAgg neg s x y)) evV v:=by
 simp only[gq] at h;split at h
 .rename_i l m h1 h2;obtain⟨b,hb,he⟩:=zk.1 h;obtain⟨rfl,rfl⟩:=(by cases he;exact⟨rfl,rfl⟩:[]=cs/\SV.val .bo (bif neg then !b else b)=v);have e1:=af x;have e2:=af y;rw[h1] at e1;rw[h2] at e2;simp only[SR] at e1 e2;obtain⟨us,e1,k1⟩:=e1;obtain⟨ws,e2,k2⟩:=e2;obtain⟨f1,f2,f3⟩:=Gi hb k1 k2;refine⟨.bool (if neg then !b else b),?_,by cases neg<;>exact Zo _⟩;simp only[Q8,QT,e1,e2];simp_all
 .cases h
theorem Q82 (af:∀ x,SR P B pl tb (ev x) (evV x)) {op:UnOp}{x:Operand}(h:gq kt raw (.un op x) ev own=some (cs,v)) (hc:∀ c∈cs,c):QOk P B pl tb U (.un op x) evV v:=by
 simp only[gq] at h;split at h
 .split at h
  .rename_i b h1;obtain⟨rfl,rfl⟩:=QK h;exact⟨_,by simp only[Q8,JK h1 (af x)]<;>rfl,Zo _⟩
  .cases h
 .split at h
  .rename_i k n h1;obtain⟨rfl,rfl⟩:=QK h;have hw:InK k (0-n):=hc _ (by simp);refine⟨_,by simp only[Q8,QS h1 (af x)]<;>rfl,?_⟩;rw[hw.wrap];exact JT _ _
  .cases h
 .split at h
  .rename_i k n h1;obtain⟨rfl,rfl⟩:=QK h;exact⟨_,by simp only[Q8,QS h1 (af x)]<;>rfl,JT _ _⟩
  .cases h
 .cases h
theorem Q11 (af:∀ x,SR P B pl tb (ev x) (evV x)) {k:IntKind}{x:Operand}(h:gq kt raw (.convI k x) ev own=some (cs,v)) (hc:∀ c∈cs,c):QOk P B pl tb U (.convI k x) evV v:=by
 simp only[gq] at h;split at h
 .rename_i k' n h1;cases raw with
  |true =>obtain⟨rfl,rfl⟩:=QK h;exact⟨_,by simp only[Q8,QS h1 (af x)]<;>rfl,JT _ _⟩
  |false =>obtain⟨rfl,rfl⟩:=QK h;have hw:InK k n:=hc _ (by simp);refine⟨_,by simp only[Q8,QS h1 (af x)]<;>rfl,?_⟩;rw[hw.wrap];exact JT _ _
 .cases h
theorem Q1a (af:∀ x,SR P B pl tb (ev x) (evV x)) {x:Operand}(h:gq kt raw (.convS x) ev own=some (cs,v)):QOk P B pl tb U (.convS x) evV v:=by
 simp only[gq] at h;split at h
 .rename_i s h1;obtain⟨rfl,rfl⟩:=QK h;exact⟨_,by simp only[Q8,Ki h1 (af x)]<;>rfl,BU _⟩
 .cases h
theorem Q0m (af:∀ x,SR P B pl tb (ev x) (evV x)) {z:List Value}{ps:List (Nat×Nat×Operand)}(h:gq kt raw (.build z ps) ev own=some (cs,v)):QOk P B pl tb U (.build z ps) evV v:=by
 simp only[gq] at h;split at h
 .rename_i l h1;obtain⟨rfl,rfl⟩:=QK h;have hz:SRs P B pl tb (z.map cvp) (z.map id):=SRs.map λx _=>Mc x;rw[List.map_id] at hz;obtain⟨lV,h2,h3⟩:=Dv af hz h1;refine⟨.agg lV.toArray,by simp only[Q8,h2],?_⟩;simp only[SR];exact⟨lV,rfl,h3⟩
 .cases h
theorem Q49 (af:∀ x,SR P B pl tb (ev x) (evV x)) (hle:B.Le U) (ax:∀ d,OR P B pl tb U (pl d) (Qa own d)) {agg:Bool}{size:Nat}{a:Operand}(h:gq kt raw (.load agg size a) ev own=some (cs,v)):QOk P B pl tb U (.load agg size a) evV v:=by
 simp only[gq] at h;cases hb:Nat.blt 0 size with
 |false=>rw[hb] at h;cases h
 |true =>
  rw[hb] at h;simp only[zh,zk] at h;obtain⟨v',h1,h2⟩:=h;obtain⟨rfl,rfl⟩:=(by simpa only [Prod.mk.injEq] using h2:_=cs/\_=v);have hs:0<size:=by simpa [zG] using hb
  obtain⟨i,o,c,e,wr,t,u,h3,h4,h5,h6⟩:=Bw hle ax hs h1 (af a);exact⟨u,by simp only[Q8,h3,h4,h5],h6⟩
theorem C4 (af:∀ x,SR P B pl tb (ev x) (evV x)) {off:Nat}{a:Operand}(h:gq kt raw (.fieldAddr off a) ev own=some (cs,v)):QOk P B pl tb U (.fieldAddr off a) evV v:=by
 have ha:=af a;simp only[gq] at h;split at h
 .rename_i o f heq;obtain⟨rfl,rfl⟩:=QK h;rw[heq] at ha;simp only[SR] at ha;obtain⟨b,h1,h2⟩:=ha;refine⟨_,by simp only[Q8,h2]<;>rfl,?_⟩;simp only[SR];exact⟨b,h1,rfl⟩
 .rename_i l f heq;obtain⟨rfl,rfl⟩:=QK h;rw[heq] at ha;simp only[SR] at ha;obtain⟨b,c,e,wr,t,h1,h2,h3⟩:=ha;refine⟨_,by simp only[Q8,h2]<;>rfl,?_⟩;simp only[SR];exact⟨b,c,e,wr,t,h1,rfl,h3⟩
 .rename_i o i f sz heq;obtain⟨rfl,rfl⟩:=QK h;rw[heq] at ha;simp only[SR] at ha;obtain⟨b,len,cap,h1,h2,h3,h4⟩:=ha;refine⟨_,by simp only[Q8,h4]<;>rfl,?_⟩;simp only[SR];grind
 .rename_i o w heq;rw[heq] at ha;simp only[SR] at ha;split at h
  .obtain⟨rfl,rfl⟩:=QK h;obtain⟨b,len,cap,h1,h2,h3,h4⟩:=ha;refine⟨_,by simp only[Q8,h4]<;>rfl,?_⟩;simp only[SR,DR];grind
  .obtain⟨rfl,rfl⟩:=QK h;obtain⟨b,len,cap,c,e,t,r,rl,rc,aJ,re,rt,h1,h2,h3,h4,h5,h6,h7,h8,h9,cf,ga,qv⟩:=ha;refine⟨_,by simp only[Q8,qv]<;>rfl,?_⟩;simp only[SR,DR];exact⟨b,len,cap,c,e,t,r,rl,rc,aJ,re,rt,h1,h2,h3,h4,h5,h6,h7,h8,h9,cf,ga,by rw[zE]⟩
  .obtain⟨rfl,rfl⟩:=QK h;obtain⟨b,o',c,e,wr,t,h1,h2,h3,h4,h5,h6⟩:=ha;refine⟨_,by simp only[Q8,h4]<;>rfl,?_⟩;simp only[SR,DR];grind
  .cases h
 .rename_i k l i f heq;obtain⟨rfl,rfl⟩:=QK h;rw[heq] at ha;simp only[SR] at ha;obtain⟨b,o,c,e,wr,t,h1,h2,h3,h4,h5,h6⟩:=ha;refine⟨_,by simp only[Q8,h4]<;>rfl,?_⟩;simp only[SR];grind
 .cases h
theorem Q0q (af:∀ x,SR P B pl tb (ev x) (evV x)) {agg:Bool}{off size:Nat}{x:Operand}(h:gq kt raw (.field agg off size x) ev own=some (cs,v)):QOk P B pl tb U (.field agg off size x) evV v:=by
 have ha:=af x;simp only[gq] at h;split at h
 .rename_i l heq;rw[heq] at ha;simp only[SR] at ha;obtain⟨c,h1,h2⟩:=ha;simp only[zk] at h;obtain⟨v',h3,h4⟩:=h;obtain⟨rfl,rfl⟩:=(by simpa only [Prod.mk.injEq] using h4:_=cs/\_=v);obtain⟨u,h5,h6⟩:=ZQ h2 h3;exact⟨u,by simp only[Q8,h1,h5],h6⟩
 .cases h
theorem Iq (af:∀ x,SR P B pl tb (ev x) (evV x)) {x:Operand}{i:Nat}(h:gq kt raw (.extract x i) ev own=some (cs,v)):QOk P B pl tb U (.extract x i) evV v:=by
 have ha:=af x;simp only[gq] at h;split at h
 .rename_i l heq;rw[heq] at ha;simp only[SR] at ha;obtain⟨c,h1,h2⟩:=ha;simp only[zk] at h;obtain⟨v',h3,h4⟩:=h;obtain⟨rfl,rfl⟩:=(by simpa only [Prod.mk.injEq] using h4:_=cs/\_=v);obtain⟨u,h5,h6⟩:=h2.get h3;exact⟨u,by simp only[Q8,h1,h5],h6⟩
 .cases h
theorem E6 (af:∀ x,SR P B pl tb (ev x) (evV x)) {x:Operand}(h:gq kt raw (.nilCheck x) ev own=some (cs,v)):QOk P B pl tb U (.nilCheck x) evV v:=by
 have ha:=af x;simp only[gq] at h;split at h
 .rename_i o f heq;obtain⟨rfl,rfl⟩:=QK h;rw[heq] at ha;have hb:=ha;simp only[SR] at ha;obtain⟨b,h1,h2⟩:=ha;exact⟨_,by simp only[Q8,h2]<;>rfl,by rw[<-h2];exact hb⟩
 .rename_i l f heq;obtain⟨rfl,rfl⟩:=QK h;rw[heq] at ha;have hb:=ha;simp only[SR] at ha;obtain⟨b,c,e,wr,t,h1,h2,h3⟩:=ha;exact⟨_,by simp only[Q8,h2]<;>rfl,by rw[<-h2];exact hb⟩
 .rename_i f a b heq;obtain⟨rfl,rfl⟩:=QK h;rw[heq] at ha;have hb:=ha;simp only[SR] at ha;obtain⟨x1,y1,h1,h2,h3⟩:=ha;exact⟨_,by simp only[Q8,h1]<;>rfl,by rw[<-h1];exact hb⟩
 .cases h
theorem AG (af:∀ x,SR P B pl tb (ev x) (evV x)) {x i:Operand}(h:gq kt raw (.indexStr x i) ev own=some (cs,v)) (hc:∀ c∈cs,c):QOk P B pl tb U (.indexStr x i) evV v:=by
 simp only[gq] at h;split at h
 .rename_i s k j h1 h2;have e1:=Ki h1 (af x);have e2:=QS h2 (af i);obtain⟨rfl,rfl⟩:=QK h;have k1:0<=j:=hc _ (by simp);have k2:j<s.length:=hc _ (by simp);have k3:j.toNat<s.length:=by omega
  refine⟨.int .u8 (s[j.toNat].toNat:Int),by simp only[Q8,e1,e2,k1,zx];simp[k3],?_⟩
  grind [JT]
 .cases h
theorem Ee (af:∀ x,SR P B pl tb (ev x) (evV x)) (fz:∀ c,evV (.const c)=c) {len size:Nat}{agg:Bool}{x i:Operand}(h:gq kt raw (.indexArr len agg size x i) ev own=some (cs,v)):QOk P B pl tb U (.indexArr len agg size x i) evV v:=by
 have ha:=af x;simp only[gq] at h;split at h
 .rename_i l k j heq;split at h
  .rename_i hj;rw[heq] at ha;simp only[SR] at ha;obtain⟨c,h1,h2⟩:=ha;simp only[zk] at h;obtain⟨v',h3,h4⟩:=h;obtain⟨rfl,rfl⟩:=(by simpa only [Prod.mk.injEq] using h4:_=cs/\_=v);obtain⟨u,h5,h6⟩:=ZQ h2 h3;refine⟨u,?_,h6⟩;simp only[Q8,h1,fz];simp_all
  .cases h
 .cases h
theorem Hx (af:∀ x,SR P B pl tb (ev x) (evV x)) (fz:∀ c,evV (.const c)=c) {len size:Nat}{x i:Operand}(h:gq kt raw (.indexAddrArr len size x i) ev own=some (cs,v)):QOk P B pl tb U (.indexAddrArr len size x i) evV v:=by
 have ha:=af x;simp only[gq] at h;split at h
 .rename_i o f k j heq;split at h
  .rename_i hj;obtain⟨rfl,rfl⟩:=QK h;rw[heq] at ha;simp only[SR] at ha;obtain⟨b,h1,h2⟩:=ha;refine⟨.pointer (some ⟨b,f+j*size,none⟩),?_,?_⟩
   .simp only[Q8,h2,fz];simp_all
   .simp only[SR];exact⟨b,h1,rfl⟩
  .cases h
 .rename_i l f k j heq;split at h
  .rename_i hj;obtain⟨rfl,rfl⟩:=QK h;rw[heq] at ha;simp only[SR] at ha;obtain⟨b,c,e,wr,t,h1,h2,h3⟩:=ha;refine⟨.pointer (some ⟨b,f+j*size,none⟩),?_,?_⟩
   .simp only[Q8,h2,fz];simp_all
   .simp only[SR];exact⟨b,c,e,wr,t,h1,rfl,h3⟩
  .cases h
 .rename_i kk l q f k j heq;split at h
  .rename_i hj;obtain⟨rfl,rfl⟩:=QK h;rw[heq] at ha;simp only[SR] at ha;obtain⟨b,o,c,e,wr,t,h1,h2,h3,h4,h5,h6⟩:=ha;refine⟨.pointer (some ⟨b,o+q.toNat*kk.size+f+j*size,none⟩),?_,?_⟩
   .simp only[Q8,h4,fz];simp_all
   .simp only[SR];grind
  .cases h
 .cases h
theorem LS (af:∀ x,SR P B pl tb (ev x) (evV x)) (_hle:B.Le U) (ax:∀ d,OR P B pl tb U (pl d) (Qa own d)) {size:Nat}{x i:Operand}(h:gq kt raw (.indexAddr size x i) ev own=some (cs,v)) (hc:∀ c∈cs,c):QOk P B pl tb U (.indexAddr size x i) evV v:=by
 have ha:=af x;simp only[gq] at h;split at h
 .rename_i o k' j heq hj;have ej:=QS hj (af i);split at h
  .rename_i ty k xs nl ho;split at h
   .rename_i az;obtain⟨rfl,rfl⟩:=QK h;have h0:0<=j:=hc _ (by simp);have h1:j<xs.length:=hc _ (by simp);rw[heq] at ha;simp only[SR] at ha;have ah:=ax o;rw[ho] at ah;rcases ah with⟨_,rfl,_⟩|⟨_,b,cap,c,t,h2,h3,h4,h5,h6⟩
    .simp at h1;omega
    .refine⟨.pointer (some ⟨b,0+j.toNat*size,none⟩),?_,?_⟩
     .simp only[Q8,ha.1,h2,ej];rw[z6 ⟨h0,h1⟩]
     .simp only[SR];grind
   .cases h
  .cases h
 .rename_i o w k' j heq hj;have ej:=QS hj (af i);rw[heq] at ha;simp only[SR] at ha;have ah:=ax o;split at h
  .rename_i ty q k xs nl hole ho;rw[ho] at ah;split at h
   .have key:(if k.size=size then some ([0<=j,j<xs.length],SV.dd o (.el j 0 size)) else none)=some (cs,v)->QOk P B pl tb U (.indexAddr size x i) evV v:=by
     intro h;split at h
     .rename_i az;obtain⟨rfl,rfl⟩:=QK h;have h0:0<=j:=hc _ (by simp);have h1:j<xs.length:=hc _ (by simp);obtain⟨is,_,_,h2,_⟩:=ah;rcases h2 with⟨rfl,_⟩|⟨b,cap,c,t,js,h2,_⟩
      .simp at h1;omega
      .refine⟨.pointer (some ⟨b,0+j.toNat*size,none⟩),?_,?_⟩
       .simp only[Q8,ha.1,h2,ej];rw[z6 ⟨h0,h1⟩]
       .simp only[SR,DR];grind
     .cases h
    grind
   .rename_i kr l ir;split at h
    .rename_i az;obtain⟨rfl,rfl⟩:=QK h;have h0:0<=j:=hc _ (by simp);have h1:j<l.length:=hc _ (by simp);obtain⟨r7,bg,b,len,cap,c,e,t,g1,g2,g3,g4,g5⟩:=ha;obtain⟨r,o',rc,aJ,re,r8,rt,k1,k2,k3,k4⟩:=CE r7 (j:=j.toNat) (by omega);obtain rfl:o'=0:=bg _ _ _ k1;obtain rfl:=OK k2;refine⟨.pointer (some ⟨r,0+j.toNat*size,none⟩),?_,?_⟩
     .simp only[Q8,k1,ej];rw[z6 ⟨h0,h1⟩]
     .simp only[SR,DR];exact⟨b,len,cap,c,e,t,r,l.length,rc,aJ,re,rt,g1,g2,g3,g4,by rw[g5,k1],h0,h1,rfl,k2,by omega,by rw[xr] at k4;exact k4,by simp[az]⟩
    .cases h
   .rename_i kr l;split at h
    .rename_i az;obtain⟨rfl,rfl⟩:=QK h;have h0:0<=j:=hc _ (by simp);have h1:j<l.length:=hc _ (by simp);obtain⟨r,o',rc,aJ,re,r8,rt,k1,k2,k3,k4⟩:=CE (show KC (Je (pl o)) (.list kr) l [evV x] from ha) (j:=j.toNat) (by omega);refine⟨.pointer (some ⟨r,o'+j.toNat*size,none⟩),?_,?_⟩
     .simp only[Q8,k1,ej];rw[z6 ⟨h0,h1⟩]
     .simp only[SR,DR];exact⟨r,o',aJ,re,r8,rt,h0,h1,k2,by simp[az],k3,k4⟩
    .cases h
   .cases h
  .cases h
 .rename_i o lo n sz k' j heq hj;have ej:=QS hj (af i);split at h
  .rename_i ty k xs nl ho;split at h
   .rename_i az;obtain⟨az,rfl⟩:=az;obtain⟨rfl,rfl⟩:=QK h;have h0:0<=j:=hc _ (by simp);have h1:j<n:=hc _ (by simp);rw[heq] at ha;simp only[SR] at ha;rcases ha with⟨rfl,rfl,_,_⟩|⟨b,len,cap,ao,h2,h3,h4,h5⟩
    .simp at h1;omega
    .refine⟨.pointer (some ⟨b,lo*sz+j.toNat*sz,none⟩),?_,?_⟩
     .simp only[Q8,h5,ej];rw[z6 ⟨h0,h1⟩]
     .simp only[SR];refine⟨b,len,cap,h2,by omega,by omega,?_⟩;have:((lo:Int)+j).toNat=lo+j.toNat:=by omega
      rw[this,zH,zU]
   .cases h
  .cases h
 .rename_i k l k' j heq hj;have ej:=QS hj (af i);split at h
  .rename_i az;obtain⟨rfl,rfl⟩:=QK h;have h0:0<=j:=hc _ (by simp);have h1:j<l.length:=hc _ (by simp);rw[heq] at ha;simp only[SR,KC] at ha;obtain⟨v',e,hs⟩:=ha;obtain e:=(zM e).1;rcases hs with⟨rfl,_⟩|⟨b,o,cap,c,e',wr,t,h2,h3,h4,h5,h6,h7⟩
   .simp at h1;omega
   .refine⟨.pointer (some ⟨b,o+j.toNat*size,none⟩),?_,?_⟩
    .simp only[Q8,e,h2,ej];rw[z6 ⟨h0,h1⟩]
    .simp only[SR];exact⟨b,o,c,e',wr,t,h0,h1,h4,by rw[az,zU],h6,h7⟩
  .cases h
 .cases h
theorem QI (af:∀ x,SR P B pl tb (ev x) (evV x)) {x:Option Operand}{d:Nat}{a:Int}(h:Xh ev x d=some a) (ha:0<=a):Zq evV x d=some a.toNat:=by
 cases x with
 |none=>obtain rfl:=osj h;simp[Zq]
 |some x =>simp only[Xh,zk] at h;obtain⟨⟨k,a'⟩,h1,h2⟩:=h;simp only at h2;subst h2;simp only[Zq,QS h1 (af x),ha,zx]
theorem Eh (af:∀ x,SR P B pl tb (ev x) (evV x)) {x:Operand}{lo hi:Option Operand}(h:gq kt raw (.sliceStr x lo hi) ev own=some (cs,v)) (hc:∀ c∈cs,c):QOk P B pl tb U (.sliceStr x lo hi) evV v:=by
 simp only[gq] at h;split at h
 .rename_i s hs;have es:=Ki hs (af x);split at h
  .rename_i a b h1 h2;obtain⟨rfl,rfl⟩:=QK h;have k0:0<=a:=hc _ (by simp);have k1:a<=b:=hc _ (by simp);have k2:b<=s.length:=hc _ (by simp);have e1:=QI (evV:=evV) af h1 k0;have e2:=QI (evV:=evV) af h2 (by omega);have iY:(ByteArray.mk s.toArray).size=s.length:=by simp[ByteArray.size]
   refine⟨.string ((ByteArray.mk s.toArray).extract a.toNat b.toNat),?_,?_⟩
   .simp only[Q8,es,iY,e1,e2];rw[z6 (by omega)]
   .have:(ByteArray.mk s.toArray).extract a.toNat b.toNat=⟨((s.drop a.toNat).take (b-a).toNat).toArray⟩:=by
     apply ByteArray.ext
     grind [ByteArray.data_extract]
    rw[this];exact BU _
  .cases h
 .cases h
theorem Q4w (af:∀ x,SR P B pl tb (ev x) (evV x)) (ax:∀ d,OR P B pl tb U (pl d) (Qa own d)) {x:Operand}(h:gq kt raw (.len x) ev own=some (cs,v)):QOk P B pl tb U (.len x) evV v:=by
 simp only[gq] at h;split at h
 .rename_i n h1;obtain⟨rfl,rfl⟩:=QK h;obtain⟨a,cap,e⟩:=AJ ax h1 (af x);exact⟨.int .i64 n,by simp only[Q8,e],JT _ _⟩
 .cases h
theorem IU (af:∀ x,SR P B pl tb (ev x) (evV x)) {x:Operand}(h:gq kt raw (.lenStr x) ev own=some (cs,v)):QOk P B pl tb U (.lenStr x) evV v:=by
 simp only[gq] at h;split at h
 .rename_i s h1;obtain⟨rfl,rfl⟩:=QK h;exact⟨.int .i64 s.length,by simp only[Q8,Ki h1 (af x)];simp[ByteArray.size],JT _ _⟩
 .cases h
theorem Q6g (af:∀ x,SR P B pl tb (ev x) (evV x)) {x y:Operand}(h:gq kt raw (.max x y) ev own=some (cs,v)):QOk P B pl tb U (.max x y) evV v:=by
 simp only[gq] at h;split at h
 .rename_i k a k' b h1 h2;obtain⟨e1,e2⟩:=NQ af h1 h2;split at h
  .rename_i hk;subst hk;obtain⟨rfl,rfl⟩:=QK h;exact⟨.int k (Q05 a b),by simp only[Q8,e1,e2,zx];rfl,JT _ _⟩
  .cases h
 .cases h
theorem Q3a (af:∀ x,SR P B pl tb (ev x) (evV x)) {x y z w:Operand}(h:gq kt raw (.max4 x y z w) ev own=some (cs,v)):QOk P B pl tb U (.max4 x y z w) evV v:=by
 simp only[gq] at h;split at h
 .rename_i k a k2 b k3 c k4 d h1 h2 h3 h4;obtain⟨e1,e2⟩:=NQ af h1 h2;obtain⟨e3,e4⟩:=NQ af h3 h4;split at h
  .rename_i hk;obtain⟨rfl,rfl,rfl⟩:=hk;obtain⟨rfl,rfl⟩:=QK h;exact⟨.int k (Q05 (Q05 (Q05 a b) c) d),by simp only[Q8,e1,e2,e3,e4,and_self,zx];rfl,JT _ _⟩
  .cases h
 .cases h
theorem Q6f (af:∀ x,SR P B pl tb (ev x) (evV x)) {x y:Operand}(h:gq kt raw (.min x y) ev own=some (cs,v)):QOk P B pl tb U (.min x y) evV v:=by
 simp only[gq] at h;split at h
 .rename_i k a k' b h1 h2;obtain⟨e1,e2⟩:=NQ af h1 h2;split at h
  .rename_i hk;subst hk;obtain⟨rfl,rfl⟩:=QK h;exact⟨.int k (Q7a a b),by simp only[Q8,e1,e2,zx];rfl,JT _ _⟩
  .cases h
 .cases h
theorem Em (af:∀ x,SR P B pl tb (ev x) (evV x)) {fn:Fn}{a b:List Operand}(h:gq kt raw (.makeFunc fn a b) ev own=some (cs,v)):QOk P B pl tb U (.makeFunc fn a b) evV v:=by
 cases fn with
 |func f =>obtain⟨rfl,rfl⟩:=QK h;refine⟨.func (.func f) (a.map evV).toArray (b.map evV).toArray,by simp only[Q8],?_⟩;simp only[SR];exact⟨_,_,rfl,SRs.map λx _=>af x,SRs.map λx _=>af x⟩
 |_=>cases h
theorem SlRel.sl {h:Heap}{sz:Nat}{α:Type}{R:α->List Value->Prop}{l:List α}{v:Value}(hs:SlRel h sz R l v):∃ cs a cap,h.sl sz v=some cs/\Rows R l cs/\v=.slice a l.length cap:=by
 rcases hs with⟨rfl,rfl⟩|⟨i,o,cap,c,e,wr,t,rfl,h2,h3,h4,h5,h6⟩
 .exact⟨[],_,_,rfl,.nil,rfl⟩
 .refine⟨_,_,cap,?_,h6,rfl⟩;simp only[Heap.sl,h3];rw[z6 ⟨h4,h5⟩]
theorem Sk {h:Heap}:∀ {xs:List Int}{cs:List Value},Rows (KC h (.i .u8)) xs cs->G3 cs=some ⟨(xs.map λx=>x.toNat.toUInt8).toArray⟩:=by
 have key:∀ {xs:List Int}{cs:List Value},Rows (KC h (.i .u8)) xs cs->cs.mapM Lu=some (xs.map λx=>x.toNat.toUInt8):=λ{xs cs} hr=>by
  induction hr with
  |nil=>rfl
  |@cons x xs c cs hx _ ih =>simp only[KC] at hx;subst hx;simp only[List.singleton_append,xd,Lu,ih,zS];rfl
 intro xs cs hr;simp only[G3,key hr,xN]
theorem Eg (af:∀ x,SR P B pl tb (ev x) (evV x)) (hle:B.Le U) (ax:∀ d,OR P B pl tb U (pl d) (Qa own d)) {x:Operand}(h:gq kt raw (.ext (.bytesStr x)) ev own=some (cs,v)):QOk P B pl tb U (.ext (.bytesStr x)) evV v:=by
 simp only[gq] at h;split at h
 .rename_i xs h1;obtain⟨rfl,rfl⟩:=QK h;obtain⟨cs,a,cap,h2,h3,h4⟩:=(Ws hle ax h1 (af x)).sl;refine⟨.string ⟨(U8 xs).toArray⟩,?_,BU _⟩;have az:Kind.size (.i .u8)=1:=rfl;rw[h4,az] at h2;simp only[Q8,QT,h4,h2,Sk h3];rfl
 .cases h
theorem O1 (af:∀ x,SR P B pl tb (ev x) (evV x)) (ax:∀ d,OR P B pl tb U (pl d) (Qa own d)) {neg:Bool}{x y:Operand}(h:gq kt raw (.ext (.eqNil 0 neg x y)) ev own=some (cs,v)) (hc:∀ c∈cs,c):QOk P B pl tb U (.ext (.eqNil 0 neg x y)) evV v:=by
 have hx:=af x;have hy:=af y;simp only[gq] at h;split at h
 .rename_i h1 h2;obtain⟨rfl,rfl⟩:=QK h;rw[h1] at hx;rw[h2] at hy;simp only[SR] at hx hy;exact⟨.bool (!neg),by simp only[Q8,QT,hx,hy,ZA];cases neg<;>rfl,Zo _⟩
 .rename_i o f h1 h2;obtain⟨rfl,rfl⟩:=QK h;rw[h1] at hx;rw[h2] at hy;simp only[SR] at hx hy;obtain⟨b,_,hb⟩:=hx;exact⟨.bool neg,by simp only[Q8,QT,hb,hy,ZA];cases neg<;>rfl,Zo _⟩
 .rename_i l f h1 h2;obtain⟨rfl,rfl⟩:=QK h;rw[h1] at hx;rw[h2] at hy;simp only[SR] at hx hy;obtain⟨b,c,e,wr,t,_,hb,_⟩:=hx;exact⟨.bool neg,by simp only[Q8,QT,hb,hy,ZA];cases neg<;>rfl,Zo _⟩
 .rename_i o c h1 h2;obtain⟨rfl,rfl⟩:=QK h;rw[h1] at hx;rw[h2] at hy;simp only[SR,DR] at hx hy;rcases hx with⟨rfl,hb⟩|⟨rfl,b,_,hb⟩
  .exact⟨.bool (bif neg then false else true),by simp only[Q8,QT,hb,hy,ZA];cases neg<;>rfl,Zo _⟩
  .exact⟨.bool (bif neg then true else false),by simp only[Q8,QT,hb,hy,ZA];cases neg<;>rfl,Zo _⟩
 .rename_i o c o' f h1 h2;split at h
  .rename_i l u ho;split at h
   .rename_i he;obtain⟨rfl,rfl⟩:=he;obtain⟨rfl,rfl⟩:=QK h;have ua:c=true:=hc _ (by simp);rw[h1] at hx;rw[h2] at hy;simp only[SR,DR] at hx hy;have ah:=ax o;rw[ho] at ah;obtain⟨i,cc,e,t,hp,hg,_⟩:=ah;obtain⟨b',bw,hy⟩:=hy;rcases hx with⟨kf,_⟩|⟨_,b,dK,hb⟩
    .rw[ua] at kf;cases kf
    .rw[hp] at bw dK;simp only[phd,Value.pointer.injEq,xe] at bw dK;have e1:i=b':=by injection bw
     have e2:i=b:=by injection dK
     subst e1;subst e2;exact⟨.bool (!neg),by simp only[Q8,QT,hb,hy,ZA,hg,Option.isSome_some,and_self,zx];cases neg<;>rfl,Zo _⟩
   .cases h
  .cases h
 .cases h
theorem Et (af:∀ x,SR P B pl tb (ev x) (evV x)) (ax:∀ d,OR P B pl tb U (pl d) (Qa own d)) {x:Operand}(h:gq kt raw (.ext (.toUnsafe x)) ev own=some (cs,v)):QOk P B pl tb U (.ext (.toUnsafe x)) evV v:=by
 have hx:=af x;simp only[gq] at h;split at h
 .rename_i o f h1;split at h
  .rename_i l u ho;split at h
   .rename_i hf;obtain⟨rfl,rfl⟩:=QK h;rw[h1] at hx;have qw:=hx;simp only[SR] at hx;obtain⟨b,hp,hv⟩:=hx;have ah:=ax o;rw[ho] at ah;obtain⟨i,c,e,t,dK,hg,hl,_⟩:=ah;rw[hp] at dK;have e1:b=i:=by simpa using dK
    subst e1;refine⟨.pointer (some ⟨b,f,none⟩),?_,by rw[<-hv];exact qw⟩;simp only[Q8,QT,hv,hg];rw[z6 (by rw[<-hl.length];exact hf)]
   .cases h
  .cases h
 .cases h
theorem RP (af:∀ x,SR P B pl tb (ev x) (evV x)) (ax:∀ d,OR P B pl tb U (pl d) (Qa own d)) {u size:Nat}{x:Operand}(h:gq kt raw (.ext (.fromUnsafe u size x)) ev own=some (cs,v)):QOk P B pl tb U (.ext (.fromUnsafe u size x)) evV v:=by
 have hx:=af x;simp only[gq] at h;split at h
 .rename_i o f h1;split at h
  .rename_i l t0 ho;split at h
   .rename_i hf;obtain⟨rfl,rfl,az⟩:=hf;obtain⟨rfl,rfl⟩:=QK h;rw[h1] at hx;have qw:=hx;simp only[SR] at hx;obtain⟨b,hp,hv⟩:=hx;have ah:=ax o;rw[ho] at ah;obtain⟨i,c,e,t,dK,hg,hl,hu⟩:=ah;obtain⟨he,ht⟩:=hu _ rfl;subst ht;rw[hp] at dK;have e1:b=i:=by simpa using dK
    subst e1;refine⟨.pointer (some ⟨b,0,none⟩),?_,by rw[<-hv];exact qw⟩;simp only[Q8,QT,hv,hg];rw[z6 ⟨trivial,he,by rw[<-hl.length];exact az⟩]
   .cases h
  .cases h
 .cases h
theorem LD (af:∀ x,SR P B pl tb (ev x) (evV x)) (ax:∀ d,OR P B pl tb U (pl d) (Qa own d)) {x:Operand}(h:gq kt raw (.ext (.sliceData x)) ev own=some (cs,v)) (hc:∀ c∈cs,c):QOk P B pl tb U (.ext (.sliceData x)) evV v:=by
 have hx:=af x;simp only[gq] at h;split at h
 .rename_i h1;obtain⟨rfl,rfl⟩:=QK h;rw[h1] at hx;simp only[SR] at hx;exact⟨.pointer none,by simp only[Q8,QT,hx],by simp[SR]⟩
 .rename_i o h1;split at h
  .rename_i ty k xs nl ho;obtain⟨rfl,rfl⟩:=QK h;have dT:nl=false->xs≠[]:=hc _ (by simp);rw[h1] at hx;simp only[SR] at hx;have ah:=ax o;rw[ho] at ah;rcases ah with⟨_,_,hp⟩|⟨gK,i,cap,c,t,hp,bL,hg,_⟩
   .refine⟨.pointer none,by simp only[Q8,QT,hx.1,hp],?_⟩;simp only[SR,DR];exact .inl ⟨by rw[hp];rfl,trivial⟩
   .have aK:=w7.2 (dT gK);refine⟨.pointer (some ⟨i,0,none⟩),?_,?_⟩
    .simp only[Q8,QT,hx.1,hp,hg,Option.isSome_some,and_true];rw[z6 (by omega)]
    .simp only[SR,DR];exact .inr ⟨i,xs.length,cap,by rw[hp];rfl,aK,rfl⟩
  .cases h
 .cases h
theorem Bm {size:Nat}{i o len cap l h:Nat}{c:List Value}{e:El}{wr t:Bool}(hg:U.get i=some (.cells c e wr t)) (he:e.sz=size) (h1:l<=h) (h2:h<=cap) :
  Xe size U (.slice (some ⟨i,o,none⟩) len cap) l h none=some (.slice (some ⟨i,o+l*size,none⟩) (h-l) (cap-l),U):=by
 simp only[Xe,hg];rw[z6 ⟨he,h1,h2⟩]
theorem Q3g {H:Heap}{k:Kind}{l:List k.T}{v:Value}(h:KC H (.list k) l [v]):∃ a c,v=.slice a l.length c:=by
 obtain⟨v',e,hs⟩:=h;obtain rfl:=(zM e).1;rcases hs with⟨rfl,rfl⟩|⟨i,o,cap,c,e',wr,t,rfl,_⟩
 .exact⟨_,_,rfl⟩
 .exact⟨_,_,rfl⟩
theorem Cv {H:Heap}(hle:H.Le U) {k:Kind}{l:List k.T}{v:Value}{a b:Nat}(h:KC H (.list k) l [v]) (k1:a<=b) (k2:b<=l.length) :
  ∃ u,Xe k.size U v a b none=some (u,U)/\KC H (.list k) ((l.drop a).take (b-a)) [u]:=by
 obtain⟨v',e,hs⟩:=h;obtain rfl:=(zM e).1;rcases hs with⟨rfl,rfl⟩|⟨i,o,cap,c,e',wr,t,rfl,h4,h5,h6,h7,h8⟩
 .simp only[List.length_nil] at k2;have za:a=0:=by omega
  have zb:b=0:=by omega
  subst za;subst zb;exact⟨.slice none 0 0,by simp only[Xe];rfl,_,rfl,.inl ⟨by simp,rfl⟩⟩
 .have hlen:((l.drop a).take (b-a)).length=b-a:=by simp;omega
  refine⟨.slice (some ⟨i,o+a*k.size,none⟩) (b-a) (cap-a),Bm (hle.2 _ _ h5) h6 (by omega) (by omega),_,rfl,.inr ⟨i,o+a*k.size,cap-a,c,e',wr,t,by rw[hlen],by rw[hlen];omega,h5,h6,?_,?_⟩⟩
  .rw[hlen];have:(a+(b-a))*k.size<=l.length*k.size:=zm _ (by omega);rw[zH] at this;omega
  .rw[hlen];have:=(h8.drop KC.q0f a).take KC.q0f (b-a);have e3:(((c.drop o).take (l.length*k.size)).drop (a*k.size)).take ((b-a)*k.size)=(c.drop (o+a*k.size)).take ((b-a)*k.size):=by
    apply zN;intro j;simp only[xt,zZ];split
    .have:(a+(b-a))*k.size<=l.length*k.size:=zm _ (by omega)
     grind
    .rfl
   rw[e3] at this;exact this
theorem Q0t (af:∀ x,SR P B pl tb (ev x) (evV x)) (hle:B.Le U) (ax:∀ d,OR P B pl tb U (pl d) (Qa own d)) {size:Nat}{x:Operand}{lo hi mx:Option Operand}(h:gq kt raw (.slice size x lo hi mx) ev own=some (cs,v)) (hc:∀ c∈cs,c):QOk P B pl tb U (.slice size x lo hi mx) evV v:=by
 have ha:=af x;cases mx with
 |some m=>cases h
 |none =>
 simp only[gq] at h;split at h
 .rename_i o heq;rw[heq] at ha;simp only[SR] at ha;have ah:=ax o;split at h
  .rename_i ty k xs nl ho;rw[ho] at ah;split at h
   .rename_i az;split at h
    .rename_i a b h1 h2;obtain⟨rfl,rfl⟩:=QK h;have k0:0<=a:=hc _ (by simp);have k1:a<=b:=hc _ (by simp);have k2:b<=xs.length:=hc _ (by simp);have e1:=QI (evV:=evV) (d:=0) af h1 k0;have e2:=QI (evV:=evV) af h2 (by omega);rcases ah with⟨_,rfl,h3⟩|⟨_,i,cap,c,t,h3,h4,h5,h6,h7⟩
     .simp only[List.length_nil] at k2 e2;have za:a.toNat=0:=by omega
      have zb:b.toNat=0:=by omega
      have zc:(b-a).toNat=0:=by omega
      refine⟨.slice none 0 0,?_,?_⟩
      .simp only[Q8,ha.1,h3,e1,e2,za,zb,Xe];rfl
      .rw[za,zc];simp only[SR];grind
     .refine⟨.slice (some ⟨i,0+a.toNat*size,none⟩) (b.toNat-a.toNat) (cap-a.toNat),?_,?_⟩
      .simp only[Q8,ha.1,h3,e1,e2]
       grind [Bm]
      .simp only[SR];refine .inr ⟨i,_,cap,cap-a.toNat,h3,by omega,by omega,?_⟩
       grind
    .cases h
   .cases h
  .cases h
 .rename_i o l0 n sz heq;rw[heq] at ha;simp only[SR] at ha;have ah:=ax o;split at h
  .rename_i ty k xs nl ho;rw[ho] at ah;split at h
   .rename_i az;obtain⟨az,rfl⟩:=az;split at h
    .rename_i a b h1 h2;obtain⟨rfl,rfl⟩:=QK h;have k0:0<=a:=hc _ (by simp);have k1:a<=b:=hc _ (by simp);have k2:b<=n:=hc _ (by simp);have e1:=QI (evV:=evV) (d:=0) af h1 k0;have e2:=QI (evV:=evV) af h2 (by omega);rcases ha with⟨rfl,rfl,hv,hp⟩|⟨i,len,cap,ao,h3,h4,h5,hv⟩
     .have za:a.toNat=0:=by omega
      have zb:b.toNat=0:=by omega
      have zc:(b-a).toNat=0:=by omega
      refine⟨.slice none 0 0,?_,?_⟩
      .simp only[Q8,hv,e1,e2,za,zb,Xe];rfl
      grind
     .rcases ah with⟨_,_,h6⟩|⟨_,i',iW,c,t,h6,h7,h8,h9,cf⟩
      .rw[h3] at h6;cases h6
      .rw[h3] at h6;obtain⟨rfl,rfl,rfl⟩:=(by simpa using h6:i=i'/\len=xs.length/\cap=iW);refine⟨.slice (some ⟨i,l0*sz+a.toNat*sz,none⟩) (b.toNat-a.toNat) (ao-a.toNat),?_,?_⟩
       .simp only[Q8,hv,e1,e2]
        grind [Bm]
       .simp only[SR];refine .inr ⟨i,_,cap,ao-a.toNat,h3,by omega,by omega,?_⟩
        grind
    .cases h
   .cases h
  .cases h
 .rename_i k l heq;rw[heq] at ha;simp only[SR] at ha;split at h
  .rename_i az;split at h
   .rename_i a b h1 h2;obtain⟨rfl,rfl⟩:=QK h;have k0:0<=a:=hc _ (by simp);have k1:a<=b:=hc _ (by simp);have k2:b<=l.length:=hc _ (by simp);have e1:=QI (evV:=evV) (d:=0) af h1 k0;have e2:=QI (evV:=evV) af h2 (by omega);obtain⟨v',e⟩:=z_.1 (KC.length ha);obtain⟨u,g1,g2⟩:=Cv hle (a:=a.toNat) (b:=b.toNat) ha (by omega) (by omega);obtain⟨n,cap,e3⟩:=Q3g ha;refine⟨u,?_,?_⟩
    .simp only[Q8,e3,e1,e2];rw[<-az,<-e3];exact g1
    .simp only[SR]
     grind
   .cases h
  .cases h
 .rename_i o w heq;rw[heq] at ha;simp only[SR] at ha;have ah:=ax o;split at h
  .rename_i ty q k xs nl hole ho;rw[ho] at ah
   have key:∀ (k:Kind) (l:List k.T),KC (Je (pl o)) (.list k) l [evV x]->(if k.size=size then (match Xh ev lo 0,Xh ev hi l.length with
     |some a,some b=>some ([0<=a,a<=b,b<=(l.length:Int)],SV.dd o (.inn k ((l.drop a.toNat).take (b-a).toNat)))
     |_,_=>none) else none)=some (cs,v)->QOk P B pl tb U (.slice size x lo hi none) evV v:=by
    intro k l ha h;split at h
    .rename_i az;split at h
     .rename_i a b h1 h2;obtain⟨rfl,rfl⟩:=QK h;have k0:0<=a:=hc _ (by simp);have k1:a<=b:=hc _ (by simp);have k2:b<=l.length:=hc _ (by simp);have e1:=QI (evV:=evV) (d:=0) af h1 k0;have e2:=QI (evV:=evV) af h2 (by omega);obtain⟨u,g1,g2⟩:=Cv (DP.le ah) (a:=a.toNat) (b:=b.toNat) ha (by omega) (by omega);obtain⟨n,cap,e3⟩:=(D_ ha).len;refine⟨u,?_,?_⟩
      .simp only[Q8,e3,e1,e2];rw[<-az,<-e3];exact g1
      .simp only[SR,DR]
       grind
     .cases h
    .cases h
   split at h
   .exact key _ _ ha h
   .exact key _ _ ha.1 h
   .cases h
  .cases h
 .rename_i heq;rw[heq] at ha;simp only[SR] at ha;split at h
  .rename_i a b h1 h2;obtain⟨rfl,rfl⟩:=QK h;have k0:a=0:=hc _ (by simp);have k1:b=0:=hc _ (by simp);subst k0;subst k1;have e1:=QI (evV:=evV) (d:=0) af h1 (Int.le_refl _);have e2:=QI (evV:=evV) (d:=0) af h2 (Int.le_refl _);refine⟨.slice none 0 0,?_,?_⟩
   .simp only[Q8,ha,e1,e2,Xe];rfl
   .simp only[SR]
  .cases h
 .cases h
theorem Q1t (af:∀ x,SR P B pl tb (ev x) (evV x)) {neg:Bool}{x y:Operand}(ax:∀ d,OR P B pl tb U (pl d) (Qa own d)) (h:gq kt raw (.ext (.eqNil 1 neg x y)) ev own=some (cs,v)) (hc:∀ c∈cs,c):QOk P B pl tb U (.ext (.eqNil 1 neg x y)) evV v:=by
 have ha:=af x;have hb:=af y;simp only[gq] at h;split at h
 .rename_i h1 h2;rw[h1] at ha;rw[h2] at hb;simp only[SR] at ha hb;obtain⟨rfl,rfl⟩:=QK h;refine⟨.bool (!neg),?_,Zo _⟩;simp only[Q8,QT,ha,hb,ZA];cases neg<;>rfl
 .rename_i o h1 h2;rw[h1] at ha;rw[h2] at hb;simp only[SR] at ha hb;have ah:=ax o;split at h
  .rename_i ty k xs nl ho;rw[ho] at ah;obtain⟨rfl,rfl⟩:=QK h;refine⟨.bool (bif neg then !nl else nl),?_,Zo _⟩;rcases ah with⟨rfl,_,h3⟩|⟨rfl,i,cap,c,t,h3,_⟩
   .simp only[Q8,QT,ha.1,h3,hb,ZA];cases neg<;>rfl
   .simp only[Q8,QT,ha.1,h3,hb,ZA];cases neg<;>rfl
  .cases h
 .rename_i o h1 h2;rw[h1] at ha;rw[h2] at hb;simp only[SR] at ha hb;have ah:=ax o;split at h
  .rename_i ty q k xs nl hole ho;rw[ho] at ah;obtain⟨rfl,rfl⟩:=QK h;refine⟨.bool (bif neg then !nl else nl),?_,Zo _⟩;obtain⟨is,_,_,g2,_,_,g5⟩:=ah;obtain⟨e1,_⟩:=ha;rcases g2 with⟨_,h3,_⟩|⟨i,cap,c,t,js,h3,_⟩
   .obtain rfl:=g5.2 h3;simp only[Q8,QT,e1,h3,hb,ZA];cases neg<;>rfl
   .have hn:nl=false:=by
     simp_all
    subst hn;simp only[Q8,QT,e1,h3,hb,ZA];cases neg<;>rfl
  .cases h
 .rename_i k l h1 h2;rw[h1] at ha;rw[h2] at hb;simp only[SR] at ha hb;obtain⟨rfl,rfl⟩:=QK h;have hl:=hc (l≠[]) (by simp);refine⟨.bool neg,?_,Zo _⟩;obtain⟨u,hu,hs⟩:=ha;obtain rfl:=(zM hu).1;rcases hs with⟨e,_⟩|⟨i,o,cap,c,e,wr,t,h3,_⟩
  .exact absurd e hl
  .simp only[Q8,QT,h3,hb,ZA];cases neg<;>rfl
 .cases h
theorem IS (af:∀ x,SR P B pl tb (ev x) (evV x)) {mk:MK}{z:Value}{ok:Bool}{x i:Operand}(_hle:B.Le U) (ax:∀ d,OR P B pl tb U (pl d) (Qa own d)) (h:gq kt raw (.ext (.lookup mk z ok x i)) ev own=some (cs,v)):QOk P B pl tb U (.ext (.lookup mk z ok x i)) evV v:=by
 have ha:=af x;simp only[gq] at h;split at h
 .rename_i o h1;rw[h1] at ha;simp only[SR] at ha;have ah:=ax o;split at h
  .rename_i kk vk m ho;rw[ho] at ah;obtain⟨id,es,clock,h2,h3,h4⟩:=ah;split at h
   .rename_i dw;obtain⟨dw,hz⟩:=dw;split at h
    .rename_i key cm;have hk:=H7 cm (af i) Qm;have bG:=Tm dw hk;have hall:=MR.keys dw h4.1;have qx:KV B vk vk.dflt z:=SS hz;have aE:U.mapAt id=some (es,clock,true):=by simp[Heap.mapAt,h3]
     have aH:=MR.find dw hk qx h4.1
     have base:∀ u,(match Qv (evV i) es with
      |some e=>some (if ok then Value.tuple #[e.2.1,.bool true] else e.2.1,U)
      |none=>some (if ok then .tuple #[z,.bool false] else z,U))=some (u,U)->Q8 (.ext (.lookup mk z ok x i)) evV U=some (u,U):=λu hu=>by
      simp only[Q8,QT,bG,zx,ha.1,h2,aE,hall];exact hu
     cases ok with
     |true =>
      simp only[zx] at h;obtain⟨rfl,rfl⟩:=QK h;rcases aH with⟨e,k1,k2,k3⟩|⟨k1,k2,k3⟩
      .refine⟨.tuple #[e.2.1,.bool true],base _ (by rw[k1];rfl),?_⟩;simp only[SR];refine⟨[e.2.1,.bool true],rfl,?_⟩;simp only[SRs,SR];exact⟨_,_,rfl,JP k3,_,_,rfl,by simp[KC,k2],rfl⟩
      .refine⟨.tuple #[z,.bool false],base _ (by rw[k1];rfl),?_⟩;simp only[SR];refine⟨[z,.bool false],rfl,?_⟩;simp only[SRs,SR];exact⟨_,_,rfl,by rw[k3];exact JP qx,_,_,rfl,by simp[KC,k2],rfl⟩
     |false =>
      simp only[zz,if_false] at h;obtain⟨rfl,rfl⟩:=QK h;rcases aH with⟨e,k1,k2,k3⟩|⟨k1,k2,k3⟩
      .exact⟨e.2.1,base _ (by rw[k1];rfl),JP k3⟩
      .exact⟨z,base _ (by rw[k1];rfl),by rw[k3];exact JP qx⟩
    .cases h
   .cases h
  .rename_i ik l ho;rw[ho] at ah;obtain⟨id,es,clock,h2,h3,h4⟩:=ah;split at h
   .rename_i il n hi;have hi:=QS hi (af i);split at h
    .rename_i hc;obtain⟨rfl,dw,rfl⟩:=hc;obtain rfl:=Ia dw;split at h
     .rename_i f hf;obtain⟨rfl,rfl⟩:=QK h;obtain⟨k,st,dk⟩:=h4.find hf;have aE:U.mapAt id=some (es,clock,true):=by simp[Heap.mapAt,h3]
      have bG:Za (.int il) (evV i)=true:=by rw[hi];simp[Za]
      refine⟨.func (.func f) #[] #[],?_,?_⟩
      .simp only[Q8,QT,bG,zx,ha.1,h2,aE,h4.keys];rw[hi,dk];rfl
      .simp only[SR];exact⟨[],[],rfl,by simp[SRs],by simp[SRs]⟩
     .cases h
    .cases h
   .cases h
  .cases h
 .cases h
theorem I_ (af:∀ x,SR P B pl tb (ev x) (evV x)) {x:Operand}(ax:∀ d,OR P B pl tb U (pl d) (Qa own d)) (h:gq kt raw (.ext (.lenMap x)) ev own=some (cs,v)):QOk P B pl tb U (.ext (.lenMap x)) evV v:=by
 have ha:=af x;simp only[gq] at h;split at h
 .rename_i o h1;rw[h1] at ha;simp only[SR] at ha;have ah:=ax o;split at h
  .rename_i kk vk m ho;rw[ho] at ah;obtain⟨id,es,clock,h2,h3,h4⟩:=ah;obtain⟨rfl,rfl⟩:=QK h;have aE:U.mapAt id=some (es,clock,true):=by simp[Heap.mapAt,h3]
   refine⟨.int .i64 es.length,by simp only[Q8,QT,ha.1,h2,aE],?_⟩;rw[h4.1.length];exact JT _ _
  .cases h
 .cases h
theorem MR.at {kk vk:Kind}:∀ {m:List (kk.T×vk.T)}{es:List ZZ}{r:Nat}{e:ZZ},MR B kk vk m es->es[r]?=some e->∃ h:r<m.length,KV B kk m[r].1 e.1/\KV B vk m[r].2 e.2.1
 |[],es,r,e,h,he=>by simp only[MR] at h;subst h;simp at he
 |x::m,es,r,e,h,he=>by
  obtain⟨e',bC,rfl,h1,h2,h3⟩:=h;cases r with
  |zero=>simp only[List.getElem?_cons_zero,xe] at he;subst he;exact⟨by simp,h1,h2⟩
  |succ r =>obtain⟨k1,k2,k3⟩:=MR.at h3 (by simpa using he);exact⟨by simpa using k1,k2,k3⟩
theorem Nw:∀ {k:Kind},k.keyk=true->∀ {x:k.T}{cs:List Value},KC B k x cs->cs.all QA=true
 |.pair a b,hk,x,cs,h=>by simp only[Kind.keyk,z1] at hk;obtain⟨c1,c2,rfl,h1,h2⟩:=h;rw[List.all_append,Nw hk.1 h1,Nw hk.2 h2];rfl
 |.i _,_,x,cs,h=>by simp only[KC] at h;subst h;rfl
 |.bo,_,x,cs,h=>by simp only[KC] at h;subst h;rfl
 |.st,_,x,cs,h=>by simp only[KC] at h;subst h;rfl
 |.list _,hk,_,_,_=>by cases hk
theorem Lf {k:Kind}(hk:k.keyk=true) {x:k.T}{v:Value}(h:KV B k x v):Yn v=true:=by
 rcases h with⟨ho,h⟩|⟨ho,cs,rfl,h⟩
 .have:=Nw hk h;rw[zX,z1] at this;have hp:=this.1;cases v<;>first|exact hp|cases hp
 .show cs.toArray.toList.all QA=true;exact Nw hk h
theorem Sw {es:List ZZ}{clock:Nat}(h:SOk es clock) {r r':Nat}{e e':ZZ}(h1:es[r]?=some e) (h2:es[r']?=some e') (he:e.2.2=e'.2.2):r=r':=by
 obtain⟨k1,rfl⟩:=zu.1 h1;obtain⟨k2,rfl⟩:=zu.1 h2;have:=h.1
 grind [List.pairwise_iff_getElem,Nat.lt_trichotomy]
theorem Ez {es:List ZZ}{clock:Nat}(h:SOk es clock) {r:Nat}{e:ZZ}(h1:es[r]?=some e):es.find? (λe'=>e'.2.2==e.2.2)=some e:=by
 obtain⟨k1,rfl⟩:=zu.1 h1;rw[List.find?_eq_some_iff_getElem];refine⟨by simp,r,k1,rfl,λj hj=>?_⟩;have cQ:j<es.length:=by omega
 simp only[Bool.not_eq_true',zB];intro he;have:=Sw h (z8 cQ) h1 he;omega
theorem Q0s (af:∀ x,SR P B pl tb (ev x) (evV x)) (hle:B.Le U) (ax:∀ d,OR P B pl tb U (pl d) (Qa own d)) {x:Operand}(h:gq kt raw (.ext (.entry x)) ev own=some (cs,v)) (hc:∀ c∈cs,c):QOk P B pl tb U (.ext (.entry x)) evV v:=by
 simp only[gq] at h;split at h
 .rename_i o f h1;split at h
  .rename_i kk vk m dn ho;split at h
   .rename_i aj;obtain⟨rfl,hk,hv⟩:=aj;obtain⟨rfl,rfl⟩:=QK h;have ub:dn≠[]:=hc _ (by simp);have e1:=af x;rw[h1] at e1;simp only[SR] at e1;obtain⟨b,e2,e3⟩:=e1;have ah:=ax o;rw[ho] at ah;obtain⟨j,i,es,clock,wr,seen,h2,h3,h4,h5,h6⟩:=ah;rw[h2] at e2;obtain rfl:j=b:=by simpa using e2
    have cT:0<dn.length:=w7.2 ub;have dI:dn[dn.length-1]?=some (dn.getLastD 0):=by
     grind
    obtain⟨e,ic,jr⟩:=h6.2 _ _ dI;have gJ:seen.getLast?=some e.2.2:=by rw[List.getLast?_eq_getElem?,h6.1];exact jr
    obtain⟨hr,k1,k2⟩:=MR.at h5.1 ic;have k2:=k2.kc hv;have aE:U.mapAt i=some (es,clock,wr):=by simp[Heap.mapAt,hle.2 _ _ h4]
    have dk:=Ez h5.2 ic;refine⟨.tuple #[e.1,e.2.1],?_,?_⟩
    .simp only[Q8,QT,e3,h3,aE,gJ,dk,zx];rw[z6 (Lf hk k1)]
    .simp only[SR,SRs]
     grind [List.getElem?_eq_getElem,JP]
   .cases h
  .cases h
 .cases h
theorem Ro (af:∀ x,SR P B pl tb (ev x) (evV x)) (fz:∀ c,evV (.const c)=c) (hle:B.Le U) (ax:∀ d,OR P B pl tb U (pl d) (Qa own d)) {o:VOp}(h:gq kt raw o ev own=some (cs,v)) (hc:∀ c∈cs,c):QOk P B pl tb U o evV v:=by
 cases o with
 |move x=>obtain⟨rfl,rfl⟩:=QK h;exact⟨evV x,rfl,af x⟩
 |arith=>exact Q19 af h hc
 |div=>exact Q4y af h hc
 |bits=>exact Q31 af h
 |shift=>exact Q0n af h hc
 |cmp=>exact Q5f af h
 |str=>exact Q63 af h hc
 |eqB=>exact Q64 af h
 |un=>exact Q82 af h hc
 |convI=>exact Q11 af h hc
 |convS=>exact Q1a af h
 |build=>exact Q0m af h
 |load=>exact Q49 af hle ax h
 |fieldAddr=>exact C4 af h
 |field=>exact Q0q af h
 |indexAddr=>exact LS af hle ax h hc
 |indexAddrArr=>exact Hx af fz h
 |indexStr=>exact AG af h hc
 |indexArr=>exact Ee af fz h
 |slice=>exact Q0t af hle ax h hc
 |sliceStr=>exact Eh af h hc
 |len=>exact Q4w af ax h
 |lenStr=>exact IU af h
 |max=>exact Q6g af h
 |max4=>exact Q3a af h
 |min=>exact Q6f af h
 |makeFunc=>exact Em af h
 |extract=>exact Iq af h
 |nilCheck=>exact E6 af h
 |ext x =>
  cases x with
  |eqNil k neg a b =>
   match k with
   |1=>exact Q1t af ax h hc
   |0=>exact O1 af ax h hc
   |(n+2)=>cases h
  |eqAgg n s a b=>exact Q1l af h
  |toUnsafe a=>exact Et af ax h
  |fromUnsafe u size a=>exact RP af ax h
  |sliceData a=>exact LD af ax h hc
  |bytesStr a=>exact Eg af hle ax h
  |lookup=>exact IS af hle ax h
  |lenMap=>exact I_ af ax h
  |entry a=>exact Q0s af hle ax h hc
  |_=>cases h
 |_=>cases h
end
end
end Go.V
namespace Go.V
open Go
theorem Q86 {α:Type}{l:List α}(h:¬ l=[]) (b:Bool):(l.isEmpty&&b)=false:=by simp_all
theorem Q6t {α:Type}{l:List α}(h:¬ l=[]):l.isEmpty=false:=by simp_all
theorem Xx {c vs:List Value}{o:Nat}(h:o+vs.length<=c.length):JH c o vs=c.take o++vs++c.drop (o+vs.length):=by
 apply zN;intro k;rcases zr k o with hk|hk
 .rw[Yb vs c o k (.inl hk),x6,x9 (by simp;omega),xt,z6 hk]
 .rcases zr k (o+vs.length) with aA|aA
  .have:=TT vs c o (k-o) h (by omega)
   grind
  .rw[Yb vs c o k (.inr aA),xk (by simp;omega),zZ];congr 1;simp;omega
theorem OO (us c:List Value) {m p n off:Nat}(h1:off+us.length<=n) (h2:p+n<=m) (h3:m<=c.length) :
  (JH c (p+off) us).take m=(c.take m).take p++JH (((c.take m).drop p).take n) off us++(c.take m).drop (p+n):=by
 have l1:(((c.take m).drop p).take n).length=n:=by simp;omega
 have de:∀ q,q<n->(((c.take m).drop p).take n)[q]?=c[p+q]?:=(by simp_all);generalize ((c.take m).drop p).take n=row at l1 de;have l2:((c.take m).take p).length=p:=by simp;omega
 have l3:(JH row off us).length=n:=by rw[Zp,l1]
 have g2:∀ q,q<p->((c.take m).take p)[q]?=c[q]?:=(by simp_all);generalize (c.take m).take p=pre at l2 g2;apply zN;intro j;rw[xt,x6];by_cases hj:j<m
 .rw[z6 hj];rcases zr j p with a1|a1
  .grind [Yb,List.getElem?_append_left]
  .rw[xk (by omega),l2];rcases zr j (p+n) with a2|a2
   .rw[x9 (by omega)];rcases zr (j-p) off with a3|a3
    .grind [Yb]
    .rcases zr (j-p) (off+us.length) with a4|a4
     .have b1:=TT us c (p+off) (j-(p+off)) (by omega) (by omega);have b2:=TT us row off (j-(p+off)) (by omega) (by omega);rw[show p+off+(j-(p+off))=j by omega] at b1;rw[show off+(j-(p+off))=j-p by omega] at b2;rw[b1,b2]
     grind [Yb]
   .rw[Yb us c _ j (.inr (by omega)),xk (by omega),zZ,xt,l3,z6 (by omega)];congr 1;omega
 grind
theorem Heap.Le.push {B U:Heap}(h:B.Le U) (b:Blk):B.Le (U.push b) :=
 ⟨by have:=h.1;simp;omega,λi b' hb=>by rw[Heap.q0g _ _ (U.lt (h.2 i b' hb))];exact h.2 i b' hb⟩
theorem Heap.Le.upd {B U:Heap}(h:B.Le U) {i:Nat}(hi:B.get i=none) (b:Blk):B.Le (U.upd i b) :=
 ⟨by simpa using h.1,λj b' hb=>by
  have:j≠i:=(by grind);rw[Heap.q0b _ _ this];exact h.2 j b' hb⟩
theorem Heap.Le.kill {B U:Heap}(h:B.Le U) {i:Nat}(hi:B.get i=none):B.Le (U.kill i) :=
 ⟨by simpa using h.1,λj b' hb=>by
  have:j≠i:=(by grind);rw[Heap.q0c _ this];exact h.2 j b' hb⟩
theorem Heap.Le.fresh {B U:Heap}(h:B.Le U):B.get U.n=none:=B.wf _ h.1
section
variable {P:Program}{B F:Heap}{pl:Nat->Value}{tb:Nat->Option Bool}{s:St}{env:Env}{U:Heap}
theorem OR.q0s {p:Value}{b:OB}(h:OR P B pl tb U p b) (hl:b.live=true) {i:Nat}(hi:Oid p i):i<U.n:=by
 cases b with
 |dead=>cases hl
 |lst ty k xs nl =>
  rcases h with⟨_,_,rfl⟩|⟨_,i',cap,c,t,rfl,_,h3,_⟩
  .cases hi
  .obtain rfl:=osj hi;exact U.lt h3
 |cells l u=>obtain⟨i',c,e,t,rfl,h2,_⟩:=h;obtain rfl:=osj hi;exact U.lt h2
 |map kk vk m=>obtain⟨i',es,clock,rfl,h2,_⟩:=h;obtain rfl:=osj hi;exact U.lt h2
 |mapE kk vk m key n=>obtain⟨i',es,clock,r,e,rfl,h2,_⟩:=h;obtain rfl:=osj hi;exact U.lt h2
 |fm ik l=>obtain⟨i',es,clock,rfl,h2,_⟩:=h;obtain rfl:=osj hi;exact U.lt h2
 |iter kk vk m dn=>obtain⟨j,i',es,clock,wr,seen,rfl,h2,_⟩:=h;obtain rfl:=osj hi;exact U.lt h2
 |siter l pos=>obtain⟨j,s',rfl,h2,_⟩:=h;obtain rfl:=osj hi;exact U.lt h2
 |rmap kk vk m=>cases hl
 |lpf l q s=>obtain⟨rfl,_,h2⟩:=h;obtain rfl:=osj hi;exact U.lt (h2 hl)
 |deep ty q k xs nl hh =>obtain⟨is,hO,_,_,_,h4,_⟩:=h;obtain⟨b',bD⟩:=(hO i).1 hi;exact U.lt (h4 i b' bD)
 |stk l vals=>cases hl
theorem Gam.push (h:Gam P B F pl tb s env U) (d:Nat) (b:OB) (p:Value) (blk:Blk) (hp:oid p=some U.n) (hb:OR P B (QR pl d p) tb (U.push blk) p b):Gam P B F (QR pl d p) tb (s.make d b) env (U.push blk):=by
 refine h.make d b p (h.le.push blk) (λj i hj hl hi=>?_) hb (λi _ hi=>?_)
 .exact Heap.q0g _ _ ((h.obj j).q0s hl hi)
 .obtain rfl:=FM hp hi;exact⟨h.le.fresh,λj _ hl e=>by have:=(h.obj j).q0s hl e;omega⟩
theorem Rows.cellOk {k:Kind}{xs:List k.T}{cs:List Value}(h:Rows (KC B k) xs cs):cs.all Go.V.cellOk=true:=by
 induction h with
 |nil=>rfl
 |cons h _ ih=>rw[List.all_append,KC.cellOk h,ih];rfl
theorem Mv {pl:Nat->Value}:∀ {k:Kind}{off:Nat}{v:SV}{u:Value}{x y:k.T}{row:List Value},Q2p k off v x=some y->KC B k x row->SR P B pl tb v u->off<k.size->KC B k y (JH row off [u])
 |.pair a b,off,v,u,x,y,row,h,hr,hv,ho=>by
  obtain⟨c1,c2,rfl,h1,h2⟩:=hr;have l1:=KC.length h1;have l2:=KC.length h2;simp only[Q2p] at h;simp only[JH];cases hb:Nat.blt off a.size with
  |true =>
   rw[hb] at h;simp only[zh,zk] at h;obtain⟨z,h3,rfl⟩:=h;have bg:off<a.size:=by simpa [zG] using hb
   have:=Mv h3 h1 hv bg;exact⟨c1.set off u,c2,by simp_all,this,h2⟩
  |false =>
   rw[hb] at h;simp only[zT,zk] at h;obtain⟨z,h3,rfl⟩:=h;have bg:¬ off<a.size:=by
    grind [Nat.blt_eq]
   simp only[Kind.size] at ho;have:=Mv h3 h2 hv (by omega);refine⟨c1,c2.set (off-a.size) u,?_,h1,this⟩;rw[List.set_append_right _ _ (by omega),l1]
 |.i ik,off,v,u,x,y,row,h,hr,hv,ho=>by
  have:=Qm (k:=.i ik) h (show SRs P B pl tb [v] [u] by simp only[SRs];exact⟨_,[],rfl,hv,rfl⟩);have hl:=KC.length hr;simp only[Kind.size] at hl ho;obtain⟨c,rfl⟩:=z_.1 hl;obtain rfl:off=0:=by omega
  exact this
 |.bo,off,v,u,x,y,row,h,hr,hv,ho=>by
  have:=Qm (k:=.bo) h (show SRs P B pl tb [v] [u] by simp only[SRs];exact⟨_,[],rfl,hv,rfl⟩);have hl:=KC.length hr;simp only[Kind.size] at hl ho;obtain⟨c,rfl⟩:=z_.1 hl;obtain rfl:off=0:=by omega
  exact this
 |.st,off,v,u,x,y,row,h,hr,hv,ho=>by
  have:=Qm (k:=.st) h (show SRs P B pl tb [v] [u] by simp only[SRs];exact⟨_,[],rfl,hv,rfl⟩);have hl:=KC.length hr;simp only[Kind.size] at hl ho;obtain⟨c,rfl⟩:=z_.1 hl;obtain rfl:off=0:=by omega
  exact this
 |.list k,off,v,u,x,y,row,h,hr,hv,ho=>by
  have:=Qm (k:=.list k) h (show SRs P B pl tb [v] [u] by simp only[SRs];exact⟨_,[],rfl,hv,rfl⟩);have hl:=KC.length hr;simp only[Kind.size] at hl ho;obtain⟨c,rfl⟩:=z_.1 hl;obtain rfl:off=0:=by omega
  exact this
theorem PM {mk:MK}{kk vk:Kind}(hk:gq.mkOk mk kk=true) {key:kk.T}{x:vk.T}{kv xv:Value}{clock:Nat}(cm:KV B kk key kv) (hx:KV B vk x xv):∀ {m:List (kk.T×vk.T)}{es:List ZZ},MR B kk vk m es->MR B kk vk (Xb kk m key x) (QC kv xv clock es).1
 |[],es,h=>by simp only[MR] at h;subst h;exact⟨_,[],rfl,cm,hx,rfl⟩
 |m::ms,es,h=>by
  obtain⟨e,bC,rfl,h2,h3,h4⟩:=h;have hq:=RS hk cm h2;simp only[QC,Xb,hq];cases gq.keq kk key m.1 with
  |true=>exact⟨_,bC,rfl,cm,hx,h4⟩
  |false=>exact⟨e,_,rfl,h2,h3,PM hk cm hx h4⟩
theorem Ng (k v:Value) (clock:Nat):∀ es:List ZZ,((QC k v clock es).2=clock/\(QC k v clock es).1.map (λe=>e.2.2)=es.map λe=>e.2.2)\/((QC k v clock es).2=clock+1/\(QC k v clock es).1.map (λe=>e.2.2)=(es.map λe=>e.2.2)++[clock])
 |[]=>.inr ⟨rfl,rfl⟩
 |e::es=>by
  simp only[QC];split
  .exact .inl ⟨rfl,rfl⟩
  .rcases Ng k v clock es with⟨h1,h2⟩|⟨h1,h2⟩
   .exact .inl ⟨h1,by simp[h2]⟩
   .exact .inr ⟨h1,by simp[h2]⟩
theorem SOk.put {es:List ZZ}{clock:Nat}(h:SOk es clock) {k v:Value}:SOk (QC k v clock es).1 (QC k v clock es).2:=by
 obtain⟨h1,h2⟩:=h;have mem:∀ (l:List ZZ) (x:Nat),x∈l.map (λe=>e.2.2)<->∃ e∈l,e.2.2=x:=λl x=>by simp
 rcases Ng k v clock es with⟨e1,e2⟩|⟨e1,e2⟩
 .refine⟨by rw[e2];exact h1,λe he=>?_⟩;have:e.2.2∈es.map λe=>e.2.2:=by grind
  grind
 .refine⟨?_,λe he=>?_⟩
  .grind
  .have:e.2.2∈(es.map λe=>e.2.2)++[clock]:=by grind
   grind
def Fr (T:Nat) (s s':St) (pl pl':Nat->Value) (U U':Heap):Prop :=
 ∀ q,q≠T->(Qa s'.own q).live=(Qa s.own q).live/\pl' q=pl q/\((Qa s.own q).live=true->∀ i,Oid (pl q) i->U'.get i=U.get i)
theorem X0 (s:St) (d:Nat) (b:OB) {q:Nat}(hq:q≠d):(Qa (s.make d b).own q).live=(Qa s.own q).live:=by simp only[St.make,St.kill,Qc,Xy,z7 hq,OB.q0m]
theorem Gam.makeF {s:St}{env:Env}{U U':Heap}{pl:Nat->Value}(h:Gam P B F pl tb s env U) (d:Nat) (b:OB) (p:Value) (hle:F.Le U') (ho:∀ j i,j≠d->(Qa s.own j).live=true->Oid (pl j) i->U'.get i=U.get i)
  (hb:OR P B (QR pl d p) tb U' p b) (hf:∀ i,b.live=true->Oid p i->F.get i=none/\∀ j,j≠d->(Qa s.own j).live=true->¬ Oid (pl j) i):Gam P B F (QR pl d p) tb (s.make d b) env U'/\Fr d s (s.make d b) pl (QR pl d p) U U' :=
 ⟨h.make d b p hle ho hb hf,λq hq=>⟨X0 s d b hq,by simp[QR,hq],λhl i hi=>ho q i hq hl hi⟩⟩
theorem Gam.writeF {s:St}{env:Env}{U U':Heap}{pl:Nat->Value}(h:Gam P B F pl tb s env U) (d:Nat) (b:OB) (hle:F.Le U') (ak:(Qa s.own d).live=true)
  (cE:∀ j i,j≠d->(Qa s.own j).live=true->Oid (pl j) i->U'.get i=U.get i) (hb:OR P B pl tb U' (pl d) b):Gam P B F pl tb ⟨s.env,oset s.own d b,s.nx⟩ env U'/\Fr d s ⟨s.env,oset s.own d b,s.nx⟩ pl pl U U' :=
 ⟨h.write d b hle ak cE hb,λq hq=>⟨by simp only[Qc,z7 hq],rfl,λhl i hi=>cE q i hq hl hi⟩⟩
theorem Gam.pushF {s:St}{env:Env}{U:Heap}{pl:Nat->Value}(h:Gam P B F pl tb s env U) (d:Nat) (b:OB) (p:Value) (blk:Blk) (hp:oid p=some U.n) (hb:OR P B (QR pl d p) tb (U.push blk) p b):Gam P B F (QR pl d p) tb (s.make d b) env (U.push blk)/\Fr d s (s.make d b) pl (QR pl d p) U (U.push blk) :=
 ⟨h.push d b p blk hp hb,λq hq=>⟨X0 s d b hq,by simp[QR,hq],λhl i hi=>Heap.q0g _ _ ((h.obj q).q0s hl hi)⟩⟩
def NOk (P:Program) (B F:Heap) (tb:Nat->Option Bool) (o:VOp) (evV:Operand->Value) (env:Env) (U:Heap) (K:SV->St->Prop) (T:Nat) (s:St) (pl:Nat->Value):Prop :=
 ∃ u U' pl' v s',Q8 o evV U=some (u,U')/\K v s'/\(Gam P B F pl' tb s' env U'/\Fr T s s' pl pl' U U')/\SR P B pl' tb v u
theorem ZP (pl:Nat->Value) (d:Nat) (p:Value):QR pl d p d=p:=by simp[QR]
section
variable {C:Cx}{d:Nat}{ev:Operand->SV}{evV:Operand->Value}{K:SV->St->Prop}
theorem FG (af:∀ x,SR P B pl tb (ev x) (evV x)) (hG:Gam P B F pl tb s env U) {t:Nat}{z:List Value}(h:gn C d (.alloc t z) ev s K):NOk P B F tb (.alloc t z) evV env U K (QN d (.alloc t z) ev) s pl:=by
 have _hev:=af;simp only[gn] at h;refine⟨.pointer (some ⟨U.n,0,none⟩),_,QR pl d (.pointer (some ⟨U.n,0,none⟩)),_,_,rfl,h,hG.pushF d _ _ _ rfl ?_,?_⟩
 .refine⟨U.n,z,_,_,rfl,Heap.q0a _ _,?_,(by simp_all)⟩;have hz:SRs P B (QR pl d (.pointer (some ⟨U.n,0,none⟩))) tb (z.map cvp) (z.map id):=SRs.map λx _=>Mc x
  rwa [List.map_id] at hz
 .simp only[SR,ZP];exact⟨_,rfl,rfl⟩
theorem Q2n (af:∀ x,SR P B pl tb (ev x) (evV x)) (hG:Gam P B F pl tb s env U) {t:Nat}{x:Operand}(h:gn C d (.box t x) ev s K):NOk P B F tb (.box t x) evV env U K (QN d (.box t x) ev) s pl:=by
 simp only[gn] at h;split at h
 .rename_i l hl;obtain⟨c,h1,h2,_⟩:=ZI hl (af x);refine⟨.pointer (some ⟨U.n,0,none⟩),U.push (.cells c ⟨c.length,t⟩ true true),QR pl d (.pointer (some ⟨U.n,0,none⟩)),_,_,by simp only[Q8,h1],h,hG.pushF d _ _ _ rfl ?_,?_⟩
  .exact⟨U.n,c,_,_,rfl,Heap.q0a _ _,SRs.upd (Heap.Le.refl B) (λ_ _ h=>h) (λj hj=>by simp[QR,hj]) _ _ h2,(by simp_all)⟩
  .simp only[SR,ZP];exact⟨_,rfl,rfl⟩
 .cases h
theorem Gf (af:∀ x,SR P B pl tb (ev x) (evV x)) {k:Kind}:∀ {ps:List (Nat×Operand)}{xs ys:List k.T}{c:List Value},S6 k ev ps xs=some ys->Rows (KC B k) xs c ->
  ys.length=xs.length/\∃ c',KD c (ps.map λp=>(p.1*k.size,k.size,evV p.2))=some c'/\Rows (KC B k) ys c'
 |[],xs,ys,c,h,hr=>by obtain rfl:=osj h;exact⟨rfl,c,rfl,hr⟩
 |(j,x)::r,xs,ys,c,h,hr=>by
  simp only[S6] at h;split at h
  .rename_i l hl;split at h
   .rename_i y hy;split at h
    .rename_i hj;obtain⟨vs,h1,h2,_⟩:=ZI hl (af x);have hk:=Qm hy h2;have hlen:=KC.length hk;have bR:=hr.length KC.q0f;have cQ:(j+1)*k.size<=xs.length*k.size:=zm _ hj;rw[zH,xD] at cQ;have bn:=hr.set KC.q0f hj hk;have e:JH c (j*k.size) vs=c.take (j*k.size)++vs++c.drop (j*k.size+k.size):=by
      rw[Xx (by omega),hlen]
     rw[<-e] at bn;obtain⟨h3,c',h4,h5⟩:=Gf af h bn;refine⟨by rw[h3,xi],c',?_,h5⟩;simp only[zS,KD,h1];simp_all
    .cases h
   .cases h
  .cases h
theorem Vq (af:∀ x,SR P B pl tb (ev x) (evV x)) (hG:Gam P B F pl tb s env U) {e:El}{z:List Value}{n:Nat}{ps:List (Nat×Operand)}(h:gn C d (.buildSlice e z n ps) ev s K):NOk P B F tb (.buildSlice e z n ps) evV env U K (QN d (.buildSlice e z n ps) ev) s pl:=by
 simp only[gn] at h;split at h
 .rename_i k _;split at h
  .rename_i hc;obtain⟨az,hz⟩:=hc;split at h
   .rename_i xs hx;have qy:KC B k k.dflt z:=Zg hz;have de:Rows (KC B k) (List.replicate n k.dflt) (Mf n z):=by rw[X4];exact Rows.replicate qy n
    obtain⟨h3,c',h4,h5⟩:=Gf (B:=B) af hx de;rw[xy] at h3;have bR:=h5.length KC.q0f;refine⟨.slice (some ⟨U.n,0,none⟩) n n,U.push (.cells c' e true true),QR pl d (.slice (some ⟨U.n,0,none⟩) n n),_,_,?_,h,hG.pushF d _ _ _ rfl ?_,?_⟩
    .simp only[Q8];rw[<-az,h4]
    .refine .inr ⟨rfl,U.n,n,c',true,by rw[h3],by omega,?_,by rw[bR,h3];exact zd _,?_⟩
     .rw[Heap.q0a,az]
     grind
    .simp only[SR,ZP];exact⟨trivial,_,_,_,rfl⟩
   .cases h
  .cases h
 .cases h
theorem Hd (af:∀ x,SR P B pl tb (ev x) (evV x)) (hG:Gam P B F pl tb s env U) {e:El}{bytes:Nat}{z:List Value}{l c:Operand}(h:gn C d (.makeSlice e bytes z l c) ev s K):NOk P B F tb (.makeSlice e bytes z l c) evV env U K (QN d (.makeSlice e bytes z l c) ev) s pl:=by
 simp only[gn] at h;split at h
 .rename_i k k1 a k2 b _ h1 h2;have e1:=QS h1 (af l);have e2:=QS h2 (af c);split at h
  .rename_i hc;obtain⟨az,hz⟩:=hc;simp only[G4,IB] at h;obtain⟨k3,k4,k5,k6,h⟩:=h;have qy:KC B k k.dflt z:=Zg hz;have de:Rows (KC B k) (List.replicate b.toNat k.dflt) (Mf b.toNat z):=by rw[X4];exact Rows.replicate qy _
   have bR:=de.length KC.q0f;rw[xy] at bR;have ht:=de.take KC.q0f a.toNat;rw[List.take_replicate,xX (by omega)] at ht;refine⟨.slice (some ⟨U.n,0,none⟩) a.toNat b.toNat,U.push (.cells (Mf b.toNat z) e true true),QR pl d (.slice (some ⟨U.n,0,none⟩) a.toNat b.toNat),_,_,?_,h,hG.pushF d _ _ _ rfl ?_,?_⟩
   .simp only[Q8,e1,e2];simp_all
   .refine .inr ⟨rfl,U.n,b.toNat,_,true,by rw[xy],by simp;omega,?_,by rw[bR];exact zd _,?_⟩
    .rw[Heap.q0a,az]
    .rw[xy];exact ht
   .simp only[SR,ZP];exact⟨trivial,_,_,_,rfl⟩
  .cases h
 .cases h
theorem Ao (af:∀ x,SR P B pl tb (ev x) (evV x)) (hG:Gam P B F pl tb s env U) {e:El}{bytes:Nat}{x y:Operand}(h:gn C d (.append e bytes x y) ev s K):NOk P B F tb (.append e bytes x y) evV env U K (QN d (.append e bytes x y) ev) s pl:=by
 have ha:=af x;simp only[gn] at h;split at h
 .rename_i k _;split at h
  .rename_i ys hy;obtain⟨cs,ay,qz,aw,a_,pc⟩:=(Ws hG.leB hG.obj hy (af y)).sl;have al:cs.all cellOk=true:=a_.cellOk;have bR:=a_.length KC.q0f;split at h
   .rename_i hx;have hT:QN d (.append e bytes x y) ev=d:=by simp only[QN,hx]
    rw[hT];rw[hx] at ha;simp only[SR] at ha;split at h
    .rename_i az;simp only[G4,IB] at h;obtain⟨h1,h⟩:=h;rw[az] at aw;have base:Q8 (.append e bytes x y) evV U=Zv e bytes U (.slice none 0 0) ys.length cs:=by
      simp only[Q8,pc] at aw |-;simp only[aw,al,zx,ha]
     by_cases hm:ys=[]
     .subst hm;refine⟨.slice none 0 0,U,QR pl d (.slice none 0 0),_,_,by rw[base];rfl,h,?_,?_⟩
      .refine hG.makeF d _ _ hG.le (λj i _ _ _=>rfl) (.inl ⟨rfl,rfl,rfl⟩) λi _ hi=>by cases hi
      .simp only[SR,ZP];exact⟨trivial,_,_,_,rfl⟩
     .have dj:ys.length≠0:=(by simp_all);refine⟨.slice (some ⟨U.n,0,none⟩) ys.length ys.length,U.push (.cells cs e true false),QR pl d (.slice (some ⟨U.n,0,none⟩) ys.length ys.length),_,_,?_,h,hG.pushF d _ _ _ rfl ?_,?_⟩
      .rw[base];simp only[Zv];simp_all
      .refine .inr ⟨Q6t hm,U.n,ys.length,cs,false,rfl,zd _,?_,by omega,?_⟩
       .rw[Heap.q0a,az]
       grind
      .simp only[SR,ZP];exact⟨trivial,_,_,_,rfl⟩
    .cases h
   .rename_i o hx;have hT:QN d (.append e bytes x y) ev=o:=by simp only[QN,hx]
    rw[hT];rw[hx] at ha;simp only[SR] at ha;have ah:=hG.obj o;split at h
    .rename_i ty k' xs nl ho;rw[ho] at ah;have ak:(Qa s.own o).live=true:=by rw[ho];rfl
     split at h
     .rename_i az;obtain⟨gp,az⟩:=az;split at h
      .rename_i bN fA;obtain rfl:=ZB fA;obtain rfl:=Zw fA;simp only[G4,IB] at h;obtain⟨h1,h⟩:=h;rw[az] at aw;have base:Q8 (.append e bytes x y) evV U=Zv e bytes U (pl o) ys.length cs:=by
        simp only[Q8,pc] at aw |-;simp only[aw,al,zx,ha.1]
       have he:e=⟨k'.size,ty⟩:=by simp_all
       rcases ah with⟨rfl,rfl,h3⟩|⟨rfl,i,cap,c,t,h3,h4,h5,h6,h7⟩
       .
        rw[h3] at base;by_cases hm:ys=[]
        .subst hm;refine⟨.slice none 0 0,U,QR pl o (.slice none 0 0),_,_,by rw[base];rfl,h,?_,?_⟩
         .refine hG.makeF o _ _ hG.le (λj i _ _ _=>rfl) (.inl ⟨rfl,rfl,rfl⟩) λi _ hi=>by cases hi
         .simp only[SR,ZP];exact⟨trivial,_,_,_,rfl⟩
        .have dj:ys.length≠0:=(by grind);refine⟨.slice (some ⟨U.n,0,none⟩) ys.length ys.length,U.push (.cells cs e true false),QR pl o (.slice (some ⟨U.n,0,none⟩) ys.length ys.length),_,_,?_,h,hG.pushF o _ _ _ rfl ?_,?_⟩
         .rw[base];simp only[Zv]
          grind
         .rw[xB];refine .inr ⟨Q86 hm _,U.n,ys.length,cs,false,rfl,zd _,?_,by omega,?_⟩
          .rw[Heap.q0a,he]
          grind
         .simp only[SR,ZP];exact⟨trivial,_,_,_,rfl⟩
       .rw[h3] at base;have k1:bN.length*k'.size<=cap*k'.size:=zm _ h4;have hid:F.get i=none:=hG.fresh o i ak (by rw[h3];rfl);have ck:∀ j i',j≠o->(Qa s.own j).live=true->Oid (pl j) i'->i'≠i:=λj i' hj hl hi e=>by
         subst e;exact hG.sep j o i' hj hl ak hi (by rw[h3];rfl)
        have aj:e=e/\bN.length<=cap/\0+bN.length*e.sz<=c.length:=⟨rfl,h4,by rw[<-az];omega⟩;simp only[Zv,h5] at base;rw[<-he,z6 aj] at base;by_cases hm:ys=[]
        .subst hm;simp only[List.length_nil,zx] at base;refine⟨_,U,QR pl o (pl o),_,_,base,h,?_,?_⟩
         .refine hG.makeF o _ _ hG.le (λj i _ _ _=>rfl) (.inr ⟨rfl,i,cap,c,t,?_,?_,h5,h6,?_⟩) λi' _ hi=>?_
          .rw[h3];simp
          .simpa using h4
          .simpa using h7
          .rw[h3] at hi;obtain rfl:=osj hi
           grind
         .simp only[SR,ZP,h3];exact⟨trivial,_,_,_,rfl⟩
        .have dj:ys.length≠0:=(by grind);have gK:(ys.isEmpty&&false)=false:=by simp
         have jB:Rows (KC B k') (bN++ys) (c.take (bN.length*k'.size)++cs):=h7.append a_;have dU:=jB.length KC.q0f;rw[z7 dj] at base;by_cases aG:bN.length+ys.length<=cap
         .have ff:(bN.length+ys.length)*k'.size<=cap*k'.size:=zm _ aG;have dD:bN.length*k'.size+ys.length*k'.size<=cap*k'.size:=by rw[<-zH];exact ff
          rw[z6 aG,z6 ⟨trivial,by rw[<-az];omega⟩] at base;refine⟨_,_,QR pl o (.slice (some ⟨i,0,none⟩) (bN.length+ys.length) cap),_,_,base,h,?_,?_⟩
          .refine hG.makeF o _ _ (hG.le.upd hid _) (by grind [Heap.q0b]) (.inr ⟨gK,i,cap,JH c (0+bN.length*e.sz) cs,t,by rw[zo],by rw[zo];exact aG,?_,?_,?_⟩) λi' _ hi=>?_
           .rw[Heap.q0d _ _ (U.lt h5),he]
           .rw[Zp];exact h6
           .have dS:0+bN.length*e.sz+cs.length<=c.length:=by rw[<-az];omega
            rw[Xx dS,<-az,zQ,List.take_left' (by rw[dU])];exact jB
           .obtain rfl:=osj hi
            grind
          .simp only[SR,ZP];exact⟨trivial,_,_,_,rfl⟩
         .rw[z7 aG,z6 (by simpa using h1)] at base;have cY:((c.drop 0).take (bN.length*e.sz)++cs)=c.take (bN.length*k'.size)++cs:=by rw[xr,az]
          cases t with
          |true =>
           simp only[zx] at base;rw[cY] at base;refine⟨_,_,QR pl o (.slice (some ⟨U.n,0,none⟩) (bN.length+ys.length) (bN.length+ys.length)),_,_,base,h,hG.pushF o _ _ _ rfl (.inr ⟨gK,U.n,bN.length+ys.length,c.take (bN.length*k'.size)++cs,false,by rw[zo],by grind,?_,?_,?_⟩),?_⟩
           .rw[Heap.q0a,he]
           .grind
           .grind
           .simp only[SR,ZP];exact⟨trivial,_,_,_,rfl⟩
          |false =>
           simp only[zz,if_false,zx] at base;rw[cY] at base;have hn:(U.kill i).n=U.n:=rfl;refine⟨_,_,QR pl o (.slice (some ⟨U.n,0,none⟩) (bN.length+ys.length) (bN.length+ys.length)),_,_,base,h,?_,?_⟩
           .refine hG.makeF o _ _ ((hG.le.kill hid).push _) (λj i' hj hl hi=>?_) (.inr ⟨gK,U.n,bN.length+ys.length,c.take (bN.length*k'.size)++cs,false,by rw[zo],by grind,?_,?_,?_⟩) λi' _ hi=>?_
            .rw[Heap.q0g _ _ (by rw[hn];exact(hG.obj j).q0s hl hi)]
             grind [Heap.q0c]
            .rw[<-hn,Heap.q0a,he]
            .grind
            .grind
            .obtain rfl:=osj hi;exact⟨hG.le.fresh,λj _ hl e=>xS U.n ((hG.obj j).q0s hl e)⟩
           .simp only[SR,ZP];exact⟨trivial,_,_,_,rfl⟩
      .cases h
     .cases h
    .cases h
   .cases h
  .cases h
 .cases h
theorem I4 (af:∀ x,SR P B pl tb (ev x) (evV x)) (hG:Gam P B F pl tb s env U) {size:Nat}{a x:Operand}(h:gn C d (.store size a x) ev s K):NOk P B F tb (.store size a x) evV env U K (QN d (.store size a x) ev) s pl:=by
 have ha:=af a;simp only[gn] at h;split at h
 .rename_i o off vs h1 h2;have hT:QN d (.store size a x) ev=o:=by simp only[QN,h1]
  rw[hT];obtain⟨us,h3,h4,h5⟩:=ZI h2 (af x);rw[h1] at ha;simp only[SR] at ha;obtain⟨b,h6,h7⟩:=ha;have ah:=hG.obj o;split at h
  .rename_i l u ho;rw[ho] at ah;have ak:(Qa s.own o).live=true:=by rw[ho];rfl
   obtain⟨i,c,e,t,h8,h9,cf,ga⟩:=ah;rw[h6] at h8;obtain rfl:=(by simpa using h8:b=i);split at h
   .rename_i hc;have hid:F.get b=none:=hG.fresh o b ak (by rw[h6];rfl);have ck:∀ j i',j≠o->(Qa s.own j).live=true->Oid (pl j) i'->i'≠b:=λj i' hj hl hi e=>by
     subst e;exact hG.sep j o i' hj hl ak hi (by rw[h6];rfl)
    refine⟨undef,U.upd b (.cells (JH c off us) e true t),pl,_,_,?_,h,hG.writeF o _ (hG.le.upd hid _) ak (by grind [Heap.q0b]) ?_,by simp[SR]⟩
    .simp only[Q8,h7,h3,h9];rw[z6 ⟨trivial,by rw[<-h4.length];exact hc.1,by rw[<-cf.length];exact hc.2,h5⟩]
    .exact⟨b,_,e,t,h6,Heap.q0d _ _ (U.lt h9),MB cf h4,ga⟩
   .cases h
  .cases h
 .rename_i o i off sz vs h1 h2;have hT:QN d (.store size a x) ev=o:=by simp only[QN,h1]
  rw[hT];obtain⟨us,h3,h4,h5⟩:=ZI h2 (af x);rw[h1] at ha;simp only[SR] at ha;obtain⟨b,len,cap,h6,h7,h8,h9⟩:=ha;have ah:=hG.obj o;split at h
  .rename_i ty k xs nl ho;rw[ho] at ah;have ak:(Qa s.own o).live=true:=by rw[ho];rfl
   rcases ah with⟨_,_,k3⟩|⟨rfl,i',ao,c,t,k3,k4,k5,k6,k7⟩
   .rw[h6] at k3;cases k3
   .rw[h6] at k3;obtain⟨rfl,rfl,rfl⟩:=(by simpa using k3:b=i'/\len=xs.length/\cap=ao);have hid:F.get b=none:=hG.fresh o b ak (by rw[h6];rfl);have ck:∀ j i',j≠o->(Qa s.own j).live=true->Oid (pl j) i'->i'≠b:=λj i' hj hl hi e=>by
     subst e;exact hG.sep j o i' hj hl ak hi (by rw[h6];rfl)
    have hi:i.toNat<xs.length:=by omega
    have az:(i.toNat+1)*k.size<=xs.length*k.size:=zm _ hi;rw[zH,xD] at az;have k8:=zm k.size k4
    have fin:∀ (y:k.T) (us:List Value) (dy:Nat),dy+us.length<=k.size->KC B k y (JH (((c.take (xs.length*k.size)).drop (i.toNat*k.size)).take k.size) dy us) ->
      Gam P B F pl tb ⟨s.env,oset s.own o (.lst ty k (xs.set i.toNat y) false),s.nx⟩ env (U.upd b (.cells (JH c (i.toNat*k.size+dy) us) ⟨k.size,ty⟩ true t))/\Fr o s ⟨s.env,oset s.own o (.lst ty k (xs.set i.toNat y) false),s.nx⟩ pl pl U (U.upd b (.cells (JH c (i.toNat*k.size+dy) us) ⟨k.size,ty⟩ true t)):=by
     intro y us dy nW hk;refine hG.writeF o _ (hG.le.upd hid _) ak (by grind [Heap.q0b]) (.inr ⟨rfl,b,cap,JH c (i.toNat*k.size+dy) us,t,by rw[h6];simp,by simpa using k4,Heap.q0d _ _ (U.lt k5),by rw[Zp];exact k6,?_⟩);have bn:=k7.set KC.q0f hi hk;rw[xi];rw[OO us c (m:=xs.length*k.size) (p:=i.toNat*k.size) (n:=k.size) (off:=dy) nW az (by omega)];exact bn
    have de:=k7.at KC.q0f hi;have dU:=KC.length de;split at h
    .rename_i hc;obtain⟨rfl,rfl,rfl⟩:=hc;split at h
     .rename_i y hy;have hk:=Qm hy h4;have hl:=KC.length hk;refine⟨undef,U.upd b (.cells (JH c (i.toNat*k.size+0) us) ⟨k.size,ty⟩ true t),pl,_,_,?_,h,fin y us 0 (by omega) ?_,by simp[SR]⟩
      .simp only[Q8,h9,h3,k5]
       grind
      .rw[Xx (by omega),zQ,List.take_zero,xB,List.drop_of_length_le (by omega),xA];exact hk
     .cases h
    .split at h
     .rename_i hc;obtain⟨rfl,r_,rfl,bg⟩:=hc;split at h
      .rename_i y hy;obtain⟨v0,rfl⟩:∃ v0,vs=[v0]:=by
        cases vs with
        |nil=>cases r_
        |cons a r=>cases r with
         |nil=>exact⟨a,rfl⟩
         |cons _ _=>simp at r_
       obtain⟨u0,rfl,vF⟩:=h4.one;have hx:xs.getD i.toNat k.dflt=xs[i.toNat]:=by simp_all
       rw[hx] at hy;refine⟨undef,U.upd b (.cells (JH c (i.toNat*k.size+off) [u0]) ⟨k.size,ty⟩ true t),pl,_,_,?_,h,(by grind [Mv]),by simp[SR]⟩;simp only[Q8,h9,h3,k5]
       grind
      .cases h
     .cases h
  .cases h
 .cases h
theorem DZ (af:∀ x,SR P B pl tb (ev x) (evV x)) (hG:Gam P B F pl tb s env U) {mk:MK}{m kx vx:Operand}(h:gn C d (.ext (.mapUpdate mk m kx vx)) ev s K):NOk P B F tb (.ext (.mapUpdate mk m kx vx)) evV env U K (QN d (.ext (.mapUpdate mk m kx vx)) ev) s pl:=by
 have ha:=af m;simp only[gn] at h;split at h
 .rename_i o h1;have hT:QN d (.ext (.mapUpdate mk m kx vx)) ev=o:=by simp only[QN,h1]
  rw[hT];rw[h1] at ha;simp only[SR] at ha;have ah:=hG.obj o;split at h
  .rename_i kk vk l ho;rw[ho] at ah;have ak:(Qa s.own o).live=true:=by rw[ho];rfl
   obtain⟨id,es,clock,h2,h3,h4⟩:=ah;split at h
   .rename_i hc;have dw:=hc;split at h
    .rename_i key x cm hx;have hk:=H7 cm (af kx) Qm;have hv:=H7 hx (af vx) Qm;have hid:F.get id=none:=hG.fresh o id ak (by rw[h2];rfl);have ck:∀ j i',j≠o->(Qa s.own j).live=true->Oid (pl j) i'->i'≠id:=λj i' hj hl hi e=>by
      subst e;exact hG.sep j o i' hj hl ak hi (by rw[h2];rfl)
     have aE:U.mapAt id=some (es,clock,true):=by simp[Heap.mapAt,h3]
     refine⟨undef,U.upd id (.obj (.map (QC (evV kx) (evV vx) clock es).1 (QC (evV kx) (evV vx) clock es).2) true),pl,_,_,?_,h,hG.writeF o _ (hG.le.upd hid _) ak (by grind [Heap.q0b]) ?_,by simp[SR]⟩
     .simp only[Q8,QT,ha.1,h2,aE];rw[z6 (by rw[Tm dw hk,h4.1.keys dw];rfl)]
     .exact⟨id,_,_,h2,Heap.q0d _ _ (U.lt h3),PM dw hk hv h4.1,h4.2.put⟩
    .cases h
   .cases h
  .rename_i ik l ho;rw[ho] at ah;have ak:(Qa s.own o).live=true:=by rw[ho];rfl
   obtain⟨id,es,clock,h2,h3,h4⟩:=ah;split at h
   .rename_i il n f hi hf;split at h
    .rename_i hc;obtain⟨rfl,dw,jT⟩:=hc;obtain rfl:=Ia dw;have hi:=QS hi (af kx);have hv:=af vx;rw[hf] at hv;simp only[SR] at hv;obtain⟨u,w,hv,hu,hw⟩:=hv;simp only[SRs] at hu hw;subst hu hw;have hid:F.get id=none:=hG.fresh o id ak (by rw[h2];rfl);have ck:∀ j i',j≠o->(Qa s.own j).live=true->Oid (pl j) i'->i'≠id:=λj i' hj hl hi e=>by
      subst e;exact hG.sep j o i' hj hl ak hi (by rw[h2];rfl)
     have aE:U.mapAt id=some (es,clock,true):=by simp[Heap.mapAt,h3]
     refine⟨undef,U.upd id (.obj (.map (QC (evV kx) (evV vx) clock es).1 (QC (evV kx) (evV vx) clock es).2) true),pl,_,_,?_,h,hG.writeF o _ (hG.le.upd hid _) ak (by grind [Heap.q0b]) ?_,by simp[SR]⟩
     .simp only[Q8,QT,ha.1,h2,aE];rw[z6 (by rw[hi,h4.keys];simp[Za])]
     .refine⟨id,_,_,h2,Heap.q0d _ _ (U.lt h3),?_⟩;rw[hi,hv];exact h4.put jT
    .cases h
   .cases h
  .cases h
 .cases h
theorem Ha (af:∀ x,SR P B pl tb (ev x) (evV x)) (hG:Gam P B F pl tb s env U) {e:Nat}{a n:Operand}(h:gn C d (.ext (.unsafeStr e a n)) ev s K):NOk P B F tb (.ext (.unsafeStr e a n)) evV env U K (QN d (.ext (.unsafeStr e a n)) ev) s pl:=by
 have ha:=af a;simp only[gn] at h;split at h
 .rename_i k h1 h2;have hn:=QS h2 (af n);obtain⟨hk,hK⟩:=h;have hk:k=0:=hk;rw[h1] at ha;simp only[SR] at ha;refine⟨.string ⟨#[]⟩,U,pl,_,_,?_,hK,⟨hG,λq _=>⟨rfl,rfl,λ_ _ _=>rfl⟩⟩,BU []⟩;simp only[Q8,QT,ha,hn,hk,zx]
 .rename_i o k h1 h2;have hn:=QS h2 (af n);have hT:QN d (.ext (.unsafeStr e a n)) ev=o:=by simp only[QN,h1]
  rw[hT];rw[h1] at ha;simp only[SR,DR] at ha;split at h
  .rename_i ty xs nl ho;split at h
   .rename_i gp;obtain⟨hk,hlen,hK⟩:=h;have hk:k=xs.length:=hk;have hlen:xs.length<=4611686018427387904:=hlen;have ah:=hG.obj o;rw[ho] at ah;have aS:∀ {U':Heap},F.Le U'->(∀ j i,j≠o->(Qa s.own j).live=true->Oid (pl j) i->U'.get i=U.get i)->Gam P B F (QR pl o poison) tb (s.make o .dead) env U'/\Fr o s (s.make o .dead) pl (QR pl o poison) U U':=λ{U'} h3 h4 =>
     hG.makeF o .dead poison h3 h4 trivial λi hl=>by cases hl
    rcases ah with⟨_,hx,hp⟩|⟨_,i,cap,c,t,hp,bL,hg,bR,a_⟩
    .subst hx;refine⟨.string ⟨#[]⟩,U,_,_,_,?_,hK,aS hG.le (λ_ _ _ _ _=>rfl),BU []⟩;rcases ha with⟨_,hv⟩|⟨b,n',ao,hv,mK,_⟩
     .simp only[Q8,QT,hv,hn,hk];rfl
     .rw[hp] at hv;cases hv
    .rcases ha with⟨hv,_⟩|⟨b,n',ao,hv,mK,uc⟩
     .rw[hp] at hv;cases hv
     .rw[hp] at hv;have hv:=hv;simp only[phd,Value.slice.injEq,xe] at hv;obtain⟨hb,eJ,_⟩:=hv;have ud:i=b:=by injection hb
      subst ud;subst eJ;have az:Kind.size (.i .u8)=1:=rfl;rw[az,xO] at a_ bR;have oY:=Sk a_;have ak:(Qa s.own o).live=true:=by rw[ho];rfl
      have hid:F.get i=none:=hG.fresh o i ak (by rw[hp];rfl);refine⟨.string ⟨(xs.map λx=>x.toNat.toUInt8).toArray⟩,U.upd i (.cells c ⟨1,ty⟩ false t),_,_,_,?_,hK,aS (hG.le.upd hid _) (λj i' hj hl hi=>Heap.q0b _ _ λe=>by
       subst e;exact hG.sep j o i' hj hl ak hi (by rw[hp];rfl)),BU _⟩
      have ll:¬ k=0:=by omega
      have jD:k.toNat=xs.length:=by omega
      simp only[Q8,QT,uc,hn,z7 ll,hg,az]
      grind
   .cases h
  .cases h
 .cases h
end
theorem Ou (hG:Gam P B F pl tb s env U) (d:Nat) (ik:IntKind):Gam P B F (QR pl d (.map (some U.n))) tb (s.make d (.fm ik [])) env (U.push (.obj (.map [] 0) true))/\SR P B (QR pl d (.map (some U.n))) tb (.map d) (.map (some U.n)):=by refine⟨hG.push d _ _ _ rfl ⟨U.n,[],0,rfl,Heap.q0a _ _,rfl⟩,?_⟩;simp only[SR,ZP];exact⟨trivial,_,rfl⟩
theorem F4 (hG:Gam P B F pl tb s env U) (d:Nat) (kk vk:Kind):Gam P B F (QR pl d (.map (some U.n))) tb (s.make d (.map kk vk [])) env (U.push (.obj (.map [] 0) true))/\SR P B (QR pl d (.map (some U.n))) tb (.map d) (.map (some U.n)):=by refine⟨hG.push d _ _ _ rfl ⟨U.n,[],0,rfl,Heap.q0a _ _,rfl,List.nodup_nil,λ_ h=>by cases h⟩,?_⟩;simp only[SR,ZP];exact⟨trivial,_,rfl⟩
end
end Go.V
namespace Go.V
open Go
def OL (ρ1 ρ2:Plc):Prop:=∀ i p2,ρ2 i=some p2->∃ p1,ρ1 i=some p1/\p2.blk=p1.blk/\p2.shift=p1.shift/\p2.ext=p1.ext/\p2.esz=p1.esz/\(p2.tight=true->p1.tight=true)
theorem VRel.loose {ρ1 ρ2:Plc}{n:Nat}(hl:OL ρ1 ρ2) {v c:Value}(h:VRel ρ1 n v c):VRel ρ2 n v c:=by
 induction h with
 |poison c=>exact .poison c
 |bool b=>exact .bool b
 |int k x=>exact .int k x
 |string s=>exact .string s
 |nilPtr=>exact .nilPtr
 |nilSl=>exact .nilSl
 |nilMap=>exact .nilMap
 |nilFunc=>exact .nilFunc
 |nilIface=>exact .nilIface
 |glob g o s=>exact .glob g o s
 |ptr i o a hi h =>refine .ptr i o a hi λp hp=>?_;obtain⟨p1,h1,h2,h3,_⟩:=hl i p hp;rw[h2,h3];exact h p1 h1
 |sl i o len cap a ao hi h =>refine .sl i o len cap a ao hi λp hp=>?_;obtain⟨p1,h1,h2,h3,h4,h5,h6⟩:=hl i p hp;obtain⟨k1,k2,k3⟩:=h p1 h1;rw[h2,h3,h4,h5];exact⟨k1,λht=>k2 (h6 ht),k3⟩
 |slx i o len cap a hi h =>refine .slx i o len cap a hi λp hp=>?_;obtain⟨p1,h1,h2,h3,h4,h5,h6⟩:=hl i p hp;rw[h2,h3,h4,h5];exact h p1 h1
 |map i r hi h =>refine .map i r hi λp hp=>?_;obtain⟨p1,h1,h2,_⟩:=hl i p hp;rw[h2];exact h p1 h1
 |yield i r hi h =>refine .yield i r hi λp hp=>?_;obtain⟨p1,h1,h2,_⟩:=hl i p hp;rw[h2];exact h p1 h1
 |iface t v c _ ih=>exact .iface t v c ih
 |func fn fs gs cs ds hf hc _ _ mw my=>exact .func fn fs gs cs ds hf hc mw my
 |agg cs ds hc _ ih=>exact .agg cs ds hc ih
 |tuple cs ds hc _ ih=>exact .tuple cs ds hc ih
theorem LRel.loose {ρ1 ρ2:Plc}{n:Nat}(hl:OL ρ1 ρ2) {v c:List Value}(h:LRel ρ1 n v c):LRel ρ2 n v c:=⟨h.1,λi a b h1 h2=>(h.2 i a b h1 h2).loose hl⟩
theorem ORel.loose {ρ1 ρ2:Plc}{n:Nat}(hl:OL ρ1 ρ2) {o:VObj}{O:Obj}(h:ORel ρ1 n o O):ORel ρ2 n o O:=by
 cases o with
 |map es clock =>obtain⟨entries,h1,h2,h3⟩:=h;exact⟨entries,h1,h2,λk kv hk=>let ⟨e,he,h4,h5,hv⟩:=h3 k kv hk;⟨e,he,h4,h5,hv.loose hl⟩⟩
 |iter m since seen last=>obtain⟨rm,h1,h2⟩:=h;exact⟨rm,h1,h2.loose hl⟩
 |lp env r st pend=>exact⟨h.1,h.2.loose hl⟩
 |siter s pos=>exact h
inductive Weak (n0:Nat->Prop):Value->Value->Prop
 |refl (v:Value):Weak n0 v v
 |sl (i len cap:Nat) (hi:n0 i) (hc:len<=cap):Weak n0 (.slice (some ⟨i,0,none⟩) len cap) (.slice (some ⟨i,0,none⟩) len len)
 |agg (cs ds:List Value) (hc:cs.length=ds.length) (h:∀ (i:Nat) (a b:Value),cs[i]?=some a->ds[i]?=some b->Weak n0 a b):Weak n0 (.agg cs.toArray) (.agg ds.toArray)
 |tuple (cs ds:List Value) (hc:cs.length=ds.length) (h:∀ (i:Nat) (a b:Value),cs[i]?=some a->ds[i]?=some b->Weak n0 a b):Weak n0 (.tuple cs.toArray) (.tuple ds.toArray)
theorem Weak.rel {ρ:Plc}{n:Nat}{n0:Nat->Prop}(hρ:∀ i p,n0 i->ρ i=some p->p.tight=false) {v v':Value}(h:Weak n0 v v'):∀ {c:Value},VRel ρ n v c->VRel ρ n v' c:=by
 induction h with
 |refl v=>exactλh=>h
 |sl i len cap hi hc =>
  intro c h;cases h with
  |sl _ _ _ _ a ao bS h =>
   refine .sl _ _ _ _ _ _ bS λp hp=>?_;obtain⟨k1,k2,k6|⟨o',k3,k4,k5⟩⟩:=h p hp
   .omega
   refine⟨by omega,(by grind),.inr ⟨o',k3,k4,?_⟩⟩;rcases k5 with k5|k5
   .exact .inl k5
   .exact .inr ⟨k5.1,k5.1⟩
 |agg cs ds hc h ih =>
  intro c hr;cases hr with
  |agg _ es cO hr =>
   refine .agg _ _ (by simpa [hc] using cO) λi h1 h2=>?_;have l1:i<cs.length:=by simpa [hc] using h1
   have l2:i<ds.length:=by simpa using h1
   have:=ih i cs[i] ds[i] (z8 l1) (z8 l2) (hr i (by simpa using l1) h2);simpa using this
 |tuple cs ds hc h ih =>
  intro c hr;cases hr with
  |tuple _ es cO hr =>
   refine .tuple _ _ (by simpa [hc] using cO) λi h1 h2=>?_;have l1:i<cs.length:=by simpa [hc] using h1
   have l2:i<ds.length:=by simpa using h1
   have:=ih i cs[i] ds[i] (z8 l1) (z8 l2) (hr i (by simpa using l1) h2);simpa using this
theorem DropTo.trans {σ0 σ1 σ2 σ3:Heap}{v1 v2 v3:Value}(h:DropTo σ0 v1 σ1 v2 σ2) (k:DropTo σ0 v2 σ2 v3 σ3):DropTo σ0 v1 σ1 v3 σ3:=by intro ρ0 w0 ρ w c fS hE hH hv;obtain⟨ρ',ku,gv,bT⟩:=h ρ0 w0 ρ w c fS hE hH hv;exact k ρ0 w0 ρ' w c fS bT gv ku
theorem DropTo.weaken {σ0 σ1 σ2:Heap}{v v':Value}(S:Nat->Bool) (hS:∀ i,S i=true->σ0.n<=i) (hn:σ2.n=σ1.n) (h0:σ0.n<=σ1.n) (h1:∀ i,S i=false->σ2.get i=σ1.get i)
  (h2:∀ i,S i=true->∃ c e wr t m,σ1.get i=some (.cells c e wr t)/\σ2.get i=some (.cells (c.take m) e wr false)) (hv:Weak (λi=>S i=true) v v'):DropTo σ0 v σ1 v' σ2:=by
 intro ρ0 w0 ρ w c fS hE hH eB;let ρ':Plc:=λi=>if S i=false then ρ i else (ρ i).map λp=>{p with tight:=false}
 have hl:OL ρ ρ':=λi p2 hp=>by
  change (if S i=false then ρ i else (ρ i).map λp=>{p with tight:=false})=some p2 at hp;by_cases hi:S i=false
  .simp_all
  .rw[z7 hi,zk] at hp
   grind
 have cH:∀ i p2,ρ' i=some p2->∃ p1,ρ i=some p1/\p2.blk=p1.blk/\p2.ext=p1.ext:=λi p2 hp=>by obtain⟨p1,k1,k2,k3,k4,_⟩:=hl i p2 hp;exact⟨p1,k1,k2,k4⟩
 have hU:∀ i b,σ2.get i=some b->∃ b1,σ1.get i=some b1/\b.wr=b1.wr:=λi b hb=>by
  by_cases hi:S i=false
  .simp_all
  .obtain⟨c,e,wr,t,m,k1,k2⟩:=h2 i (by simpa using hi);rw[k2] at hb;obtain rfl:=osj hb;exact⟨_,k1,rfl⟩
 have hX:Ext ρ0 σ0 w0 ρ' σ2 w:=by
  refine⟨hE.os,hE.tape,hE.output,hE.size,hE.keep,?_,by omega,λi hi p hp=>?_⟩
  .rintro B hB ⟨i,p,b,hp,hb,hw,rfl⟩;obtain⟨p1,k1,k2,_⟩:=cH i p hp;obtain⟨b1,k7,k8⟩:=hU i b hb;exact hE.wr _ hB ⟨i,p1,b1,k1,k7,by rw[<-k8];exact hw,k2.symm⟩
  .have:S i=false:=by
    grind
   simp only[ρ',this,zx] at hp;exact hE.pl i hi p hp
 refine⟨ρ',?_,fS.ext ⟨λi b hb=>?_,λi hi=>?_,λi p hp=>?_,λi j p q b cB hp hq hb hw hx=>?_⟩ hX,hX⟩
 .rw[hn];refine hv.rel (λi p hi hp=>?_) (eB.loose hl)
  grind
 .by_cases hi:S i=false
  .rw[h1 i hi] at hb;obtain⟨p,hp,hB⟩:=hH.live i b hb;refine⟨p,by simp only[ρ',hi,zx];exact hp,?_⟩;rw[hn];cases b with
   |cells c e wr t =>obtain⟨k1,k2,k3,k4,k5,k6⟩:=hB;exact⟨k1,k2,k3,k4,λk v hk=>let ⟨u,a1,a2⟩:=k5 k v hk;⟨u,a1,a2.loose hl⟩,k6⟩
   |obj o wr =>obtain⟨k1,O,k2,k3⟩:=hB;exact⟨k1,O,k2,k3.loose hl⟩
  .obtain⟨c,e,wr,t,m,k1,k2⟩:=h2 i (by simpa using hi);rw[k2] at hb;obtain rfl:=osj hb;obtain⟨p,hp,hB⟩:=hH.live i _ k1;obtain⟨a1,a2,a3,a4,a5,a6⟩:=hB;refine⟨{p with tight:=false},by simp[ρ',hi,hp],a1,rfl,by simp;omega,a4,λk v hk=>?_,(by simp_all)⟩;rw[xt] at hk;split at hk
   .obtain⟨u,b1,b2⟩:=a5 k v hk;rw[hn];exact⟨u,b1,b2.loose hl⟩
   .cases hk
 .have hd:σ1.get i=none:=by
   grind
  have:=hH.dead i hd;simp only[ρ',this];split<;>rfl
 .obtain⟨p1,k1,k2,_⟩:=cH i p hp;rw[k2];exact hH.lt i p1 k1
 .obtain⟨p1,k1,k2,k3⟩:=cH i p hp;obtain⟨q1,k4,k5,k6⟩:=cH j q hq;obtain⟨b1,k7,k8⟩:=hU i b hb;rw[k2,k5];exact hH.sep i j p1 q1 b1 cB k1 k4 k7 (by rw[<-k8];exact hw) (by rw[<-k6];exact hx)
def mkP (U:Heap) (v:Value) (is:List Nat):Value:=.tuple (v::is.map λi=>match U.get i with|some b=>Q5p i b|none=>.bool true).toArray
theorem Ci (U:Heap) (v:Value) (is:List Nat):phd (mkP U v is)=v:=rfl
theorem Is (i:Nat) (c:List Value) (e:El) (wr t:Bool):Q6d (Q5p i (.cells c e wr t))=some (i,.cells c e true t):=rfl
theorem CI {U:Heap}:∀ {is:List Nat},(∀ i∈is,∃ c e t,U.get i=some (.cells c e true t))->∀ j,GL (Q0j (is.map λi=>match U.get i with|some b=>Q5p i b|none=>.bool true)) j=if j∈is then U.get j else none
 |[],_,j=>by simp[Q0j,GL]
 |i::is,h,j=>by
  obtain⟨c,e,t,hc⟩:=h i zl;have ih:=CI (U:=U) (is:=is) (by simp_all) j;simp only[zS,hc,Q0j,Is,GL]
  grind
theorem Th {U:Heap}{v:Value}{is:List Nat}(h:∀ i∈is,∃ c e t,U.get i=some (.cells c e true t)) (j:Nat):(Je (mkP U v is)).get j=if j∈is then U.get j else none:=CI h j
theorem KO.imp {H H':Heap}:∀ {k:Kind}{q:Option Nat}{x:k.T}{cs:List Value}{is:List Nat},KO H q k x cs is->(∀ i∈is,H'.get i=H.get i)->KO H' q k x cs is
 |.i _,_,_,_,_,h,_|.bo,_,_,_,_,h,_|.st,_,_,_,_,h,_=>by simp only[KO] at h |-;exact h
 |.list k,q,l,cs,is,h,g=>by
  simp only[KO] at h |-;rcases h with h|⟨i,cap,c,e,t,js,h1,rfl,h3,h4,h5,h6,h7,h8⟩
  .exact .inl h
  .refine .inr ⟨i,cap,c,e,t,js,h1,rfl,h3,by rw[g i zl];exact h4,h5,h6,h7,?_⟩;have key:∀ {xs:List k.T}{cs:List Value}{js:List Nat},RowsO (λx c is=>KO H none k x c is) xs cs js->(∀ i∈js,H'.get i=H.get i)->RowsO (λx c is=>KO H' none k x c is) xs cs js:=λh=>by
    induction h with
    |nil=>exactλ_=>.nil
    |cons h _ ih=>exactλg=>.cons (KO.imp (k:=k) h (by simp_all)) (by simp_all)
   simp_all
 |.pair a b,_,x,cs,is,h,g=>by simp only[KO] at h |-;obtain⟨c1,c2,i1,i2,h1,rfl,h3,h4⟩:=h;exact⟨c1,c2,i1,i2,h1,rfl,h3.imp (by simp_all),h4.imp (by simp_all)⟩
theorem KO.cells {H:Heap}:∀ {k:Kind}{q:Option Nat}{x:k.T}{cs:List Value}{is:List Nat},KO H q k x cs is->∀ i∈is,∃ c e t,H.get i=some (.cells c e true t)
 |.i _,_,_,_,_,h,i,hi|.bo,_,_,_,_,h,i,hi|.st,_,_,_,_,h,i,hi=>by simp only[KO] at h;rw[h.2] at hi;cases hi
 |.list k,q,l,cs,is,h,i,hi=>by
  simp only[KO] at h;rcases h with⟨_,_,rfl⟩|⟨i',cap,c,e,t,js,h1,rfl,h3,h4,h5,h6,h7,h8⟩
  .cases hi
  .rcases zD.1 hi with rfl|hi
   .exact⟨_,_,_,h4⟩
   .have key:∀ {xs:List k.T}{cs:List Value}{js:List Nat},RowsO (λx c is=>KO H none k x c is) xs cs js->∀ i∈js,∃ c e t,H.get i=some (.cells c e true t):=λh=>by
     induction h with
     |nil=>exactλi hi=>by cases hi
     |cons h _ ih=>exactλi hi=>(zR.1 hi).elim (KO.cells (k:=k) h i) (ih i)
    exact key h8 i hi
 |.pair a b,_,x,cs,is,h,i,hi=>by simp only[KO] at h;obtain⟨c1,c2,i1,i2,h1,rfl,h3,h4⟩:=h;exact(zR.1 hi).elim (h3.cells i) (h4.cells i)
theorem KO.weak {H:Heap}:∀ {k:Kind}{q:Option Nat}{x:k.T}{cs:List Value}{is:List Nat},KO H q k x cs is->KO H none k x cs is
 |.i _,_,_,_,_,h|.bo,_,_,_,_,h|.st,_,_,_,_,h=>by simp only[KO] at h |-;exact h
 |.list k,q,l,cs,is,h=>by
  simp only[KO] at h |-
  grind
 |.pair a b,_,x,cs,is,h=>by simp only[KO] at h |-;exact h
theorem KO.q0f {H:Heap}{q:Option Nat}{k:Kind}:∀ (x:k.T) (c:List Value) (is:List Nat),KO H q k x c is->c.length=k.size:=λ_ _ _ h=>KC.length h.kc
theorem KC.ko {H:Heap}:∀ {k:Kind}{q:Option Nat}{x:k.T}{cs:List Value},k.flat=true->KC H k x cs->KO H q k x cs []
 |.i _,_,_,_,_,h|.bo,_,_,_,_,h|.st,_,_,_,_,h=>by simp only[KC] at h;simp only[KO];exact⟨h,trivial⟩
 |.list _,_,_,_,f,_=>by cases f
 |.pair a b,_,x,cs,f,h=>by simp only[Kind.flat,z1] at f;obtain⟨c1,c2,rfl,h1,h2⟩:=h;simp only[KO];exact⟨c1,c2,[],[],rfl,rfl,h1.ko f.1,h2.ko f.2⟩
theorem BB {H:Heap}:∀ {k:Kind}{q:Option Nat}{z:List Value},Xj k z=true->KO H q k k.dflt z []
 |.i ik,q,z,h=>KC.ko rfl (Zg h)
 |.bo,q,z,h=>KC.ko rfl (Zg h)
 |.st,q,z,h=>KC.ko rfl (Zg h)
 |.list k,q,z,h=>by
  unfold Xj at h;split at h
  .contradiction
  .contradiction
  .contradiction
  .unfold KO;exact .inl ⟨rfl,rfl,rfl⟩
  .contradiction
  .cases h
 |.pair a b,q,z,h=>by simp only[Xj,z1] at h;simp only[KO,Kind.dflt];exact⟨z.take a.size,z.drop a.size,[],[],(xh _ _).symm,rfl,BB h.1,BB h.2⟩
section
variable {α:Type}{R R':α->List Value->List Nat->Prop}{sz:Nat}
theorem RowsH.imp:∀ {xs:List α}{h:Option Nat}{j:Nat}{cs:List Value}{is:List Nat},RowsH R sz h j xs cs is->(∀ x c js,R x c js->(∀ i∈js,i∈is)->R' x c js)->RowsH R' sz h j xs cs is
 |[],_,_,_,_,h,_=>h
 |x::xs,hh,j,cs,is,h,g=>by
  obtain⟨c,cs',i1,i2,rfl,rfl,h1,h2⟩:=h;refine⟨c,cs',i1,i2,rfl,rfl,?_,h2.imp (by simp_all)⟩
  grind
theorem RowsH.hole:∀ {xs:List α}{h h':Option Nat}{j j':Nat}{cs:List Value}{is:List Nat},RowsH R sz h j xs cs is->(∀ m,h=some (j+m)<->h'=some (j'+m))->RowsH R sz h' j' xs cs is
 |[],_,_,_,_,_,_,h,_=>h
 |x::xs,h,h',j,j',cs,is,hr,g=>by
  obtain⟨c,cs',i1,i2,rfl,rfl,h1,h2⟩:=hr;refine⟨c,cs',i1,i2,rfl,rfl,?_,h2.hole λm=>?_⟩
  .have:=g 0;simp_all
  .have:=g (1+m)
   grind
theorem RowsH.length (hR:∀ x c is,R x c is->c.length=sz):∀ {xs:List α}{h:Option Nat}{j:Nat}{cs:List Value}{is:List Nat},RowsH R sz h j xs cs is->cs.length=xs.length*sz
 |[],_,_,_,_,h=>by rw[h.1];simp
 |x::xs,_,j,cs,is,h=>by
  obtain⟨c,cs',i1,i2,rfl,rfl,h1,h2⟩:=h;have hc:c.length=sz:=by
   grind
  rw[zo,hc,h2.length hR,xj,zH,xD,xR]
theorem RowsH.rowsO (g:∀ x c js,R x c js->R' x c js):∀ {xs:List α}{j:Nat}{cs:List Value}{is:List Nat},RowsH R sz none j xs cs is->RowsO R' xs cs is
 |[],_,_,_,h=>by obtain⟨rfl,rfl⟩:=h;exact .nil
 |x::xs,j,cs,is,h=>by obtain⟨c,cs',i1,i2,rfl,rfl,h1,h2⟩:=h;rw[z7 (by simp)] at h1;exact .cons (g _ _ _ h1) (h2.rowsO g)
theorem RowsH.append:∀ {xs ys:List α}{j j':Nat}{cs ds:List Value}{is js:List Nat},RowsH R sz none j xs cs is->RowsH R sz none j' ys ds js->RowsH R sz none j (xs++ys) (cs++ds) (is++js)
 |[],ys,j,j',cs,ds,is,js,h,h'=>by obtain⟨rfl,rfl⟩:=h;exact h'.hole λm=>by simp
 |x::xs,ys,j,j',cs,ds,is,js,h,h'=>by obtain⟨c,cs',i1,i2,rfl,rfl,h1,h2⟩:=h;exact⟨c,cs'++ds,i1,i2++js,by rw[x6],by rw[x6],h1,h2.append h'⟩
theorem RowsH.replicate {x:α}{c:List Value}(h:R x c []):∀ (n j:Nat),RowsH R sz none j (List.replicate n x) (List.replicate n c).flatten []
 |0,_=>⟨rfl,rfl⟩
 |n+1,j=>⟨c,_,[],[],rfl,rfl,by rw[z7 (by simp)];exact h,RowsH.replicate h n (j+1)⟩
theorem RowsH.take (hR:∀ x c is,R x c is->c.length=sz):∀ {xs:List α}{j:Nat}{cs:List Value},RowsH R sz none j xs cs []->∀ n,RowsH R sz none j (xs.take n) (cs.take (n*sz)) []
 |[],j,cs,h,n=>by obtain⟨rfl,_⟩:=h;simp[RowsH]
 |x::xs,j,cs,h,0=>by simp[RowsH]
 |x::xs,j,cs,h,n+1=>by
  obtain⟨c,cs',i1,i2,rfl,e,h1,h2⟩:=h;obtain⟨rfl,rfl⟩:=List.append_eq_nil_iff.1 e.symm;have hc:c.length=sz:=by grind
  refine⟨c,cs'.take (n*sz),[],[],?_,rfl,h1,h2.take hR n⟩;rw[zH,xD,xR,List.take_append,hc,zC (by omega),Nat.add_sub_cancel_left]
theorem RowsH.set (hR:∀ x c is,R x c is->c.length=sz):∀ {xs:List α}{h h':Option Nat}{j i:Nat}{cs:List Value}{is:List Nat}{x:α}{c':List Value}{inew:List Nat},
  RowsH R sz h j xs cs is->(hi:i<xs.length)->(∀ m,m≠i->(h=some (j+m)<->h'=some (j+m)))->c'.length=sz->(if h'=some (j+i) then inew=[] else R x c' inew) ->
  ∃ dt ix du,is=dt++ix++du/\RowsH R sz h' j (xs.set i x) (cs.take (i*sz)++c'++cs.drop (i*sz+sz)) (dt++inew++du)/\(if h=some (j+i) then ix=[] else R xs[i] ((cs.drop (i*sz)).take sz) ix)
 |[],_,_,_,_,_,_,_,_,_,_,hi,_,_,_=>by simp at hi
 |y::ys,h,h',j,0,cs,is,x,c',inew,hr,hi,g,hl,hn=>by
  obtain⟨c,cs',i1,i2,rfl,rfl,h1,h2⟩:=hr;have hc:c.length=sz:=by
   grind
  have ht:RowsH R sz h' (j+1) ys cs' i2:=h2.hole λm=>by
   have:=g (m+1) (by omega)
   grind
  refine⟨[],i1,i2,rfl,?_,?_⟩
  .rw[List.set_cons_zero];refine⟨c',cs',inew,i2,?_,rfl,?_,ht⟩
   .simp_all
   simp_all
  simp_all
 |y::ys,h,h',j,i+1,cs,is,x,c',inew,hr,hi,g,hl,hn=>by
  obtain⟨c,cs',i1,i2,rfl,rfl,h1,h2⟩:=hr;have hc:c.length=sz:=by
   grind
  obtain⟨dt,ix,du,rfl,k1,k2⟩:=RowsH.set hR h2 (i:=i) (h':=h') (x:=x) (c':=c') (inew:=inew) (by simpa using hi) (λm hm=>by
   have:=g (m+1) (by omega)
   grind) hl (by grind)
  have e0:(i+1)*sz=sz+i*sz:=by grind
  refine⟨i1++dt,ix,du,by simp[x6],?_,?_⟩
  .rw[List.set_cons_succ];refine⟨c,_,i1,dt++inew++du,?_,by simp[x6],?_,k1⟩
   .have e1:(c++cs').take ((i+1)*sz)=c++cs'.take (i*sz):=by
     grind
    have e2:(c++cs').drop ((i+1)*sz+sz)=cs'.drop (i*sz+sz):=by rw[e0,List.drop_append,hc,List.drop_of_length_le (by omega),xB];congr 1;omega
    rw[e1,e2];simp[x6]
   .have:=g 0 (by omega);simp_all
  .rw[show j+(i+1)=j+1+i by omega];have e3:(c++cs').drop ((i+1)*sz)=cs'.drop (i*sz):=by
    rw[e0,List.drop_append,hc,List.drop_of_length_le (by omega),xB];congr 1;omega
   rw[e3];exact k2
end
theorem DO.imp {H H':Heap}{ty:Nat}{q:Option Nat}{k:Kind}{xs:List k.T}{h:Option Nat}{v:Value}{is:List Nat}(hd:DO H ty q k xs h v is) (g:∀ i∈is,H'.get i=H.get i):DO H' ty q k xs h v is:=by
 rcases hd with hd|⟨i,cap,c,t,js,h1,rfl,h3,h4,h5,h6⟩
 .exact .inl hd
 .exact .inr ⟨i,cap,c,t,js,h1,rfl,h3,by rw[g i zl];exact h4,h5,h6.imp (by grind [KO.imp,List.mem_cons_of_mem])⟩
theorem RowsH.cells {H:Heap}{q:Option Nat}{k:Kind}{sz:Nat}:∀ {xs:List k.T}{h:Option Nat}{j:Nat}{cs:List Value}{is:List Nat},RowsH (KO H q k) sz h j xs cs is->∀ i∈is,∃ c e t,H.get i=some (.cells c e true t)
 |[],_,_,_,_,h,i,hi=>by rw[h.2] at hi;cases hi
 |x::xs,_,j,cs,is,h,i,hi=>by
  obtain⟨c,cs',i1,i2,rfl,rfl,h1,h2⟩:=h;rcases zR.1 hi with hi|hi
  .grind [KO.cells]
  .exact h2.cells i hi
theorem DO.cells {H:Heap}{ty:Nat}{q:Option Nat}{k:Kind}{xs:List k.T}{h:Option Nat}{v:Value}{is:List Nat}(hd:DO H ty q k xs h v is):∀ i∈is,∃ c e t,H.get i=some (.cells c e true t):=by
 rcases hd with⟨_,_,rfl⟩|⟨i,cap,c,t,js,h1,rfl,h3,h4,h5,h6⟩
 .exact λi hi=>by cases hi
 .exact λj hj=>(zD.1 hj).elim (by simp_all) (h6.cells j)
theorem DP.open {U:Heap}{p:Value}{ty:Nat}{q:Option Nat}{k:Kind}{xs:List k.T}{nl:Bool}{h:Option Nat}(hd:DP U p ty q k xs nl h) :
  ∃ is,is.Nodup/\DO U ty q k xs h (phd p) is/\(∀ i,Oid p i<->i∈is)/\(nl=true<->phd p=.slice none 0 0):=by
 obtain⟨is,hO,h1,h2,h3,h4,h5⟩:=hd;refine⟨is,h1,h2.imp λi hi=>?_,λi=>(hO i).trans (h3 i),h5⟩
 grind
theorem DP.close {U:Heap}{v:Value}{ty:Nat}{q:Option Nat}{k:Kind}{xs:List k.T}{nl:Bool}{h:Option Nat}{is:List Nat}(hn:is.Nodup) (hd:DO U ty q k xs h v is) (gK:nl=true<->v=.slice none 0 0) :
  DP U (mkP U v is) ty q k xs nl h:=by
 have hc:=hd.cells;refine⟨is,λ_=>Iff.rfl,hn,hd.imp λi hi=>by rw[Th hc,z6 hi],λi=>?_,λi b hb=>?_,gK⟩
 .rw[Th hc]
  grind
 grind [Th]
theorem B3 {U:Heap}{v:Value}{is:List Nat}(hc:∀ i∈is,∃ c e t,U.get i=some (.cells c e true t)) (i:Nat):Oid (mkP U v is) i<->i∈is:=by
 show (∃ b,(Je (mkP U v is)).get i=some b)<->_;rw[Th hc]
 grind
end Go.V