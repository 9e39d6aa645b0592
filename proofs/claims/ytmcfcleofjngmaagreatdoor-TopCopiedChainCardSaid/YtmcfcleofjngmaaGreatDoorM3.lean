
import Derived.Test.YtmcfcleofjngmaaGreatDoorProg
import Derived.Laws.Closers25b
import Derived.Test.YtmcfcleofjngmaaGreatDoorM2
noncomputable section
namespace Go.Proofs.Tryz
open Go Go.V Go.Proofs
theorem mixed:Tryz.prog.follows .mixedOrders=true:=by kernel_rfl
def cof (fn:Func):VCode:=match fn.body.bind (comp Tryz.prog) with|some c=>c|none=>.bad
theorem Q1 {fn:Func}(h:(fn.body.bind (comp Tryz.prog)).isSome=true):fn.body.bind (comp Tryz.prog)=some (cof fn):=by
 unfold cof;cases h2:fn.body.bind (comp Tryz.prog) with
 |none=>rw[h2] at h;cases h
 |some c=>rfl
def c2:VCode:=cof Tryz.f2
theorem J4y:Fun Tryz.prog 2 c2 [] 1:=⟨Tryz.f2,Tryz.func2,Q1 (by kernel_rfl),by kernel_rfl,rfl,rfl⟩
def c3:VCode:=cof Tryz.f3
theorem J5b:Fun Tryz.prog 3 c3 [.tmp 6] 243:=⟨Tryz.f3,Tryz.func3,Q1 (by kernel_rfl),by kernel_rfl,rfl,rfl⟩
def c4:VCode:=cof Tryz.f4
theorem fun4:Fun Tryz.prog 4 c4 [.tmp 6] 193:=⟨Tryz.f4,Tryz.func4,Q1 (by kernel_rfl),by kernel_rfl,rfl,rfl⟩
def c5:VCode:=cof Tryz.f5
theorem J51:Fun Tryz.prog 5 c5 [.cell 4 true 4] 49:=⟨Tryz.f5,Tryz.func5,Q1 (by kernel_rfl),by kernel_rfl,rfl,rfl⟩
def c6:VCode:=cof Tryz.f6
theorem J38:Fun Tryz.prog 6 c6 [.cell 2 true 2] 9:=⟨Tryz.f6,Tryz.func6,Q1 (by kernel_rfl),by kernel_rfl,rfl,rfl⟩
def c7:VCode:=cof Tryz.f7
theorem J4p:Fun Tryz.prog 7 c7 [.tmp 6,.tmp 7,.tmp 8] 35:=⟨Tryz.f7,Tryz.func7,Q1 (by kernel_rfl),by kernel_rfl,rfl,rfl⟩
def c8:VCode:=cof Tryz.f8
theorem J4u:Fun Tryz.prog 8 c8 [.tmp 6,.tmp 7] 38:=⟨Tryz.f8,Tryz.func8,Q1 (by kernel_rfl),by kernel_rfl,rfl,rfl⟩
def c9:VCode:=cof Tryz.f9
theorem J4v:Fun Tryz.prog 9 c9 [.cell 2 true 4] 15:=⟨Tryz.f9,Tryz.func9,Q1 (by kernel_rfl),by kernel_rfl,rfl,rfl⟩
def c10:VCode:=cof Tryz.f10
theorem J2l:Fun Tryz.prog 10 c10 [.tmp 4,.tmp 5] 43:=⟨Tryz.f10,Tryz.func10,Q1 (by kernel_rfl),by kernel_rfl,rfl,rfl⟩
def c11:VCode:=cof Tryz.f11
theorem J26:Fun Tryz.prog 11 c11 [.cell 6 false 1,.tmp 7] 48:=⟨Tryz.f11,Tryz.func11,Q1 (by kernel_rfl),by kernel_rfl,rfl,rfl⟩
def c12:VCode:=cof Tryz.f12
theorem J0f:Fun Tryz.prog 12 c12 [.cell 4 false 1,.tmp 5,.tmp 6] 44:=⟨Tryz.f12,Tryz.func12,Q1 (by kernel_rfl),by kernel_rfl,rfl,rfl⟩
def c13:VCode:=cof Tryz.f13
theorem J24:Fun Tryz.prog 13 c13 [.tmp 2,.tmp 3] 27:=⟨Tryz.f13,Tryz.func13,Q1 (by kernel_rfl),by kernel_rfl,rfl,rfl⟩
def c14:VCode:=cof Tryz.f14
theorem J18:Fun Tryz.prog 14 c14 [.tmp 4,.tmp 5] 47:=⟨Tryz.f14,Tryz.func14,Q1 (by kernel_rfl),by kernel_rfl,rfl,rfl⟩
def c15:VCode:=cof Tryz.f15
theorem J1a:Fun Tryz.prog 15 c15 [.tmp 2] 6:=⟨Tryz.f15,Tryz.func15,Q1 (by kernel_rfl),by kernel_rfl,rfl,rfl⟩
def c16:VCode:=cof Tryz.f16
theorem Z7s:Fun Tryz.prog 16 c16 [.tmp 4] 26:=⟨Tryz.f16,Tryz.func16,Q1 (by kernel_rfl),by kernel_rfl,rfl,rfl⟩
def c17:VCode:=cof Tryz.f17
theorem J2k:Fun Tryz.prog 17 c17 [.tmp 0] 52:=⟨Tryz.f17,Tryz.func17,Q1 (by kernel_rfl),by kernel_rfl,rfl,rfl⟩
def c18:VCode:=cof Tryz.f18
theorem J0l:Fun Tryz.prog 18 c18 [.tmp 0] 54:=⟨Tryz.f18,Tryz.func18,Q1 (by kernel_rfl),by kernel_rfl,rfl,rfl⟩
def c19:VCode:=cof Tryz.f19
theorem Z8c:Fun Tryz.prog 19 c19 [.tmp 0] 70:=⟨Tryz.f19,Tryz.func19,Q1 (by kernel_rfl),by kernel_rfl,rfl,rfl⟩
def c20:VCode:=cof Tryz.f20
theorem Z75:Fun Tryz.prog 20 c20 [.cell 4 true 2] 48:=⟨Tryz.f20,Tryz.func20,Q1 (by kernel_rfl),by kernel_rfl,rfl,rfl⟩
def c21:VCode:=cof Tryz.f21
theorem Z7c:Fun Tryz.prog 21 c21 [.tmp 6] 42:=⟨Tryz.f21,Tryz.func21,Q1 (by kernel_rfl),by kernel_rfl,rfl,rfl⟩
def c22:VCode:=cof Tryz.f22
theorem Z9e:Fun Tryz.prog 22 c22 [.cell 2 true 2,.tmp 3] 54:=⟨Tryz.f22,Tryz.func22,Q1 (by kernel_rfl),by kernel_rfl,rfl,rfl⟩
def c23:VCode:=cof Tryz.f23
theorem Z6h:Fun Tryz.prog 23 c23 [.cell 2 true 2,.tmp 3] 34:=⟨Tryz.f23,Tryz.func23,Q1 (by kernel_rfl),by kernel_rfl,rfl,rfl⟩
def c24:VCode:=cof Tryz.f24
theorem Z95:Fun Tryz.prog 24 c24 [.cell 4 true 2] 60:=⟨Tryz.f24,Tryz.func24,Q1 (by kernel_rfl),by kernel_rfl,rfl,rfl⟩
def c25:VCode:=cof Tryz.f25
theorem Z82:Fun Tryz.prog 25 c25 [.tmp 6,.tmp 7,.tmp 8] 58:=⟨Tryz.f25,Tryz.func25,Q1 (by kernel_rfl),by kernel_rfl,rfl,rfl⟩
def c26:VCode:=cof Tryz.f26
theorem Z8g:Fun Tryz.prog 26 c26 [.tmp 2] 15:=⟨Tryz.f26,Tryz.func26,Q1 (by kernel_rfl),by kernel_rfl,rfl,rfl⟩
def c27:VCode:=cof Tryz.f27
theorem Z98:Fun Tryz.prog 27 c27 [.cell 4 true 2,.tmp 5] 24:=⟨Tryz.f27,Tryz.func27,Q1 (by kernel_rfl),by kernel_rfl,rfl,rfl⟩
def c28:VCode:=cof Tryz.f28
theorem Z6u:Fun Tryz.prog 28 c28 [.tmp 2] 21:=⟨Tryz.f28,Tryz.func28,Q1 (by kernel_rfl),by kernel_rfl,rfl,rfl⟩
def c29:VCode:=cof Tryz.f29
theorem Z7m:Fun Tryz.prog 29 c29 [.tmp 4] 17:=⟨Tryz.f29,Tryz.func29,Q1 (by kernel_rfl),by kernel_rfl,rfl,rfl⟩
def c30:VCode:=cof Tryz.f30
theorem Z60:Fun Tryz.prog 30 c30 [.tmp 0] 65:=⟨Tryz.f30,Tryz.func30,Q1 (by kernel_rfl),by kernel_rfl,rfl,rfl⟩
def c31:VCode:=cof Tryz.f31
theorem Z3p:Fun Tryz.prog 31 c31 [.cell 4 true 3,.tmp 5] 48:=⟨Tryz.f31,Tryz.func31,Q1 (by kernel_rfl),by kernel_rfl,rfl,rfl⟩
def c32:VCode:=cof Tryz.f32
theorem Z80:Fun Tryz.prog 32 c32 [.tmp 4,.tmp 5] 34:=⟨Tryz.f32,Tryz.func32,Q1 (by kernel_rfl),by kernel_rfl,rfl,rfl⟩
def c33:VCode:=cof Tryz.f33
theorem J17:Fun Tryz.prog 33 c33 [.tmp 6] 18:=⟨Tryz.f33,Tryz.func33,Q1 (by kernel_rfl),by kernel_rfl,rfl,rfl⟩
def c34:VCode:=cof Tryz.f34
theorem J06:Fun Tryz.prog 34 c34 [.tmp 4] 79:=⟨Tryz.f34,Tryz.func34,Q1 (by kernel_rfl),by kernel_rfl,rfl,rfl⟩
def c35:VCode:=cof Tryz.f35
theorem J2n:Fun Tryz.prog 35 c35 [.tmp 2] 27:=⟨Tryz.f35,Tryz.func35,Q1 (by kernel_rfl),by kernel_rfl,rfl,rfl⟩
def c36:VCode:=cof Tryz.f36
theorem J0e:Fun Tryz.prog 36 c36 [.tmp 2] 28:=⟨Tryz.f36,Tryz.func36,Q1 (by kernel_rfl),by kernel_rfl,rfl,rfl⟩
def c37:VCode:=cof Tryz.f37
theorem J08:Fun Tryz.prog 37 c37 [.tmp 4] 22:=⟨Tryz.f37,Tryz.func37,Q1 (by kernel_rfl),by kernel_rfl,rfl,rfl⟩
def c38:VCode:=cof Tryz.f38
theorem J0p:Fun Tryz.prog 38 c38 [.tmp 4] 6:=⟨Tryz.f38,Tryz.func38,Q1 (by kernel_rfl),by kernel_rfl,rfl,rfl⟩
def c39:VCode:=cof Tryz.f39
theorem J04:Fun Tryz.prog 39 c39 [.tmp 3] 21:=⟨Tryz.f39,Tryz.func39,Q1 (by kernel_rfl),by kernel_rfl,rfl,rfl⟩
def c40:VCode:=cof Tryz.f40
theorem J25:Fun Tryz.prog 40 c40 [.tmp 6] 11:=⟨Tryz.f40,Tryz.func40,Q1 (by kernel_rfl),by kernel_rfl,rfl,rfl⟩
def c41:VCode:=cof Tryz.f41
theorem J1t:Fun Tryz.prog 41 c41 [.tmp 2] 24:=⟨Tryz.f41,Tryz.func41,Q1 (by kernel_rfl),by kernel_rfl,rfl,rfl⟩
def c42:VCode:=cof Tryz.f42
theorem J0k:Fun Tryz.prog 42 c42 [.tmp 4] 9:=⟨Tryz.f42,Tryz.func42,Q1 (by kernel_rfl),by kernel_rfl,rfl,rfl⟩
def c43:VCode:=cof Tryz.f43
theorem J20:Fun Tryz.prog 43 c43 [] 27:=⟨Tryz.f43,Tryz.func43,Q1 (by kernel_rfl),by kernel_rfl,rfl,rfl⟩
def c44:VCode:=cof Tryz.f44
theorem J1y:Fun Tryz.prog 44 c44 [.tmp 4] 9:=⟨Tryz.f44,Tryz.func44,Q1 (by kernel_rfl),by kernel_rfl,rfl,rfl⟩
def c45:VCode:=cof Tryz.f45
theorem Z8d:Fun Tryz.prog 45 c45 [.tmp 2] 27:=⟨Tryz.f45,Tryz.func45,Q1 (by kernel_rfl),by kernel_rfl,rfl,rfl⟩
def c46:VCode:=cof Tryz.f46
theorem J0i:Fun Tryz.prog 46 c46 [.cell 2 true 2] 21:=⟨Tryz.f46,Tryz.func46,Q1 (by kernel_rfl),by kernel_rfl,rfl,rfl⟩
def c47:VCode:=cof Tryz.f47
theorem J1n:Fun Tryz.prog 47 c47 [.tmp 2] 9:=⟨Tryz.f47,Tryz.func47,Q1 (by kernel_rfl),by kernel_rfl,rfl,rfl⟩
def c48:VCode:=cof Tryz.f48
theorem J1l:Fun Tryz.prog 48 c48 [.tmp 4] 14:=⟨Tryz.f48,Tryz.func48,Q1 (by kernel_rfl),by kernel_rfl,rfl,rfl⟩
def c49:VCode:=cof Tryz.f49
theorem J1r:Fun Tryz.prog 49 c49 [.cell 4 true 2,.tmp 5,.tmp 6] 78:=⟨Tryz.f49,Tryz.func49,Q1 (by kernel_rfl),by kernel_rfl,rfl,rfl⟩
def c50:VCode:=cof Tryz.f50
theorem J1q:Fun Tryz.prog 50 c50 [.cell 0 true 4] 6:=⟨Tryz.f50,Tryz.func50,Q1 (by kernel_rfl),by kernel_rfl,rfl,rfl⟩
def c51:VCode:=cof Tryz.f51
theorem J0o:Fun Tryz.prog 51 c51 [.cell 6 false 1,.cell 7 false 1,.cell 8 false 1] 35:=⟨Tryz.f51,Tryz.func51,Q1 (by kernel_rfl),by kernel_rfl,rfl,rfl⟩
def c52:VCode:=cof Tryz.f52
theorem J2o:Fun Tryz.prog 52 c52 [.tmp 4,.tmp 5,.tmp 6] 78:=⟨Tryz.f52,Tryz.func52,Q1 (by kernel_rfl),by kernel_rfl,rfl,rfl⟩
def c53:VCode:=cof Tryz.f53
theorem J16:Fun Tryz.prog 53 c53 [.cell 6 true 2,.cell 7 true 2,.tmp 8,.tmp 9] 93:=⟨Tryz.f53,Tryz.func53,Q1 (by kernel_rfl),by kernel_rfl,rfl,rfl⟩
def c54:VCode:=cof Tryz.f54
theorem Z6x:Fun Tryz.prog 54 c54 [.cell 6 true 2] 62:=⟨Tryz.f54,Tryz.func54,Q1 (by kernel_rfl),by kernel_rfl,rfl,rfl⟩
def c55:VCode:=cof Tryz.f55
theorem Z7g:Fun Tryz.prog 55 c55 [.tmp 2] 6:=⟨Tryz.f55,Tryz.func55,Q1 (by kernel_rfl),by kernel_rfl,rfl,rfl⟩
def c56:VCode:=cof Tryz.f56
theorem Z67:Fun Tryz.prog 56 c56 [.tmp 4] 10:=⟨Tryz.f56,Tryz.func56,Q1 (by kernel_rfl),by kernel_rfl,rfl,rfl⟩
def c57:VCode:=cof Tryz.f57
theorem Z4l:Fun Tryz.prog 57 c57 [.cell 2 true 3,.tmp 3] 43:=⟨Tryz.f57,Tryz.func57,Q1 (by kernel_rfl),by kernel_rfl,rfl,rfl⟩
def c58:VCode:=cof Tryz.f58
theorem Z6s:Fun Tryz.prog 58 c58 [.tmp 4] 12:=⟨Tryz.f58,Tryz.func58,Q1 (by kernel_rfl),by kernel_rfl,rfl,rfl⟩
def c59:VCode:=cof Tryz.f59
theorem Z8p:Fun Tryz.prog 59 c59 [.tmp 2] 4:=⟨Tryz.f59,Tryz.func59,Q1 (by kernel_rfl),by kernel_rfl,rfl,rfl⟩
def c60:VCode:=cof Tryz.f60
theorem Z7n:Fun Tryz.prog 60 c60 [.tmp 4] 10:=⟨Tryz.f60,Tryz.func60,Q1 (by kernel_rfl),by kernel_rfl,rfl,rfl⟩
def c61:VCode:=cof Tryz.f61
theorem Z9a:Fun Tryz.prog 61 c61 [.tmp 4] 20:=⟨Tryz.f61,Tryz.func61,Q1 (by kernel_rfl),by kernel_rfl,rfl,rfl⟩
def c62:VCode:=cof Tryz.f62
theorem Z5v:Fun Tryz.prog 62 c62 [.cell 2 true 2] 9:=⟨Tryz.f62,Tryz.func62,Q1 (by kernel_rfl),by kernel_rfl,rfl,rfl⟩
def c63:VCode:=cof Tryz.f63
theorem Z6k:Fun Tryz.prog 63 c63 [.tmp 4] 16:=⟨Tryz.f63,Tryz.func63,Q1 (by kernel_rfl),by kernel_rfl,rfl,rfl⟩
def c64:VCode:=cof Tryz.f64
theorem Z9b:Fun Tryz.prog 64 c64 [.cell 2 true 3,.tmp 3] 30:=⟨Tryz.f64,Tryz.func64,Q1 (by kernel_rfl),by kernel_rfl,rfl,rfl⟩
def c65:VCode:=cof Tryz.f65
theorem Z7h:Fun Tryz.prog 65 c65 [.tmp 6] 11:=⟨Tryz.f65,Tryz.func65,Q1 (by kernel_rfl),by kernel_rfl,rfl,rfl⟩
def c66:VCode:=cof Tryz.f66
theorem Z6g:Fun Tryz.prog 66 c66 [.tmp 4] 26:=⟨Tryz.f66,Tryz.func66,Q1 (by kernel_rfl),by kernel_rfl,rfl,rfl⟩
def c67:VCode:=cof Tryz.f67
theorem Z7e:Fun Tryz.prog 67 c67 [.tmp 6] 15:=⟨Tryz.f67,Tryz.func67,Q1 (by kernel_rfl),by kernel_rfl,rfl,rfl⟩
def c68:VCode:=cof Tryz.f68
theorem Z71:Fun Tryz.prog 68 c68 [.cell 4 true 2] 11:=⟨Tryz.f68,Tryz.func68,Q1 (by kernel_rfl),by kernel_rfl,rfl,rfl⟩
def c69:VCode:=cof Tryz.f69
theorem Z99:Fun Tryz.prog 69 c69 [.tmp 2] 36:=⟨Tryz.f69,Tryz.func69,Q1 (by kernel_rfl),by kernel_rfl,rfl,rfl⟩
def c70:VCode:=cof Tryz.f70
theorem Z77:Fun Tryz.prog 70 c70 [.tmp 2,.tmp 3] 49:=⟨Tryz.f70,Tryz.func70,Q1 (by kernel_rfl),by kernel_rfl,rfl,rfl⟩
def c71:VCode:=cof Tryz.f71
theorem Z7w:Fun Tryz.prog 71 c71 [.tmp 6,.tmp 7] 29:=⟨Tryz.f71,Tryz.func71,Q1 (by kernel_rfl),by kernel_rfl,rfl,rfl⟩
def c72:VCode:=cof Tryz.f72
theorem Z8u:Fun Tryz.prog 72 c72 [.tmp 2] 31:=⟨Tryz.f72,Tryz.func72,Q1 (by kernel_rfl),by kernel_rfl,rfl,rfl⟩
def c73:VCode:=cof Tryz.f73
theorem Z8v:Fun Tryz.prog 73 c73 [.tmp 4] 27:=⟨Tryz.f73,Tryz.func73,Q1 (by kernel_rfl),by kernel_rfl,rfl,rfl⟩
def c74:VCode:=cof Tryz.f74
theorem Z89:Fun Tryz.prog 74 c74 [.tmp 2] 35:=⟨Tryz.f74,Tryz.func74,Q1 (by kernel_rfl),by kernel_rfl,rfl,rfl⟩
def c75:VCode:=cof Tryz.f75
theorem J1d:Fun Tryz.prog 75 c75 [.tmp 4] 21:=⟨Tryz.f75,Tryz.func75,Q1 (by kernel_rfl),by kernel_rfl,rfl,rfl⟩
def c76:VCode:=cof Tryz.f76
theorem Z7j:Fun Tryz.prog 76 c76 [.tmp 2] 8:=⟨Tryz.f76,Tryz.func76,Q1 (by kernel_rfl),by kernel_rfl,rfl,rfl⟩
def c77:VCode:=cof Tryz.f77
theorem J2j:Fun Tryz.prog 77 c77 [.tmp 2] 8:=⟨Tryz.f77,Tryz.func77,Q1 (by kernel_rfl),by kernel_rfl,rfl,rfl⟩
def c78:VCode:=cof Tryz.f78
theorem Z9v:Fun Tryz.prog 78 c78 [] 9:=⟨Tryz.f78,Tryz.func78,Q1 (by kernel_rfl),by kernel_rfl,rfl,rfl⟩
def c79:VCode:=cof Tryz.f79
theorem Z9s:Fun Tryz.prog 79 c79 [.tmp 4] 12:=⟨Tryz.f79,Tryz.func79,Q1 (by kernel_rfl),by kernel_rfl,rfl,rfl⟩
def c80:VCode:=cof Tryz.f80
theorem J2s:Fun Tryz.prog 80 c80 [.tmp 2] 8:=⟨Tryz.f80,Tryz.func80,Q1 (by kernel_rfl),by kernel_rfl,rfl,rfl⟩
def c81:VCode:=cof Tryz.f81
theorem J0q:Fun Tryz.prog 81 c81 [.tmp 0] 3:=⟨Tryz.f81,Tryz.func81,Q1 (by kernel_rfl),by kernel_rfl,rfl,rfl⟩
def c82:VCode:=cof Tryz.f82
theorem J0v:Fun Tryz.prog 82 c82 [.tmp 6] 11:=⟨Tryz.f82,Tryz.func82,Q1 (by kernel_rfl),by kernel_rfl,rfl,rfl⟩
def c83:VCode:=cof Tryz.f83
theorem J2m:Fun Tryz.prog 83 c83 [.tmp 6] 11:=⟨Tryz.f83,Tryz.func83,Q1 (by kernel_rfl),by kernel_rfl,rfl,rfl⟩
def c84:VCode:=cof Tryz.f84
theorem J2q:Fun Tryz.prog 84 c84 [.tmp 4] 17:=⟨Tryz.f84,Tryz.func84,Q1 (by kernel_rfl),by kernel_rfl,rfl,rfl⟩
def c85:VCode:=cof Tryz.f85
theorem J0b:Fun Tryz.prog 85 c85 [.tmp 2] 4:=⟨Tryz.f85,Tryz.func85,Q1 (by kernel_rfl),by kernel_rfl,rfl,rfl⟩
def c86:VCode:=cof Tryz.f86
theorem J00:Fun Tryz.prog 86 c86 [.tmp 6] 17:=⟨Tryz.f86,Tryz.func86,Q1 (by kernel_rfl),by kernel_rfl,rfl,rfl⟩
def c87:VCode:=cof Tryz.f87
theorem J0y:Fun Tryz.prog 87 c87 [.tmp 2] 14:=⟨Tryz.f87,Tryz.func87,Q1 (by kernel_rfl),by kernel_rfl,rfl,rfl⟩
def c88:VCode:=cof Tryz.f88
theorem J0w:Fun Tryz.prog 88 c88 [] 37:=⟨Tryz.f88,Tryz.func88,Q1 (by kernel_rfl),by kernel_rfl,rfl,rfl⟩
def c89:VCode:=cof Tryz.f89
theorem Z93:Fun Tryz.prog 89 c89 [.tmp 4] 9:=⟨Tryz.f89,Tryz.func89,Q1 (by kernel_rfl),by kernel_rfl,rfl,rfl⟩
def c90:VCode:=cof Tryz.f90
theorem J05:Fun Tryz.prog 90 c90 [.tmp 4] 13:=⟨Tryz.f90,Tryz.func90,Q1 (by kernel_rfl),by kernel_rfl,rfl,rfl⟩
def c91:VCode:=cof Tryz.f91
theorem J1v:Fun Tryz.prog 91 c91 [.tmp 4] 19:=⟨Tryz.f91,Tryz.func91,Q1 (by kernel_rfl),by kernel_rfl,rfl,rfl⟩
def c92:VCode:=cof Tryz.f92
theorem J2b:Fun Tryz.prog 92 c92 [] 96:=⟨Tryz.f92,Tryz.func92,Q1 (by kernel_rfl),by kernel_rfl,rfl,rfl⟩
def c93:VCode:=cof Tryz.f93
theorem J0m:Fun Tryz.prog 93 c93 [.tmp 4] 26:=⟨Tryz.f93,Tryz.func93,Q1 (by kernel_rfl),by kernel_rfl,rfl,rfl⟩
def c94:VCode:=cof Tryz.f94
theorem J13:Fun Tryz.prog 94 c94 [.tmp 3] 19:=⟨Tryz.f94,Tryz.func94,Q1 (by kernel_rfl),by kernel_rfl,rfl,rfl⟩
def c95:VCode:=cof Tryz.f95
theorem Z5z:Fun Tryz.prog 95 c95 [.tmp 6] 11:=⟨Tryz.f95,Tryz.func95,Q1 (by kernel_rfl),by kernel_rfl,rfl,rfl⟩
def c96:VCode:=cof Tryz.f96
theorem Z8j:Fun Tryz.prog 96 c96 [.tmp 2] 6:=⟨Tryz.f96,Tryz.func96,Q1 (by kernel_rfl),by kernel_rfl,rfl,rfl⟩
def c97:VCode:=cof Tryz.f97
theorem J0h:Fun Tryz.prog 97 c97 [.tmp 2] 14:=⟨Tryz.f97,Tryz.func97,Q1 (by kernel_rfl),by kernel_rfl,rfl,rfl⟩
def c98:VCode:=cof Tryz.f98
theorem J1e:Fun Tryz.prog 98 c98 [.tmp 4] 48:=⟨Tryz.f98,Tryz.func98,Q1 (by kernel_rfl),by kernel_rfl,rfl,rfl⟩
def c99:VCode:=cof Tryz.f99
theorem J0u:Fun Tryz.prog 99 c99 [.tmp 2] 32:=⟨Tryz.f99,Tryz.func99,Q1 (by kernel_rfl),by kernel_rfl,rfl,rfl⟩
def J3b:VCode:=cof Tryz.f100
theorem Z6a:Fun Tryz.prog 100 J3b [.cell 6 true 3] 72:=⟨Tryz.f100,Tryz.func100,Q1 (by kernel_rfl),by kernel_rfl,rfl,rfl⟩
def J3c:VCode:=cof Tryz.f101
theorem Z69:Fun Tryz.prog 101 J3c [.cell 6 true 2,.cell 7 true 2] 20:=⟨Tryz.f101,Tryz.func101,Q1 (by kernel_rfl),by kernel_rfl,rfl,rfl⟩
def J09:VCode:=cof Tryz.f102
theorem Z3b:Fun Tryz.prog 102 J09 [.tmp 2] 5:=⟨Tryz.f102,Tryz.func102,Q1 (by kernel_rfl),by kernel_rfl,rfl,rfl⟩
def Z9r:VCode:=cof Tryz.f103
theorem Z2k:Fun Tryz.prog 103 Z9r [] 14:=⟨Tryz.f103,Tryz.func103,Q1 (by kernel_rfl),by kernel_rfl,rfl,rfl⟩
def J29:VCode:=cof Tryz.f104
theorem Z1s:Fun Tryz.prog 104 J29 [] 16:=⟨Tryz.f104,Tryz.func104,Q1 (by kernel_rfl),by kernel_rfl,rfl,rfl⟩
def J01:VCode:=cof Tryz.f105
theorem Z30:Fun Tryz.prog 105 J01 [.tmp 2] 6:=⟨Tryz.f105,Tryz.func105,Q1 (by kernel_rfl),by kernel_rfl,rfl,rfl⟩
def J27:VCode:=cof Tryz.f106
theorem Z28:Fun Tryz.prog 106 J27 [.tmp 4] 16:=⟨Tryz.f106,Tryz.func106,Q1 (by kernel_rfl),by kernel_rfl,rfl,rfl⟩
def J0s:VCode:=cof Tryz.f107
theorem Z2n:Fun Tryz.prog 107 J0s [.tmp 4] 13:=⟨Tryz.f107,Tryz.func107,Q1 (by kernel_rfl),by kernel_rfl,rfl,rfl⟩
def J1x:VCode:=cof Tryz.f108
theorem Z3f:Fun Tryz.prog 108 J1x [.tmp 4] 13:=⟨Tryz.f108,Tryz.func108,Q1 (by kernel_rfl),by kernel_rfl,rfl,rfl⟩
def J1j:VCode:=cof Tryz.f109
theorem Z3d:Fun Tryz.prog 109 J1j [.tmp 4] 25:=⟨Tryz.f109,Tryz.func109,Q1 (by kernel_rfl),by kernel_rfl,rfl,rfl⟩
def J10:VCode:=cof Tryz.f110
theorem Z1n:Fun Tryz.prog 110 J10 [.tmp 6,.tmp 7] 28:=⟨Tryz.f110,Tryz.func110,Q1 (by kernel_rfl),by kernel_rfl,rfl,rfl⟩
def J12:VCode:=cof Tryz.f111
theorem Z35:Fun Tryz.prog 111 J12 [.tmp 3] 22:=⟨Tryz.f111,Tryz.func111,Q1 (by kernel_rfl),by kernel_rfl,rfl,rfl⟩
def J21:VCode:=cof Tryz.f112
theorem Z32:Fun Tryz.prog 112 J21 [.tmp 4] 9:=⟨Tryz.f112,Tryz.func112,Q1 (by kernel_rfl),by kernel_rfl,rfl,rfl⟩
def J3s:VCode:=cof Tryz.f113
theorem Z7y:Fun Tryz.prog 113 J3s [.tmp 3] 9:=⟨Tryz.f113,Tryz.func113,Q1 (by kernel_rfl),by kernel_rfl,rfl,rfl⟩
def J4f:VCode:=cof Tryz.f114
theorem Z6o:Fun Tryz.prog 114 J4f [.tmp 4] 80:=⟨Tryz.f114,Tryz.func114,Q1 (by kernel_rfl),by kernel_rfl,rfl,rfl⟩
def J47:VCode:=cof Tryz.f115
theorem Z7a:Fun Tryz.prog 115 J47 [.tmp 4] 9:=⟨Tryz.f115,Tryz.func115,Q1 (by kernel_rfl),by kernel_rfl,rfl,rfl⟩
def J2x:VCode:=cof Tryz.f116
theorem Z8i:Fun Tryz.prog 116 J2x [] 63:=⟨Tryz.f116,Tryz.func116,Q1 (by kernel_rfl),by kernel_rfl,rfl,rfl⟩
def J49:VCode:=cof Tryz.f117
theorem Z7b:Fun Tryz.prog 117 J49 [] 18:=⟨Tryz.f117,Tryz.func117,Q1 (by kernel_rfl),by kernel_rfl,rfl,rfl⟩
def J3a:VCode:=cof Tryz.f118
theorem Z8o:Fun Tryz.prog 118 J3a [] 36:=⟨Tryz.f118,Tryz.func118,Q1 (by kernel_rfl),by kernel_rfl,rfl,rfl⟩
def J4i:VCode:=cof Tryz.f119
theorem Z78:Fun Tryz.prog 119 J4i [] 34:=⟨Tryz.f119,Tryz.func119,Q1 (by kernel_rfl),by kernel_rfl,rfl,rfl⟩
def J3f:VCode:=cof Tryz.f120
theorem Z7f:Fun Tryz.prog 120 J3f [] 35:=⟨Tryz.f120,Tryz.func120,Q1 (by kernel_rfl),by kernel_rfl,rfl,rfl⟩
def J3p:VCode:=cof Tryz.f121
theorem Z6l:Fun Tryz.prog 121 J3p [] 11:=⟨Tryz.f121,Tryz.func121,Q1 (by kernel_rfl),by kernel_rfl,rfl,rfl⟩
def J3y:VCode:=cof Tryz.f122
theorem Z5s:Fun Tryz.prog 122 J3y [.tmp 4] 13:=⟨Tryz.f122,Tryz.func122,Q1 (by kernel_rfl),by kernel_rfl,rfl,rfl⟩
def J3i:VCode:=cof Tryz.f123
theorem Z8x:Fun Tryz.prog 123 J3i [.tmp 4] 13:=⟨Tryz.f123,Tryz.func123,Q1 (by kernel_rfl),by kernel_rfl,rfl,rfl⟩
def J3j:VCode:=cof Tryz.f124
theorem Z7l:Fun Tryz.prog 124 J3j [] 20:=⟨Tryz.f124,Tryz.func124,Q1 (by kernel_rfl),by kernel_rfl,rfl,rfl⟩
def J0t:VCode:=cof Tryz.f125
theorem Z1q:Fun Tryz.prog 125 J0t [.tmp 4] 19:=⟨Tryz.f125,Tryz.func125,Q1 (by kernel_rfl),by kernel_rfl,rfl,rfl⟩
def J11:VCode:=cof Tryz.f126
theorem Z2v:Fun Tryz.prog 126 J11 [.tmp 4] 13:=⟨Tryz.f126,Tryz.func126,Q1 (by kernel_rfl),by kernel_rfl,rfl,rfl⟩
def J33:VCode:=cof Tryz.f127
theorem Z70:Fun Tryz.prog 127 J33 [.tmp 4,.tmp 5] 30:=⟨Tryz.f127,Tryz.func127,Q1 (by kernel_rfl),by kernel_rfl,rfl,rfl⟩
def J3k:VCode:=cof Tryz.f128
theorem Z6c:Fun Tryz.prog 128 J3k [.tmp 2] 5:=⟨Tryz.f128,Tryz.func128,Q1 (by kernel_rfl),by kernel_rfl,rfl,rfl⟩
def J3g:VCode:=cof Tryz.f129
theorem Z7d:Fun Tryz.prog 129 J3g [.tmp 4] 6:=⟨Tryz.f129,Tryz.func129,Q1 (by kernel_rfl),by kernel_rfl,rfl,rfl⟩
def J31:VCode:=cof Tryz.f130
theorem Z7z:Fun Tryz.prog 130 J31 [.cell 6 true 2] 45:=⟨Tryz.f130,Tryz.func130,Q1 (by kernel_rfl),by kernel_rfl,rfl,rfl⟩
def J40:VCode:=cof Tryz.f131
theorem Z91:Fun Tryz.prog 131 J40 [.tmp 4] 74:=⟨Tryz.f131,Tryz.func131,Q1 (by kernel_rfl),by kernel_rfl,rfl,rfl⟩
def J2h:VCode:=cof Tryz.f132
theorem Z22:Fun Tryz.prog 132 J2h [.tmp 4] 13:=⟨Tryz.f132,Tryz.func132,Q1 (by kernel_rfl),by kernel_rfl,rfl,rfl⟩
def J1c:VCode:=cof Tryz.f133
theorem Z2l:Fun Tryz.prog 133 J1c [] 148:=⟨Tryz.f133,Tryz.func133,Q1 (by kernel_rfl),by kernel_rfl,rfl,rfl⟩
def J1f:VCode:=cof Tryz.f134
theorem Z1j:Fun Tryz.prog 134 J1f [.tmp 2] 8:=⟨Tryz.f134,Tryz.func134,Q1 (by kernel_rfl),by kernel_rfl,rfl,rfl⟩
def Z9w:VCode:=cof Tryz.f135
theorem Z2i:Fun Tryz.prog 135 Z9w [.tmp 3] 17:=⟨Tryz.f135,Tryz.func135,Q1 (by kernel_rfl),by kernel_rfl,rfl,rfl⟩
def J2p:VCode:=cof Tryz.f136
theorem Z37:Fun Tryz.prog 136 J2p [.tmp 4] 9:=⟨Tryz.f136,Tryz.func136,Q1 (by kernel_rfl),by kernel_rfl,rfl,rfl⟩
def J2t:VCode:=cof Tryz.f137
theorem Z20:Fun Tryz.prog 137 J2t [.tmp 2] 26:=⟨Tryz.f137,Tryz.func137,Q1 (by kernel_rfl),by kernel_rfl,rfl,rfl⟩
def J03:VCode:=cof Tryz.f138
theorem Z36:Fun Tryz.prog 138 J03 [.cell 6 false 1] 73:=⟨Tryz.f138,Tryz.func138,Q1 (by kernel_rfl),by kernel_rfl,rfl,rfl⟩
def J0d:VCode:=cof Tryz.f139
theorem Z2x:Fun Tryz.prog 139 J0d [.cell 4 true 4,.tmp 5] 33:=⟨Tryz.f139,Tryz.func139,Q1 (by kernel_rfl),by kernel_rfl,rfl,rfl⟩
def J1h:VCode:=cof Tryz.f140
theorem Z31:Fun Tryz.prog 140 J1h [.tmp 4] 52:=⟨Tryz.f140,Tryz.func140,Q1 (by kernel_rfl),by kernel_rfl,rfl,rfl⟩
def J2a:VCode:=cof Tryz.f141
theorem Z1t:Fun Tryz.prog 141 J2a [.tmp 4] 19:=⟨Tryz.f141,Tryz.func141,Q1 (by kernel_rfl),by kernel_rfl,rfl,rfl⟩
def J3o:VCode:=cof Tryz.f142
theorem Z9d:Fun Tryz.prog 142 J3o [.tmp 4] 19:=⟨Tryz.f142,Tryz.func142,Q1 (by kernel_rfl),by kernel_rfl,rfl,rfl⟩
def J3q:VCode:=cof Tryz.f143
theorem Z68:Fun Tryz.prog 143 J3q [] 53:=⟨Tryz.f143,Tryz.func143,Q1 (by kernel_rfl),by kernel_rfl,rfl,rfl⟩
def J4n:VCode:=cof Tryz.f144
theorem Z66:Fun Tryz.prog 144 J4n [] 220:=⟨Tryz.f144,Tryz.func144,Q1 (by kernel_rfl),by kernel_rfl,rfl,rfl⟩
def J2v:VCode:=cof Tryz.f146
theorem Z96:Fun Tryz.prog 146 J2v [.tmp 4,.tmp 5] 17:=⟨Tryz.f146,Tryz.func146,Q1 (by kernel_rfl),by kernel_rfl,rfl,rfl⟩
def J4m:VCode:=cof Tryz.f147
theorem Z81:Fun Tryz.prog 147 J4m [.tmp 4,.tmp 5] 51:=⟨Tryz.f147,Tryz.func147,Q1 (by kernel_rfl),by kernel_rfl,rfl,rfl⟩
def J4g:VCode:=cof Tryz.f148
theorem Z7v:Fun Tryz.prog 148 J4g [.tmp 4] 13:=⟨Tryz.f148,Tryz.func148,Q1 (by kernel_rfl),by kernel_rfl,rfl,rfl⟩
def J4a:VCode:=cof Tryz.f149
theorem Z8m:Fun Tryz.prog 149 J4a [] 22:=⟨Tryz.f149,Tryz.func149,Q1 (by kernel_rfl),by kernel_rfl,rfl,rfl⟩
def J14:VCode:=cof Tryz.f150
theorem Z2c:Fun Tryz.prog 150 J14 [] 53:=⟨Tryz.f150,Tryz.func150,Q1 (by kernel_rfl),by kernel_rfl,rfl,rfl⟩
def J48:VCode:=cof Tryz.f151
theorem Z5t:Fun Tryz.prog 151 J48 [] 60:=⟨Tryz.f151,Tryz.func151,Q1 (by kernel_rfl),by kernel_rfl,rfl,rfl⟩
def J4e:VCode:=cof Tryz.f152
theorem Z7i:Fun Tryz.prog 152 J4e [] 67:=⟨Tryz.f152,Tryz.func152,Q1 (by kernel_rfl),by kernel_rfl,rfl,rfl⟩
def J36:VCode:=cof Tryz.f153
theorem Z90:Fun Tryz.prog 153 J36 [.tmp 8,.tmp 9] 63:=⟨Tryz.f153,Tryz.func153,Q1 (by kernel_rfl),by kernel_rfl,rfl,rfl⟩
def J3z:VCode:=cof Tryz.f154
theorem Z7o:Fun Tryz.prog 154 J3z [] 34:=⟨Tryz.f154,Tryz.func154,Q1 (by kernel_rfl),by kernel_rfl,rfl,rfl⟩
def J4h:VCode:=cof Tryz.f155
theorem Z63:Fun Tryz.prog 155 J4h [.tmp 8] 141:=⟨Tryz.f155,Tryz.func155,Q1 (by kernel_rfl),by kernel_rfl,rfl,rfl⟩
def J3m:VCode:=cof Tryz.f156
theorem Z8n:Fun Tryz.prog 156 J3m [.tmp 10] 90:=⟨Tryz.f156,Tryz.func156,Q1 (by kernel_rfl),by kernel_rfl,rfl,rfl⟩
def J4j:VCode:=cof Tryz.f157
theorem Z6e:Fun Tryz.prog 157 J4j [.tmp 10,.tmp 11] 178:=⟨Tryz.f157,Tryz.func157,Q1 (by kernel_rfl),by kernel_rfl,rfl,rfl⟩
def Z9z:VCode:=cof Tryz.f158
theorem Z2s:Fun Tryz.prog 158 Z9z [.tmp 2] 19:=⟨Tryz.f158,Tryz.func158,Q1 (by kernel_rfl),by kernel_rfl,rfl,rfl⟩
def J1o:VCode:=cof Tryz.f159
theorem Z1i:Fun Tryz.prog 159 J1o [.tmp 2] 25:=⟨Tryz.f159,Tryz.func159,Q1 (by kernel_rfl),by kernel_rfl,rfl,rfl⟩
def J2u:VCode:=cof Tryz.f160
theorem Z2r:Fun Tryz.prog 160 J2u [.tmp 4] 19:=⟨Tryz.f160,Tryz.func160,Q1 (by kernel_rfl),by kernel_rfl,rfl,rfl⟩
def J02:VCode:=cof Tryz.f161
theorem Z1z:Fun Tryz.prog 161 J02 [.tmp 2] 22:=⟨Tryz.f161,Tryz.func161,Q1 (by kernel_rfl),by kernel_rfl,rfl,rfl⟩
def J1p:VCode:=cof Tryz.f162
theorem Z2h:Fun Tryz.prog 162 J1p [.tmp 4] 6:=⟨Tryz.f162,Tryz.func162,Q1 (by kernel_rfl),by kernel_rfl,rfl,rfl⟩
def J0c:VCode:=cof Tryz.f163
theorem Z25:Fun Tryz.prog 163 J0c [.tmp 3] 14:=⟨Tryz.f163,Tryz.func163,Q1 (by kernel_rfl),by kernel_rfl,rfl,rfl⟩
def J0j:VCode:=cof Tryz.f164
theorem Z2g:Fun Tryz.prog 164 J0j [.tmp 6] 25:=⟨Tryz.f164,Tryz.func164,Q1 (by kernel_rfl),by kernel_rfl,rfl,rfl⟩
def J0a:VCode:=cof Tryz.f165
theorem Z2q:Fun Tryz.prog 165 J0a [] 39:=⟨Tryz.f165,Tryz.func165,Q1 (by kernel_rfl),by kernel_rfl,rfl,rfl⟩
def J4b:VCode:=cof Tryz.f166
theorem Z8r:Fun Tryz.prog 166 J4b [] 58:=⟨Tryz.f166,Tryz.func166,Q1 (by kernel_rfl),by kernel_rfl,rfl,rfl⟩
def J4q:VCode:=cof Tryz.f167
theorem Z72:Fun Tryz.prog 167 J4q [] 82:=⟨Tryz.f167,Tryz.func167,Q1 (by kernel_rfl),by kernel_rfl,rfl,rfl⟩
def J2z:VCode:=cof Tryz.f168
theorem Z6f:Fun Tryz.prog 168 J2z [.tmp 2] 7:=⟨Tryz.f168,Tryz.func168,Q1 (by kernel_rfl),by kernel_rfl,rfl,rfl⟩
def J43:VCode:=cof Tryz.f169
theorem Z61:Fun Tryz.prog 169 J43 [.tmp 2] 33:=⟨Tryz.f169,Tryz.func169,Q1 (by kernel_rfl),by kernel_rfl,rfl,rfl⟩
def J41:VCode:=cof Tryz.f170
theorem Z86:Fun Tryz.prog 170 J41 [.tmp 8] 18:=⟨Tryz.f170,Tryz.func170,Q1 (by kernel_rfl),by kernel_rfl,rfl,rfl⟩
def J3x:VCode:=cof Tryz.f171
theorem Z8w:Fun Tryz.prog 171 J3x [.tmp 12] 41:=⟨Tryz.f171,Tryz.func171,Q1 (by kernel_rfl),by kernel_rfl,rfl,rfl⟩
def J1z:VCode:=cof Tryz.f172
theorem Z1m:Fun Tryz.prog 172 J1z [] 20:=⟨Tryz.f172,Tryz.func172,Q1 (by kernel_rfl),by kernel_rfl,rfl,rfl⟩
def J2d:VCode:=cof Tryz.f173
theorem Z2p:Fun Tryz.prog 173 J2d [.tmp 2] 5:=⟨Tryz.f173,Tryz.func173,Q1 (by kernel_rfl),by kernel_rfl,rfl,rfl⟩
def J4c:VCode:=cof Tryz.f174
theorem Z5q:Fun Tryz.prog 174 J4c [] 38:=⟨Tryz.f174,Tryz.func174,Q1 (by kernel_rfl),by kernel_rfl,rfl,rfl⟩
def J30:VCode:=cof Tryz.f175
theorem Z6p:Fun Tryz.prog 175 J30 [.tmp 10,.tmp 11] 32:=⟨Tryz.f175,Tryz.func175,Q1 (by kernel_rfl),by kernel_rfl,rfl,rfl⟩
theorem Z3y:Z0l Tryz.prog 145 (some .same):=Z0g (e:=Extern.AbiNoEscape.same) Tryz.func145 (by kernel_rfl) (by kernel_rfl) (by kernel_rfl) (by kernel_rfl) (λ_ _=>rfl)
end Go.Proofs.Tryz
namespace Go.V
open Go
inductive Kind where
 |i (k:IntKind)
 |bo
 |st
 |list (k:Kind)
 |pair (a b:Kind)
 deriving DecidableEq,Inhabited
abbrev Kind.T:Kind->Type
 |.i _=>Int
 |.bo=>Bool
 |.st=>List UInt8
 |.list k=>List k.T
 |.pair a b=>a.T×b.T
def Kind.size:Kind->Nat
 |.pair a b=>a.size+b.size
 |_=>1
def Kind.dflt:(k:Kind)->k.T
 |.i _=>(0:Int)
 |.bo=>false
 |.st=>([]:List UInt8)
 |.list _=>[]
 |.pair a b=>(a.dflt,b.dflt)
def Kind.one:Kind->Bool
 |.pair _ _=>false
 |_=>true
theorem Kind.size_pos:∀ k:Kind,0<k.size
 |.pair a b=>by have:=a.size_pos;simp only[Kind.size];omega
 |.i _|.bo|.st|.list _=>by simp[Kind.size]
theorem Kind.q1q:∀ {k:Kind},k.one=true->k.size=1
 |.pair _ _,h=>by cases h
 |.i _,_|.bo,_|.st,_|.list _,_=>rfl
def Kind.prim:Kind->Bool
 |.i _|.bo|.st=>true
 |_=>false
def Kind.keyk:Kind->Bool
 |.pair a b=>a.keyk&&b.keyk
 |k=>k.prim
abbrev AT:List Kind->Type
 |[]=>Unit
 |[k]=>k.T
 |k::k'::ks=>k.T×AT (k'::ks)
structure Gd where
 id:Nat
 want:Bool
 c:Bool
inductive DW where
 |out
 |el (i:Int) (off sz:Nat)
 |row (k:Kind) (x:List k.T) (i:Int)
 |rowp (k:Kind) (x:List k.T) (i j:Int) (off:Nat)
 |inn (k:Kind) (x:List k.T)
 |inp (k:Kind) (l:List k.T) (j:Int) (off:Nat)
 |dat
 |obx (c:Bool)
 |yv
inductive SV where
 |dd (o:Nat) (w:DW)
 |any
 |val (k:Kind) (x:k.T)
 |bid (n:Nat) (c:Bool)
 |grd (gs:List Gd) (v:SV)
 |nilS
 |nilP
 |nilM
 |nilF
 |lst (o:Nat)
 |sub (o:Nat) (lo n sz:Nat)
 |elp (o:Nat) (i:Int) (off sz:Nat)
 |rop (k:Kind) (l:List k.T) (i:Int) (off:Nat)
 |box (o:Nat) (off:Nat)
 |cp (l:List SV) (off:Nat)
 |map (o:Nat)
 |agg (l:List SV)
 |tup (l:List SV)
 |fn (f:Nat) (first di:List SV)
 |pf (ks:List Kind) (r:Kind) (cw:AT ks->Prop) (p:AT ks->r.T)
structure LpD where
 i:Nat
 vals:List Value
 r:Loop
inductive LpS where
 |busy
 |rdy
 |ret
 |exit (id:Nat)
def LpS.st:LpS->LoopState
 |.busy=>.busy
 |.rdy=>.ready
 |.ret=>.done
 |.exit _=>.done
def LpS.pend:LpS->Option Code
 |.busy=>none
 |.rdy=>none
 |.ret=>some .ret
 |.exit id=>some (.exit id)
def LpS.live:LpS->Bool
 |.busy=>false
 |_=>true
inductive OB where
 |dead
 |lst (ty:Nat) (k:Kind) (xs:List k.T) (nl:Bool)
 |cells (l:List SV) (u:Option Nat)
 |map (kk vk:Kind) (m:List (kk.T×vk.T))
 |stk (l:List SV) (vals:List Value)
 |deep (ty:Nat) (q:Option Nat) (k:Kind) (xs:List k.T) (nl:Bool) (hole:Option Nat)
 |iter (kk vk:Kind) (m:List (kk.T×vk.T)) (dn:List Nat)
 |rmap (kk vk:Kind) (m:List (kk.T×vk.T))
 |siter (l:List UInt8) (pos:Nat)
 |mapE (kk vk:Kind) (m:List (kk.T×vk.T)) (key:kk.T) (n:Int)
 |lpf (l:List SV) (q:LpD) (s:LpS)
 |fm (ik:IntKind) (l:List (Int×Nat))
instance:Inhabited SV:=⟨.any⟩
instance:Inhabited OB:=⟨.dead⟩
inductive Rows {α:Type}(R:α->List Value->Prop):List α->List Value->Prop
 |nil:Rows R [] []
 |cons {x:α}{xs:List α}{c cs:List Value}(h:R x c) (t:Rows R xs cs):Rows R (x::xs) (c++cs)
def SlRel (h:Heap) (sz:Nat) {α:Type}(R:α->List Value->Prop) (l:List α) (v:Value):Prop :=
 (l=[]/\v=.slice none 0 0)\/∃ i o cap c e wr t,v=.slice (some ⟨i,o,none⟩) l.length cap/\l.length<=cap/\h.get i=some (.cells c e wr t)/\e.sz=sz/\o+l.length*sz<=c.length/\Rows R l ((c.drop o).take (l.length*sz))
def KC (h:Heap):(k:Kind)->k.T->List Value->Prop
 |.i ik,x,cs=>cs=[.int ik x]
 |.bo,x,cs=>cs=[.bool x]
 |.st,x,cs=>cs=[.string ⟨x.toArray⟩]
 |.list k,l,cs=>∃ v,cs=[v]/\SlRel h k.size (λx c=>KC h k x c) l v
 |.pair a b,x,cs=>∃ c1 c2,cs=c1++c2/\KC h a x.1 c1/\KC h b x.2 c2
theorem Rows.length {α:Type}{R:α->List Value->Prop}{n:Nat}(hR:∀ x c,R x c->c.length=n) {xs:List α}{cs:List Value}(h:Rows R xs cs):cs.length=xs.length*n:=by
 induction h with
 |nil=>simp
 |cons h _ ih=>simp only[zG,hR _ _ h,ih,zV,zF,xr];omega
theorem Rows.mono {α:Type}{R R':α->List Value->Prop}(hR:∀ x c,R x c->R' x c) {xs:List α}{cs:List Value}(h:Rows R xs cs):Rows R' xs cs:=by
 induction h with
 |nil=>exact .nil
 |cons h _ ih=>exact .cons (hR _ _ h) ih
theorem Rows.append {α:Type}{R:α->List Value->Prop}{xs ys:List α}{cs ds:List Value}(h:Rows R xs cs) (h':Rows R ys ds):Rows R (xs++ys) (cs++ds):=by
 induction h with
 |nil=>exact h'
 |cons h _ ih=>rw[x9];exact .cons h ih
theorem Rows.at {α:Type}{R:α->List Value->Prop}{n:Nat}(hR:∀ x c,R x c->c.length=n) {xs:List α}{cs:List Value}(h:Rows R xs cs) {k:Nat}(hk:k<xs.length):R xs[k] ((cs.drop (k*n)).take n):=by
 induction h generalizing k with
 |nil=>simp at hk
 |@cons x xs c cs h t ih =>
  have hc:=hR _ _ h;cases k with
  |zero=>simp only[Nat.zero_mul,xB,List.getElem_cons_zero];rw[<-hc,List.take_left];exact h
  |succ k =>
   have:=ih (k:=k) (by simpa using hk);rw[List.getElem_cons_succ,zF,xr];have e:(c++cs).drop (k*n+n)=cs.drop (k*n):=by rw[List.drop_append,hc];simp_all
   rw[e];exact this
theorem Rows.take {α:Type}{R:α->List Value->Prop}{n:Nat}(hR:∀ x c,R x c->c.length=n) {xs:List α}{cs:List Value}(h:Rows R xs cs) (k:Nat):Rows R (xs.take k) (cs.take (k*n)):=by
 induction h generalizing k with
 |nil=>simp;exact .nil
 |@cons x xs c cs h t ih =>
  have hc:=hR _ _ h;cases k with
  |zero=>simp;exact .nil
  |succ k =>have e1:c.take ((k+1)*n)=c:=zI (by rw[hc,zF];omega);rw[y6,List.take_append,hc,show (k+1)*n-n=k*n by rw[zF];omega,e1];exact .cons h (ih k)
theorem Rows.drop {α:Type}{R:α->List Value->Prop}{n:Nat}(hR:∀ x c,R x c->c.length=n) {xs:List α}{cs:List Value}(h:Rows R xs cs) (k:Nat):Rows R (xs.drop k) (cs.drop (k*n)):=by
 induction h generalizing k with
 |nil=>simp;exact .nil
 |@cons x xs c cs h t ih =>
  have hc:=hR _ _ h;cases k with
  |zero=>simp;exact .cons h t
  |succ k =>have e1:c.drop ((k+1)*n)=[]:=List.drop_eq_nil_of_le (by rw[hc,zF];omega);rw[yf,List.drop_append,hc,show (k+1)*n-n=k*n by rw[zF];omega,e1,xD];exact ih k
theorem Rows.set {α:Type}{R:α->List Value->Prop}{n:Nat}(hR:∀ x c,R x c->c.length=n) {xs:List α}{cs:List Value}(h:Rows R xs cs) {k:Nat}(hk:k<xs.length) {y:α}{d:List Value}(hd:R y d):Rows R (xs.set k y) (cs.take (k*n)++d++cs.drop (k*n+n)):=by
 have e:xs.set k y=xs.take k++([y]++xs.drop (k+1)):=by rw[List.set_eq_take_append_cons_drop,z6 hk];rfl
 rw[e,x9];have h2:=h.drop hR (k+1);rw[zF,xr] at h2;exact(h.take hR k).append ((show Rows R [y] d by simpa using Rows.cons hd .nil).append h2)
theorem Rows.replicate {α:Type}{R:α->List Value->Prop}{x:α}{c:List Value}(h:R x c):∀ n,Rows R (List.replicate n x) (List.replicate n c).flatten
 |0=>by simp;exact .nil
 |n+1=>by simp only[xw,List.flatten_cons];exact .cons h (Rows.replicate h n)
theorem KC.length {h:Heap}:∀ {k:Kind}{x:k.T}{cs:List Value},KC h k x cs->cs.length=k.size
 |.i _,_,_,e|.bo,_,_,e|.st,_,_,e=>by simp only[KC] at e;subst e;rfl
 |.list k,l,cs,e=>by obtain⟨v,rfl,_⟩:=e;rfl
 |.pair a b,x,cs,e=>by obtain⟨c1,c2,rfl,h1,h2⟩:=e;simp only[zG,KC.length h1,KC.length h2,Kind.size]
theorem SlRel.mono {h h':Heap}(hl:h.Le h') {sz:Nat}{α:Type}{R R':α->List Value->Prop}(hR:∀ x c,R x c->R' x c) {l:List α}{v:Value}(hs:SlRel h sz R l v):SlRel h' sz R' l v:=by
 rcases hs with hs|⟨i,o,cap,c,e,wr,t,h1,h2,h3,h4,h5,h6⟩
 .exact .inl hs
 .exact .inr ⟨i,o,cap,c,e,wr,t,h1,h2,hl.2 _ _ h3,h4,h5,h6.mono hR⟩
theorem KC.mono {h h':Heap}(hl:h.Le h'):∀ {k:Kind}{x:k.T}{cs:List Value},KC h k x cs->KC h' k x cs
 |.i _,_,_,e|.bo,_,_,e|.st,_,_,e=>e
 |.list k,l,cs,e=>by obtain⟨v,hv,hs⟩:=e;exact⟨v,hv,hs.mono hl λx c hx=>KC.mono (k:=k) hl hx⟩
 |.pair a b,x,cs,e=>by obtain⟨c1,c2,hc,h1,h2⟩:=e;exact⟨c1,c2,hc,KC.mono hl h1,KC.mono hl h2⟩
theorem KC.cellOk {h:Heap}:∀ {k:Kind}{x:k.T}{cs:List Value},KC h k x cs->cs.all cellOk=true
 |.i _,_,_,e|.bo,_,_,e|.st,_,_,e=>by simp only[KC] at e;subst e;rfl
 |.list k,l,cs,e=>by obtain⟨v,rfl,hs⟩:=e;rcases hs with⟨_,rfl⟩|⟨i,o,cap,c,e,wr,t,rfl,_⟩<;>rfl
 |.pair a b,x,cs,e=>by obtain⟨c1,c2,rfl,h1,h2⟩:=e;rw[List.all_append,KC.cellOk h1,KC.cellOk h2];rfl
def Dv:(k:Kind)->k.T->List SV
 |.pair a b,x=>Dv a x.1++Dv b x.2
 |.i k,x=>[.val (.i k) x]
 |.bo,x=>[.val .bo x]
 |.st,x=>[.val .st x]
 |.list k,x=>[.val (.list k) x]
def Q8v:(k:Kind)->k.T->SV
 |.pair a b,x=>.agg (Dv (.pair a b) x)
 |.i k,x=>.val (.i k) x
 |.bo,x=>.val .bo x
 |.st,x=>.val .st x
 |.list k,x=>.val (.list k) x
inductive RowsO {α:Type}(R:α->List Value->List Nat->Prop):List α->List Value->List Nat->Prop
 |nil:RowsO R [] [] []
 |cons {x:α}{xs:List α}{c cs:List Value}{is js:List Nat}(h:R x c is) (t:RowsO R xs cs js):RowsO R (x::xs) (c++cs) (is++js)
def KO (H:Heap):(q:Option Nat)->(k:Kind)->k.T->List Value->List Nat->Prop
 |_,.i ik,x,cs,is=>cs=[.int ik x]/\is=[]
 |_,.bo,x,cs,is=>cs=[.bool x]/\is=[]
 |_,.st,x,cs,is=>cs=[.string ⟨x.toArray⟩]/\is=[]
 |q,.list k,l,cs,is=>(l=[]/\cs=[.slice none 0 0]/\is=[])\/∃ i cap c e t js,cs=[.slice (some ⟨i,0,none⟩) l.length cap]/\is=i::js/\l.length<=cap/\H.get i=some (.cells c e true t)/\e.sz=k.size/\(∀ ty,q=some ty->e.ty=ty)/\cap*k.size<=c.length /\
   RowsO (λx c is=>KO H none k x c is) l (c.take (l.length*k.size)) js
 |_,.pair a b,x,cs,is=>∃ c1 c2 i1 i2,cs=c1++c2/\is=i1++i2/\KO H none a x.1 c1 i1/\KO H none b x.2 c2 i2
def J15 (i:Nat):Blk->Value
 |.cells c e _ t=>.tuple #[.int .i64 (i:Nat),.agg c.toArray,.int .i64 (e.sz:Nat),.int .i64 (e.ty:Nat),.bool t]
 |_=>.bool true
def J1u:Value->Option (Nat×Blk)
 |.tuple ⟨[.int _ i,.agg c,.int _ sz,.int _ ty,.bool t]⟩=>some (i.toNat,.cells c.toList ⟨sz.toNat,ty.toNat⟩ true t)
 |_=>none
def Z1p:List Value->List (Nat×Blk)
 |[]=>[]
 |v::vs=>match J1u v with|some p=>p::Z1p vs|none=>Z1p vs
def RI:List (Nat×Blk)->Nat->Option Blk
 |[],_=>none
 |(j,b)::r,i=>if i=j then some b else RI r i
def Z5p:List (Nat×Blk)->Nat
 |[]=>0
 |(j,_)::r=>max (j+1) (Z5p r)
theorem OY:∀ (l:List (Nat×Blk)) (i:Nat),Z5p l<=i->RI l i=none
 |[],_,_=>rfl
 |(j,b)::r,i,h=>by
  simp only[Z5p] at h;have:¬ i=j:=by omega
  simp only[RI,z7 this];exact OY r i (by omega)
def listH (l:List (Nat×Blk)):Heap:=⟨RI l,Z5p l,λi h=>OY l i h⟩
def phd:Value->Value
 |.tuple ⟨v::_⟩=>v
 |v=>v
def W4:Value->Heap
 |.tuple ⟨_::vs⟩=>listH (Z1p vs)
 |_=>listH []
def DR (p:Value):DW->Value->Prop
 |.out,v=>v=phd p/\∃ a n c,v=.slice a n c
 |.el i off sz,v=>∃ b len cap,phd p=.slice (some ⟨b,0,none⟩) len cap/\0<=i/\i<len/\v=.pointer (some ⟨b,i.toNat*sz+off,none⟩)
 |.row k x i,v=>KC (W4 p) (.list k) x [v]/\(∀ a n c,v=.slice (some a) n c->a.off=0)/\∃ b len cap c e t,phd p=.slice (some ⟨b,0,none⟩) len cap/\0<=i/\i<len/\(W4 p).get b=some (.cells c e true t)/\c[i.toNat]?=some v
 |.rowp k x i j off,v=>∃ b len cap c e t r rl rc aM re rt,phd p=.slice (some ⟨b,0,none⟩) len cap/\0<=i/\i<len/\(W4 p).get b=some (.cells c e true t)/\c[i.toNat]?=some (.slice (some ⟨r,0,none⟩) rl rc)/\0<=j/\j<rl/\x.length=rl/\(W4 p).get r=some (.cells aM re true rt)/\rl*k.size<=aM.length/\Rows (KC (W4 p) k) x (aM.take (rl*k.size))/\v=.pointer (some ⟨r,j.toNat*k.size+off,none⟩)
 |.inn k x,v=>KC (W4 p) (.list k) x [v]
 |.inp k l j off,v=>∃ b o c e wr t,0<=j/\j<l.length/\(W4 p).get b=some (.cells c e wr t)/\v=.pointer (some ⟨b,o+j.toNat*k.size+off,none⟩)/\o+l.length*k.size<=c.length/\Rows (KC (W4 p) k) l ((c.drop o).take (l.length*k.size))
 |.dat,v=>(phd p=.slice none 0 0/\v=.pointer none)\/∃ b n cap,phd p=.slice (some ⟨b,0,none⟩) n cap/\0<n/\v=.pointer (some ⟨b,0,none⟩)
 |.yv,v=>∃ i,p=.pointer (some ⟨i,0,none⟩)/\v=.func (.yield i) #[] #[]
 |.obx c,v=>(c=false/\v=.pointer none)\/(c=true/\∃ b,phd p=.pointer (some ⟨b,0,none⟩)/\v=.pointer (some ⟨b,0,none⟩))
def KV (h:Heap) (k:Kind) (x:k.T) (v:Value):Prop:=(k.one=true/\KC h k x [v])\/(k.one=false/\∃ cs,v=.agg cs.toArray/\KC h k x cs)
theorem KV.mono {h h':Heap}(hl:h.Le h') {k:Kind}{x:k.T}{v:Value}(e:KV h k x v):KV h' k x v:=by
 rcases e with⟨ho,e⟩|⟨ho,cs,hv,e⟩
 .exact .inl ⟨ho,e.mono hl⟩
 .exact .inr ⟨ho,cs,hv,e.mono hl⟩
def E2 (h:Heap):(ks:List Kind)->AT ks->List Value->Prop
 |[],_,vs=>vs=[]
 |[k],x,vs=>∃ v,vs=[v]/\KV h k x v
 |k::k'::ks,x,vs=>∃ v cG,vs=v::cG/\KV h k x.1 v/\E2 h (k'::ks) x.2 cG
def gtb (tb:Nat->Option Bool):SV->Prop
 |.bid n c=>tb n=some c
 |_=>True
section
variable (P:Program)
def PfRel (B:Heap) (ks:List Kind) (r:Kind) (cw:AT ks->Prop) (p:AT ks->r.T) (v:Value):Prop :=
 ∃ g first cap,v=.func (.func g) first cap/\∀ x,cw x->∀ U vs,B.Le U->E2 U ks x vs->VCalled P g (first.toList++vs++cap.toList) U λv' U'=>U'=U/\KV U r (p x) v'
mutual
def SR (B:Heap) (pl:Nat->Value) (tb:Nat->Option Bool):SV->Value->Prop
 |.any,_=>True
 |.val k x,v=>KC B k x [v]
 |.bid n c,v=>v=.bool c/\tb n=some c
 |.grd gs v,u=>((∀ g∈gs,tb g.id=some g.c)/\gtb tb v)/\((∀ g∈gs,g.c=g.want)->SR B pl tb v u)/\((∃ g∈gs,g.c≠g.want)->u=undef)
 |.nilS,v=>v=.slice none 0 0
 |.nilP,v=>v=.pointer none
 |.nilM,v=>v=.map none
 |.nilF,v=>v=.nilFunc
 |.lst o,v=>v=pl o/\∃ a n c,v=.slice a n c
 |.sub o lo n sz,v=>(lo=0/\n=0/\v=.slice none 0 0/\pl o=.slice none 0 0)\/∃ i len cap aq,pl o=.slice (some ⟨i,0,none⟩) len cap/\lo+n<=len/\n<=aq/\v=.slice (some ⟨i,lo*sz,none⟩) n aq
 |.elp o i off sz,v=>∃ b len cap,pl o=.slice (some ⟨b,0,none⟩) len cap/\0<=i/\i<len/\v=.pointer (some ⟨b,i.toNat*sz+off,none⟩)
 |.rop k l i off,v=>∃ b o c e wr t,0<=i/\i<l.length/\B.get b=some (.cells c e wr t)/\v=.pointer (some ⟨b,o+i.toNat*k.size+off,none⟩)/\o+l.length*k.size<=c.length/\Rows (KC B k) l ((c.drop o).take (l.length*k.size))
 |.box o off,v=>∃ b,pl o=.pointer (some ⟨b,0,none⟩)/\v=.pointer (some ⟨b,off,none⟩)
 |.cp l off,v=>∃ b c e wr t,B.get b=some (.cells c e wr t)/\v=.pointer (some ⟨b,off,none⟩)/\SRs B pl tb l c
 |.map o,v=>v=pl o/\∃ m,v=.map m
 |.agg l,v=>∃ cs,v=.agg cs.toArray/\SRs B pl tb l cs
 |.tup l,v=>∃ cs,v=.tuple cs.toArray/\SRs B pl tb l cs
 |.dd o w,v=>DR (pl o) w v
 |.fn f first di,v=>∃ a b,v=.func (.func f) a.toArray b.toArray/\SRs B pl tb first a/\SRs B pl tb di b
 |.pf ks r cw p,v=>PfRel P B ks r cw p v
def SRs (B:Heap) (pl:Nat->Value) (tb:Nat->Option Bool):List SV->List Value->Prop
 |[],vs=>vs=[]
 |s::ss,vs=>∃ v cG,vs=v::cG/\SR B pl tb s v/\SRs B pl tb ss cG
end
end
end Go.V
namespace Go.V
open Go
abbrev Own:=List (Nat×OB)
def Q9:Own->Nat->OB
 |[],_=>.dead
 |(k,b)::r,d=>bif Nat.beq k d then b else Q9 r d
def oset:Own->Nat->OB->Own
 |[],d,b=>[(d,b)]
 |(k,c)::r,d,b=>bif Nat.beq k d then (d,b)::r else bif Nat.blt d k then (d,b)::(k,c)::r else (k,c)::oset r d b
structure St where
 env:List SV
 own:Own
 nx:Nat
mutual
def SV.kill (o:Nat):SV->SV
 |.lst o'=>bif Nat.beq o' o then .any else .lst o'
 |.sub o' lo n sz=>bif Nat.beq o' o then .any else .sub o' lo n sz
 |.elp o' i off sz=>bif Nat.beq o' o then .any else .elp o' i off sz
 |.dd o' w=>bif Nat.beq o' o then .any else .dd o' w
 |.box o' off=>bif Nat.beq o' o then .any else .box o' off
 |.map o'=>bif Nat.beq o' o then .any else .map o'
 |.grd gs v=>.grd gs (SV.kill o v)
 |.agg l=>.agg (SVs.kill o l)
 |.tup l=>.tup (SVs.kill o l)
 |.cp l off=>.cp (SVs.kill o l) off
 |.fn f a b=>.fn f (SVs.kill o a) (SVs.kill o b)
 |.any=>.any
 |.val k x=>.val k x
 |.bid n c=>.bid n c
 |.nilS=>.nilS
 |.nilP=>.nilP
 |.nilM=>.nilM
 |.nilF=>.nilF
 |.rop k l i off=>.rop k l i off
 |.pf ks r cw p=>.pf ks r cw p
def SVs.kill (o:Nat):List SV->List SV
 |[]=>[]
 |s::ss=>SV.kill o s::SVs.kill o ss
end
def OB.kill (o:Nat):OB->OB
 |.cells l u=>.cells (SVs.kill o l) u
 |.dead=>.dead
 |.lst ty k xs nl=>.lst ty k xs nl
 |.map kk vk m=>.map kk vk m
 |.stk l vals=>.stk (SVs.kill o l) vals
 |.deep ty q k xs nl h=>.deep ty q k xs nl h
 |.iter kk vk m dn=>.iter kk vk m dn
 |.rmap kk vk m=>.rmap kk vk m
 |.siter l pos=>.siter l pos
 |.mapE kk vk m key n=>.mapE kk vk m key n
 |.lpf l q s=>.lpf (SVs.kill o l) q s
 |.fm ik l=>.fm ik l
def Q46 (o:Nat):Own->Own
 |[]=>[]
 |(k,b)::r=>bif Nat.beq k o then Q46 o r else (k,b.kill o)::Q46 o r
def St.kill (s:St) (o:Nat):St:=⟨SVs.kill o s.env,Q46 o s.own,s.nx⟩
def St.make (s:St) (o:Nat) (b:OB):St:=⟨(s.kill o).env,oset (s.kill o).own o b,s.nx⟩
def St.put (s:St) (d:Option Nat) (v:SV):St:=match d with
 |some d=>⟨s.env.set d v,s.own,s.nx⟩
 |none=>s
def cvp:Value->SV
 |.bool b=>.val .bo b
 |.int k x=>.val (.i k) x
 |.string s=>.val .st s.data.toList
 |.pointer none=>.nilP
 |.slice none 0 0=>.nilS
 |.map none=>.nilM
 |.nilFunc=>.nilF
 |_=>.any
def cv:Value->SV
 |.agg cs=>.agg (cs.toList.map cvp)
 |v=>cvp v
def Z4j:List Gd->List Gd->Bool
 |[],_=>true
 |_::_,[]=>false
 |a::l,b::m=>bif Nat.beq a.id b.id&&(a.want==b.want) then Z4j l m else Z4j (a::l) m
def Q8m (gs:List Gd):SV->SV
 |.grd g v=>bif Z4j g gs then v else .any
 |v=>v
def gev (gs:List Gd) (env:List SV):Operand->SV
 |.tmp t=>Q8m gs (env.getD t .any)
 |.const v=>cv v
 |.func f=>.fn f [] []
 |.global _=>.any
def NB {k:Kind}(l:List k.T) (k':Kind):Option (List k'.T):=if h:k=k' then some (h▸l) else none
def Q7l {k:Kind}(x:k.T) (k':Kind):Option k'.T:=if h:k=k' then some (h▸x) else none
def asB:SV->Option Bool
 |.val .bo b=>some b
 |.bid _ c=>some c
 |_=>none
def asI:SV->Option (IntKind×Int)
 |.val (.i k) x=>some (k,x)
 |_=>none
def asS:SV->Option (List UInt8)
 |.val .st x=>some x
 |_=>none
def Kind.flat:Kind->Bool
 |.list _=>false
 |.pair a b=>a.flat&&b.flat
 |_=>true
def view (own:Own) (k:Kind):SV->Option (List k.T)
 |.nilS=>some []
 |.val (.list _k') l=>NB l k
 |.lst o=>match Q9 own o with|.lst _ _k' xs _=>NB xs k|_=>none
 |.sub o lo n sz=>match Q9 own o with|.lst _ k' xs _=>if sz=k'.size then (NB xs k).map λxs=>(xs.drop lo).take n else none|_=>none
 |.dd o w=>bif k.flat then (match Q9 own o with
  |.deep _ _ _ xs _ h=>(match w with
   |.out=>(match h with|none=>NB xs k|some _=>none)
   |.inn _ l=>NB l k
   |.row _ l _=>NB l k
   |_=>none)
  |_=>none) else none
 |_=>none
def J0x (own:Own):SV->Option Nat
 |.nilS=>some 0
 |.val (.list _) l=>some l.length
 |.lst o=>match Q9 own o with|.lst _ _ xs _=>some xs.length|_=>none
 |.sub _ _ n _=>some n
 |.dd o w=>(match Q9 own o with
  |.deep _ _ _ xs _ h=>(match w with
   |.out=>(match h with|none=>some xs.length|some _=>none)
   |.inn _ l=>some l.length
   |.row _ l _=>some l.length
   |_=>none)
  |_=>none)
 |_=>none
def SV.solid:SV->Bool
 |.agg _|.tup _|.any|.grd _ _=>false
 |_=>true
def Nx:SV->Option (List SV)
 |.agg l=>bif l.all SV.solid then some l else none
 |.tup _=>none
 |.any=>none
 |.grd _ _=>none
 |v=>some [v]
def RG:(k:Kind)->List SV->Option k.T
 |.i ik,[v]=>match v with|.val (.i g_) x=>if ik=g_ then some x else none|_=>none
 |.bo,[v]=>asB v
 |.st,[v]=>asS v
 |.list k,[v]=>match v with|.nilS=>some []|.val (.list _k') l=>NB l k|_=>none
 |.pair a b,l=>match RG a (l.take a.size),RG b (l.drop a.size) with
  |some x,some y=>some (x,y)
  |_,_=>none
 |_,_=>none
def dkV (k:Kind) (v:SV):Option k.T:=bif k.one then RG k [v] else match v with|.agg l=>RG k l|_=>none
def Q2a (k:Kind) (z:Value):List Value:=bif k.one then [z] else match z with|.agg a=>a.toList|_=>[]
def Z83:(k:Kind)->Nat->SV->k.T->Option k.T
 |.pair a b,off,v,x=>bif Nat.blt off a.size then (Z83 a off v x.1).map λy=>(y,x.2) else (Z83 b (off-a.size) v x.2).map λy=>(x.1,y)
 |.i ik,_,v,_=>RG (.i ik) [v]
 |.bo,_,v,_=>RG .bo [v]
 |.st,_,v,_=>RG .st [v]
 |.list k,_,v,_=>RG (.list k) [v]
def VE:Kind->List Value->Bool
 |.i ik,[.int k x]=>decide (ik=k)&&(x==0)
 |.bo,[.bool b]=>!b
 |.st,[.string s]=>s.data.toList.isEmpty
 |.list _,[.slice none 0 0]=>true
 |.pair a b,l=>VE a (l.take a.size)&&VE b (l.drop a.size)
 |_,_=>false
def InK (k:IntKind) (x:Int):Prop:=k.min<=x/\x<=k.max
def Z23:List Gd->Prop->Prop
 |[],p=>p
 |g::gs,p=>g.c=g.want->Z23 gs p
def E0 (gs:List Gd):List Prop->Prop->Prop
 |[],q=>q
 |c::cs,q=>Z23 gs c/\E0 gs cs q
abbrev CSp:=(SV->List SV->Option (Prop×SV))->List SV->Option (Prop×SV×List OB)
abbrev XSp:=Nat->List SV->St->(SV->St->Prop)->Prop
abbrev ISp:=List SV->Option (Prop×Nat×Nat×(Nat->List SV))
abbrev YSp:=List SV->St->(SV->St->Prop)->Prop
abbrev Z5b:=Nat->List SV->Nat×YSp->St->(St->Prop)->Prop
structure Cx where
 kt:List (Nat×Kind)
 cs:List (Nat×CSp)
 nt:Nat
 raw:List Nat
 off:Nat
 xs:List (Nat×XSp)
 it:List (Nat×ISp)
 el:List (Nat×Nat):=[]
 jn:List Nat:=[]
 nm:Bool:=false
 yl:List (Nat×YSp):=[]
 iy:List (Nat×Z5b):=[]
 spl:List Nat:=[]
 xf:List (Nat×Nat):=[]
def QF {α:Type _}:List (Nat×α)->Nat->Option α
 |[],_=>none
 |(k,x)::r,d=>bif Nat.beq k d then some x else QF r d
mutual
def Ct (own:Own) (bx:List SV->Nat->SV):SV->SV
 |.lst o=>match Q9 own o with|.lst _ k xs _=>.val (.list k) xs|_=>.any
 |.sub o lo n sz=>match Q9 own o with|.lst _ k xs _=>if sz=k.size then .val (.list k) ((xs.drop lo).take n) else .any|_=>.any
 |.box o off=>match Q9 own o with|.cells l _=>bx l off|_=>.any
 |.agg l=>.agg (LH own bx l)
 |.fn f a b=>.fn f (LH own bx a) (LH own bx b)
 |.bid _ c=>.val .bo c
 |.val k x=>.val k x
 |.nilS=>.nilS
 |.nilP=>.nilP
 |.nilM=>.nilM
 |.nilF=>.nilF
 |.rop k l i off=>.rop k l i off
 |.cp l off=>.cp (LH own bx l) off
 |.pf ks r cw p=>.pf ks r cw p
 |.any=>.any
 |.grd _ _=>.any
 |.elp _ _ _ _=>.any
 |.dd o w=>(match Q9 own o with
  |.deep _ _ k xs _ h=>(match w with
   |.out=>(match h with|none=>.val (.list k) xs|some _=>.any)
   |.inn k x=>.val (.list k) x
   |.row k x _=>.val (.list k) x
   |_=>.any)
  |_=>.any)
 |.map _=>.any
 |.tup _=>.any
def LH (own:Own) (bx:List SV->Nat->SV):List SV->List SV
 |[]=>[]
 |s::ss=>Ct own bx s::LH own bx ss
end
def J39 (own:Own) (l:List SV):List SV:=LH own (λ_ _=>.any) l
def J4o (own:Own) (l:List SV):List SV:=LH own (λc off=>.cp (J39 own c) off) l
def J55 (own:Own) (l:List SV):List SV:=LH own (λc off=>.cp (J4o own c) off) l
def Rv (own:Own) (l:List SV):List SV:=J55 own l
def SG:BinOp->Int->Int->Int
 |.add,a,b=>a+b
 |.sub,a,b=>a-b
 |_,a,b=>a*b
def Iu (a b:Int):Int:=if b > a then b else a
def YA (k:IntKind) (x y:Int):Int:=x*2 ^ (Nat.min y.toNat k.bits)
def Zz (k:IntKind) (x y:Int):Int:=x.fdiv (2 ^ (Nat.min y.toNat k.bits))
def gfill (c:List SV):List (Nat×Nat×SV)->Option (List SV)
 |[]=>some c
 |(o,sz,v)::rest=>match Nx v with
  |some vs=>if vs.length=sz/\o+sz<=c.length then gfill (setS c o vs) rest else none
  |none=>none
 where setS (c:List SV) (o:Nat):List SV->List SV
 |[]=>c
 |v::vs=>setS (c.set o v) (o+1) vs
def LN (agg:Bool) (size:Nat) (l:List SV) (off:Nat):Option SV :=
 bif agg then (if off+size<=l.length then some (.agg ((l.drop off).take size)) else none) else l[off]?
def Bl (o:Nat):(k:Kind)->k.T->List SV
 |.pair a b,x=>Bl o a x.1++Bl o b x.2
 |.list k,x=>[.dd o (.inn k x)]
 |.i k,x=>[.val (.i k) x]
 |.bo,x=>[.val .bo x]
 |.st,x=>[.val .st x]
def J2c (o:Nat) (i:Int):(k:Kind)->k.T->List SV
 |.list k,x=>[.dd o (.row k x i)]
 |.pair a b,x=>Bl o (.pair a b) x
 |.i k,x=>[.val (.i k) x]
 |.bo,x=>[.val .bo x]
 |.st,x=>[.val .st x]
def Q9a (own:Own) (agg:Bool) (size:Nat):SV->Option SV
 |.box o off=>match Q9 own o with|.cells l _=>LN agg size l off|_=>none
 |.cp l off=>LN agg size l off
 |.elp o i off sz=>match Q9 own o with|.lst _ k xs _=>if sz=k.size/\off+size<=sz then LN agg size (Dv k (xs.getD i.toNat k.dflt)) off else none|_=>none
 |.rop k l i off=>if off+size<=k.size then LN agg size (Dv k (l.getD i.toNat k.dflt)) off else none
 |.dd o w=>(match Q9 own o with
  |.deep _ _ k xs _ h=>(match h with
   |none=>(match w with
    |.el i off sz=>if sz=k.size/\off+size<=sz then LN agg size (J2c o i k (xs.getD i.toNat k.dflt)) off else none
    |.rowp k' x _ j off=>if off+size<=k'.size then LN agg size (Bl o k' (x.getD j.toNat k'.dflt)) off else none
    |.inp k' l j off=>if off+size<=k'.size then LN agg size (Bl o k' (l.getD j.toNat k'.dflt)) off else none
    |_=>none)
   |some _=>none)
  |_=>none)
 |_=>none
def KW (ev:Operand->SV):Option Operand->Int->Option Int
 |none,d=>some d
 |some x,_=>(asI (ev x)).map (·.2)
def gq (_kt:List (Nat×Kind)) (raw:Bool) (o:VOp) (ev:Operand->SV) (own:Own):Option (List Prop×SV) :=
 match o with
 |.move x=>some ([],ev x)
 |.arith op x y=>match asI (ev x),asI (ev y) with
  |some (k,a),some (k',b)=>if k=k' then (bif raw then some ([],.val (.i k) (k.wrap (SG op a b))) else some ([InK k (SG op a b)],.val (.i k) (SG op a b))) else none
  |_,_=>none
 |.div op x y=>match asI (ev x),asI (ev y) with
  |some (k,a),some (k',b)=>if k=k' then (match op with
   |.quo=>some ([b≠0,InK k (a.tdiv b)],.val (.i k) (a.tdiv b))
   |_=>some ([b≠0],.val (.i k) (a.tmod b))) else none
  |_,_=>none
 |.bits op x y=>match asI (ev x),asI (ev y) with
  |some (k,a),some (k',b)=>if k=k' then some ([],.val (.i k) (Qb op k a b)) else none
  |_,_=>none
 |.shift op x y=>match asI (ev x),asI (ev y) with
  |some (k,a),some (_,b)=>(match op with
   |.shl=>bif raw then some ([0<=b],.val (.i k) (k.wrap (YA k a b))) else some ([0<=b,InK k (YA k a b)],.val (.i k) (YA k a b))
   |_=>some ([0<=b],.val (.i k) (Zz k a b)))
  |_,_=>none
 |.cmp op x y=>match asI (ev x),asI (ev y) with
  |some (k,a),some (k',b)=>if k=k' then some ([],.val .bo (Z9l op a b)) else none
  |_,_=>none
 |.eqB neg x y=>match asB (ev x),asB (ev y) with
  |some a,some b=>some ([],.val .bo (if neg then !(a==b) else (a==b)))
  |_,_=>none
 |.un op x=>match op with
  |.not=>match asB (ev x) with|some b=>some ([],.val .bo (!b))|none=>none
  |.neg=>match asI (ev x) with|some (k,n)=>some ([InK k (0-n)],.val (.i k) (0-n))|none=>none
  |.xor=>match asI (ev x) with|some (k,n)=>some ([],.val (.i k) (Qb .xor k (if k.signed then -1 else k.max) n))|none=>none
  |_=>none
 |.convI k x=>match asI (ev x) with
  |some (_,n)=>bif raw then some ([],.val (.i k) (k.wrap n)) else some ([InK k n],.val (.i k) n)
  |none=>none
 |.build z parts=>match gfill (z.map cvp) (parts.map λp=>(p.1,p.2.1,ev p.2.2)) with|some l=>some ([],.agg l)|none=>none
 |.load agg size a=>bif Nat.blt 0 size then (Q9a own agg size (ev a)).map λv=>([],v) else none
 |.fieldAddr off a=>match ev a with
  |.box o f=>some ([],.box o (f+off))
  |.cp l f=>some ([],.cp l (f+off))
  |.elp o i f sz=>some ([],.elp o i (f+off) sz)
  |.dd o w=>(match w with
   |.el i f sz=>some ([],.dd o (.el i (f+off) sz))
   |.rowp k x i j f=>some ([],.dd o (.rowp k x i j (f+off)))
   |.inp k l j f=>some ([],.dd o (.inp k l j (f+off)))
   |_=>none)
  |.rop k l i f=>some ([],.rop k l i (f+off))
  |_=>none
 |.field agg off size x=>match ev x with|.agg l=>(LN agg size l off).map λv=>([],v)|_=>none
 |.indexAddr size x i=>match ev x,asI (ev i) with
  |.lst o,some (_,j)=>(match Q9 own o with|.lst _ k xs _=>if k.size=size then some ([0<=j,j<xs.length],.elp o j 0 size) else none|_=>none)
  |.dd o w,some (_,j)=>(match Q9 own o with
   |.deep _ _ k xs _ h=>(match w with
    |.out=>(match h with|none=>(if k.size=size then some ([0<=j,j<xs.length],.dd o (.el j 0 size)) else none)|some _=>(if k.size=size then some ([0<=j,j<xs.length],.dd o (.el j 0 size)) else none))
    |.row k x i=>if k.size=size then some ([0<=j,j<x.length],.dd o (.rowp k x i j 0)) else none
    |.inn k l=>if k.size=size then some ([0<=j,j<l.length],.dd o (.inp k l j 0)) else none
    |_=>none)
   |_=>none)
  |.sub o lo n sz,some (_,j)=>(match Q9 own o with|.lst _ k _ _=>if k.size=size/\sz=size then some ([0<=j,j<n],.elp o (lo+j) 0 size) else none|_=>none)
  |.val (.list k) l,some (_,j)=>if k.size=size then some ([0<=j,j<l.length],.rop k l j 0) else none
  |_,_=>none
 |.indexStr x i=>match asS (ev x),asI (ev i) with
  |some s,some (_,j)=>some ([0<=j,j<s.length],.val (.i .u8) ((s.getD j.toNat 0).toNat:Int))
  |_,_=>none
 |.slice size x lo hi none=>match ev x with
  |.lst o=>(match Q9 own o with
   |.lst _ k xs _=>if k.size=size then (match KW ev lo 0,KW ev hi xs.length with
    |some a,some b=>some ([0<=a,a<=b,b<=xs.length],.sub o a.toNat (b-a).toNat size)
    |_,_=>none) else none
   |_=>none)
  |.sub o l0 n sz=>(match Q9 own o with
   |.lst _ k _ _=>if k.size=size/\sz=size then (match KW ev lo 0,KW ev hi n with
    |some a,some b=>some ([0<=a,a<=b,b<=n],.sub o (l0+a.toNat) (b-a).toNat size)
    |_,_=>none) else none
   |_=>none)
  |.val (.list k) l=>if k.size=size then (match KW ev lo 0,KW ev hi l.length with
   |some a,some b=>some ([0<=a,a<=b,b<=l.length],.val (.list k) ((l.drop a.toNat).take (b-a).toNat))
   |_,_=>none) else none
  |.dd o w=>(match Q9 own o with
   |.deep _ _ _ _ _ _=>(match w with
    |.inn k l=>if k.size=size then (match KW ev lo 0,KW ev hi l.length with
     |some a,some b=>some ([0<=a,a<=b,b<=l.length],.dd o (.inn k ((l.drop a.toNat).take (b-a).toNat)))
     |_,_=>none) else none
    |.row k l _=>if k.size=size then (match KW ev lo 0,KW ev hi l.length with
     |some a,some b=>some ([0<=a,a<=b,b<=l.length],.dd o (.inn k ((l.drop a.toNat).take (b-a).toNat)))
     |_,_=>none) else none
    |_=>none)
   |_=>none)
  |.nilS=>(match KW ev lo 0,KW ev hi 0 with
   |some a,some b=>some ([a=0,b=0],.nilS)
   |_,_=>none)
  |_=>none
 |.len x=>match J0x own (ev x) with|some n=>some ([],.val (.i .i64) (n:Nat))|none=>none
 |.max x y=>match asI (ev x),asI (ev y) with
  |some (k,a),some (k',b)=>if k=k' then some ([],.val (.i k) (Iu a b)) else none
  |_,_=>none
 |.makeFunc (.func f) first cap=>some ([],.fn f (first.map ev) (cap.map ev))
 |.extract x i=>match ev x with|.tup l=>(l[i]?).map λv=>([],v)|_=>none
 |.nilCheck x=>match ev x with
  |.box o f=>some ([],.box o f)
  |.cp l f=>some ([],.cp l f)
  |.fn f a b=>some ([],.fn f a b)
  |_=>none
 |.ext (.eqNil 1 neg x y)=>match ev x,ev y with
  |.nilS,.nilS=>some ([],.val .bo (!neg))
  |.lst o,.nilS=>(match Q9 own o with|.lst _ _ _ nl=>some ([],.val .bo (bif neg then !nl else nl))|_=>none)
  |.dd o .out,.nilS=>(match Q9 own o with|.deep _ _ _ _ nl _=>some ([],.val .bo (bif neg then !nl else nl))|_=>none)
  |.val (.list _) l,.nilS=>some ([l≠[]],.val .bo neg)
  |_,_=>none
 |.ext (.lookup mk z ok x i)=>match ev x with
  |.map o=>(match Q9 own o with
   |.map kk vk m=>if mkOk mk kk=true/\VE vk (Q2a vk z)=true then (match dkV kk (ev i) with
    |some key=>(if ok then some ([],.tup [Q8v vk (aget kk m key vk.dflt),.val .bo (ahas kk m key)]) else some ([],Q8v vk (aget kk m key vk.dflt)))
    |none=>none) else none
   |.fm ik l=>(match asI (ev i) with
    |some (g_,n)=>if g_=ik/\mkI mk ik=true/\ok=false then (match fmGet l n with|some f=>some ([],.fn f [] [])|none=>none) else none
    |none=>none)
   |_=>none)
  |_=>none
 |.ext (.entry x)=>match ev x with
  |.box o f=>(match Q9 own o with
   |.iter kk vk m dn=>if f=0/\kk.keyk=true/\vk.one=true then some ([dn≠[]],.tup [Q8v kk (m.getD (dn.getLastD 0) (kk.dflt,vk.dflt)).1,.val vk (m.getD (dn.getLastD 0) (kk.dflt,vk.dflt)).2]) else none
   |_=>none)
  |_=>none
 |.ext (.lenMap x)=>match ev x with
  |.map o=>(match Q9 own o with|.map _ _ m=>some ([],.val (.i .i64) m.length)|_=>none)
  |_=>none
 |_=>none
 where
 mkI:MK->IntKind->Bool
  |.int k,k'=>decide (k=k')
  |_,_=>false
 fmGet:List (Int×Nat)->Int->Option Nat
  |[],_=>none
  |(k,f)::r,n=>bif decide (n=k) then some f else fmGet r n
 mkP:MK->Kind->Bool
  |.int k,.i k'=>decide (k=k')
  |.string,.st=>true
  |.bool,.bo=>true
  |_,_=>false
 mkAt:Kind->List MK->Option (List MK)
  |.pair a b,l=>(match mkAt a l with|some r=>mkAt b r|none=>none)
  |k,m::r=>bif mkP m k then some r else none
  |_,[]=>none
 mkOk (m:MK) (k:Kind):Bool:=bif k.one then mkP m k else match m with
  |.agg l=>(match mkAt k l with|some []=>true|_=>false)
  |_=>false
 keq:(k:Kind)->k.T->k.T->Bool
  |.i _,(a:Int),b=>a==b
  |.bo,(a:Bool),b=>a==b
  |.st,(a:List UInt8),b=>a==b
  |.pair k l,x,y=>keq k x.1 y.1&&keq l x.2 y.2
  |_,_,_=>false
 aget (kk:Kind) {V:Type}:List (kk.T×V)->kk.T->V->V
  |[],_,d=>d
  |(k,v)::r,key,d=>if keq kk key k then v else aget kk r key d
 ahas (kk:Kind) {V:Type}:List (kk.T×V)->kk.T->Bool
  |[],_=>false
  |(k,_)::r,key=>keq kk key k||ahas kk r key
def P3 (kk:Kind) {V:Type}:List (kk.T×V)->kk.T->V->List (kk.T×V)
 |[],key,v=>[(key,v)]
 |(k,x)::r,key,v=>if gq.keq kk key k then (key,v)::r else (k,x)::P3 kk r key v
def Q9d (kk:Kind) {V:Type}:List (kk.T×V)->kk.T->List (kk.T×V)
 |[],_=>[]
 |(k,x)::r,key=>if gq.keq kk key k then r else (k,x)::Q9d kk r key
mutual
def SV.ret (n:Nat):SV->Bool
 |.val k _=>k.flat
 |.nilS|.nilP|.nilM|.nilF=>true
 |.lst j=>Nat.blt j n
 |.box j _=>Nat.blt j n
 |.map j=>Nat.blt j n
 |.dd j w=>(match w with|.out=>Nat.blt j n|_=>false)
 |.agg l=>SVs.ret n l
 |.tup l=>SVs.ret n l
 |_=>false
def SVs.ret (n:Nat):List SV->Bool
 |[]=>true
 |s::ss=>SV.ret n s&&SVs.ret n ss
end
mutual
def UN:SV->Bool
 |.val k _=>k.one
 |.box _ _=>false
 |.map _=>false
 |.dd _ _=>false
 |.agg l=>De l
 |.tup l=>De l
 |_=>true
def De:List SV->Bool
 |[]=>true
 |s::ss=>UN s&&De ss
end
def OB.isL:OB->Bool
 |.lst _ _ _ _=>true
 |_=>false
def OB.ret:OB->Bool
 |.lst _ k _ _=>k.flat
 |.cells l _=>SVs.ret 0 l
 |.map kk vk _=>kk.flat&&vk.flat
 |.dead=>false
 |.stk _ _=>false
 |.deep _ _ _ _ _ h=>h.isNone
 |.iter _ _ _ _=>false
 |.rmap _ _ _=>false
 |.siter _ _=>false
 |.mapE _ _ _ _ _=>false
 |.lpf _ _ _=>false
 |.fm _ _=>false
def gap (cs:List (Nat×CSp)):Nat->SV->List SV->Option (Prop×SV)
 |0,_,_=>none
 |n+1,f,args=>match f with
  |.fn g a b=>(match QF cs g with
   |some sp=>(match sp (gap cs n) (a++args++b) with
    |some (c,v,[])=>bif v.ret 0 then some (c,v) else none
    |_=>none)
   |none=>none)
  |.pf ks r cw p=>(match deca ks args with
   |some x=>bif r.flat then some (cw x,Q8v r (p x)) else none
   |none=>none)
  |_=>none
 where
 deca:(ks:List Kind)->List SV->Option (AT ks)
  |[],[]=>some ()
  |[k],[v]=>asV k v
  |k::k'::ks,v::vs=>match asV k v,deca (k'::ks) vs with|some x,some y=>some (x,y)|_,_=>none
  |_,_=>none
 asV (k:Kind) (v:SV):Option k.T:=bif k.one then RG k [v] else match v with|.agg l=>RG k l|_=>none
def UQ (cs:List (Nat×CSp)) (f:SV) (args:List SV):Option (Prop×SV×List OB) :=
 match f with
 |.fn g a b=>(match QF cs g with|some sp=>sp (gap cs 3) (a++args++b)|none=>none)
 |f=>(gap cs 3 f args).map λ(c,v)=>(c,v,[])
mutual
def SV.ren (d nt:Nat):SV->SV
 |.lst j=>.lst (d+j*nt)
 |.box j off=>.box (d+j*nt) off
 |.map j=>.map (d+j*nt)
 |.dd j w=>(match w with|.out=>.dd (d+j*nt) .out|_=>.any)
 |.agg l=>.agg (SVs.ren d nt l)
 |.tup l=>.tup (SVs.ren d nt l)
 |.any=>.any
 |.val k x=>.val k x
 |.bid _ c=>.val .bo c
 |.nilS=>.nilS
 |.nilP=>.nilP
 |.nilM=>.nilM
 |.nilF=>.nilF
 |.sub _ _ _ _|.elp _ _ _ _|.grd _ _|.cp _ _|.fn _ _ _|.rop _ _ _ _|.pf _ _ _ _=>.any
def SVs.ren (d nt:Nat):List SV->List SV
 |[]=>[]
 |s::ss=>SV.ren d nt s::SVs.ren d nt ss
end
def St.makes (s:St) (d nt:Nat):Nat->List OB->St
 |_,[]=>s
 |j,b::bs=>(s.make (d+j*nt) b).makes d nt (j+1) bs
def Ou (k:Kind) (ev:Operand->SV):List (Nat×Operand)->List k.T->Option (List k.T)
 |[],xs=>some xs
 |(j,x)::r,xs=>match Nx (ev x) with
  |some l=>(match RG k l with
   |some y=>if j<xs.length then Ou k ev r (xs.set j y) else none
   |none=>none)
  |none=>none
mutual
def nmV:SV->(SV->Prop)->Prop
 |.val k x,K=>∀ y:k.T,y=x->K (.val k y)
 |.agg l,K=>Z5n l λl'=>K (.agg l')
 |.tup l,K=>Z5n l λl'=>K (.tup l')
 |.any,K=>K .any
 |.dd o w,K=>K (.dd o w)
 |.bid n c,K=>K (.bid n c)
 |.grd gs v,K=>K (.grd gs v)
 |.nilS,K=>K .nilS
 |.nilP,K=>K .nilP
 |.nilM,K=>K .nilM
 |.nilF,K=>K .nilF
 |.lst o,K=>K (.lst o)
 |.sub o lo n sz,K=>K (.sub o lo n sz)
 |.elp o i off sz,K=>K (.elp o i off sz)
 |.rop k l i off,K=>K (.rop k l i off)
 |.box o off,K=>K (.box o off)
 |.cp l off,K=>K (.cp l off)
 |.map o,K=>K (.map o)
 |.fn f a b,K=>K (.fn f a b)
 |.pf ks r cw p,K=>K (.pf ks r cw p)
def Z5n:List SV->(List SV->Prop)->Prop
 |[],K=>K []
 |v::r,K=>nmV v λv'=>Z5n r λr'=>K (v'::r')
end
def J4z (o:VOp) (ev:Operand->SV):Bool:=match o with
 |.load _ _ a=>(match ev a with|.elp _ _ _ _=>true|.rop _ _ _ _=>true|.dd _ _=>true|_=>false)
 |.cmp ..|.str ..|.eqB ..|.un ..|.pick ..|.indexStr ..|.bits ..|.shift ..|.div ..|.sliceStr ..|.max ..|.max4 ..|.min ..=>true
 |.ext (.lookup ..)|.ext (.eqNil ..)|.ext (.eqAgg ..)|.ext (.entry ..)=>true
 |_=>false
def gnm (C:Cx) (o:VOp) (ev:Operand->SV) (v:SV) (K:SV->Prop):Prop:=bif C.nm&&J4z o ev then nmV v K else K v
def Q3b (C:Cx) (d:Nat) (f:SV) (args:List SV) (s:St) (K:SV->St->Prop):Prop :=
 match UQ C.cs ((Rv s.own [f]).getD 0 .any) (Rv s.own args) with
 |some (c,v,bs)=>bif v.ret bs.length&&(bs.all OB.ret&&Nat.blt 0 C.nt) then c/\K (v.ren d C.nt) (s.makes d C.nt 0 bs) else False
 |none=>False
def Eb (C:Cx) (d:Nat) (f:SV) (args:List SV) (s:St) (K:SV->St->Prop):Prop :=
 match f with
 |.fn g a b=>(match QF C.xs g with
  |some x=>x d (a++(args++b)) s K
  |none=>Q3b C d (.fn g a b) args s K)
 |.dd o .yv=>(match QF C.yl o with
  |some y=>y args s K
  |none=>False)
 |f=>Q3b C d f args s K
def gn (C:Cx) (d:Nat) (o:VOp) (ev:Operand->SV) (s:St) (K:SV->St->Prop):Prop :=
 match o with
 |.alloc t z=>K (.box d 0) (s.make d (.cells (z.map cvp) (some t)))
 |.box t x=>match Nx (ev x) with
  |some l=>K (.box d 0) (s.make d (.cells (SVs.kill d l) (some t)))
  |none=>False
 |.buildSlice e z n parts=>match QF C.kt e.ty with
  |some k=>if k.size=e.sz/\VE k z=true then (match Ou k ev parts (List.replicate n k.dflt) with
   |some xs=>K (.lst d) (s.make d (.lst e.ty k xs false))
   |none=>False) else False
  |none=>False
 |.makeSlice e bytes z l c=>match QF C.kt e.ty,asI (ev l),asI (ev c) with
  |some k,some (_,a),some (_,b)=>if k.size=e.sz/\VE k z=true then
    E0 [] [0<=a,a<=b,b*bytes<=70368744177664,b<=70368744177664] (K (.lst d) (s.make d (.lst e.ty k (List.replicate a.toNat k.dflt) false))) else False
  |_,_,_=>False
 |.append e bytes x y=>match QF C.kt e.ty with
  |some k=>(match view s.own k (ev y) with
   |some ys=>(match ev x with
    |.nilS=>if k.size=e.sz then E0 [] [ys.length*bytes<=70368744177664] (K (.lst d) (s.make d (.lst e.ty k ys ys.isEmpty))) else False
    |.lst o=>(match Q9 s.own o with
     |.lst ty _k' xs nl=>if ty=e.ty/\k.size=e.sz then (match NB xs k with
      |some xs=>E0 [] [(xs.length+ys.length)*bytes<=70368744177664] (K (.lst o) (s.make o (.lst ty k (xs++ys) (ys.isEmpty&&nl))))
      |none=>False) else False
     |_=>False)
    |_=>False)
   |none=>False)
  |none=>False
 |.store size a v=>match ev a,Nx (ev v) with
  |.box o off,some vs=>(match Q9 s.own o with
   |.cells l u=>if vs.length=size/\off+size<=l.length then K .any ⟨s.env,oset s.own o (.cells (gfill.setS l off vs) u),s.nx⟩ else False
   |_=>False)
  |.elp o i off sz,some vs=>(match Q9 s.own o with
   |.lst ty k xs nl=>(if off=0/\size=k.size/\sz=k.size then (match RG k vs with
     |some x=>K .any ⟨s.env,oset s.own o (.lst ty k (xs.set i.toNat x) nl),s.nx⟩
     |none=>False)
    else if size=1/\vs.length=1/\sz=k.size/\off<k.size then (match Z83 k off (vs.getD 0 .any) (xs.getD i.toNat k.dflt) with
     |some x=>K .any ⟨s.env,oset s.own o (.lst ty k (xs.set i.toNat x) nl),s.nx⟩
     |none=>False) else False)
   |_=>False)
  |_,_=>False
 |.callF f args=>Eb C d (.fn f [] []) (args.map ev) s K
 |.callV f args=>Eb C d (ev f) (args.map ev) s K
 |.ext (.mapUpdate mk m k v)=>match ev m with
  |.map o=>(match Q9 s.own o with
   |.map kk vk l=>if gq.mkOk mk kk=true then (match dkV kk (ev k),dkV vk (ev v) with
    |some key,some x=>K .any ⟨s.env,oset s.own o (.map kk vk (P3 kk l key x)),s.nx⟩
    |_,_=>False) else False
   |.fm ik l=>(match asI (ev k),ev v with
    |some (g_,n),.fn f [] []=>if g_=ik/\gq.mkI mk ik=true/\gq.fmGet l n=none then K .any ⟨s.env,oset s.own o (.fm ik (l++[(n,f)])),s.nx⟩ else False
    |_,_=>False)
   |_=>False)
  |_=>False
 |.ext (.delete mk m k)=>match ev m with
  |.map o=>(match Q9 s.own o with
   |.map kk vk l=>if gq.mkOk mk kk=true then (match dkV kk (ev k) with
    |some key=>K .any ⟨s.env,oset s.own o (.map kk vk (Q9d kk l key)),s.nx⟩
    |none=>False) else False
   |_=>False)
  |_=>False
 |.ext (.mapEntry mk z m k)=>match ev m with
  |.map o=>(match Q9 s.own o with
   |.map kk vk l=>if gq.mkOk mk kk=true/\VE vk (Q2a vk z)=true then (match dkV kk (ev k) with
    |some key=>∀ n:Int,K (.tup [Q8v vk (gq.aget kk l key vk.dflt),.val (.i .i64) n]) ⟨s.env,oset s.own o (.mapE kk vk (P3 kk l key (gq.aget kk l key vk.dflt)) key n),s.nx⟩
    |none=>False) else False
   |_=>False)
  |_=>False
 |.ext (.entryStore m st v)=>match ev m with
  |.map o=>(match Q9 s.own o with
   |.mapE kk vk l key n=>(match asI (ev st),dkV vk (ev v) with
    |some (.i64,n'),some x=>n'=n/\K .any ⟨s.env,oset s.own o (.map kk vk (P3 kk l key x)),s.nx⟩
    |_,_=>False)
   |_=>False)
  |_=>False
 |.ext (.rangeMap x)=>match ev x with
  |.map o=>(match Q9 s.own o with
   |.map kk vk m=>if kk.keyk=true/\vk.one=true then K (.box d 0) (St.make ⟨s.env,oset s.own o .dead,s.nx⟩ d (.iter kk vk m [])) else False
   |.rmap kk vk m=>if kk.keyk=true/\vk.one=true then K (.box d 0) (s.make d (.iter kk vk m [])) else False
   |_=>False)
  |_=>False
 |.ext (.nextMap x)=>match ev x with
  |.box o f=>(match Q9 s.own o with
   |.iter kk vk m dn=>if f=0/\kk.keyk=true then ((∀ r:Nat,r<m.length->r∈dn)->K (.tup [.val .bo false]) s)/\∀ r:Nat,r<m.length->r∉dn->K (.tup [.val .bo true,.any,.any]) ⟨s.env,oset s.own o (.iter kk vk m (dn++[r])),s.nx⟩ else False
   |_=>False)
  |_=>False
 |_=>False
def Z24 (q:Option Nat) (ty:Nat):Bool:=match q with|some t=>Nat.beq t ty|none=>true
def MZ (own:Own):(q:Option Nat)->(k:Kind)->List SV->Option (k.T×List Nat)
 |q,.list k,[v]=>(match v with
  |.nilS=>some ([],[])
  |.lst e=>(match Q9 own e with
   |.lst ty _ xs _=>bif Z24 q ty&&k.flat then (NB xs k).map λxs=>(xs,[e]) else none
   |_=>none)
  |.dd e .out=>(match Q9 own e with
   |.deep ty _ _ xs _ none=>bif Z24 q ty then (NB xs k).map λxs=>(xs,[e]) else none
   |_=>none)
  |_=>none)
 |_,.pair a b,l=>(match MZ own none a (l.take a.size),MZ own none b (l.drop a.size) with
  |some (x,m),some (y,n)=>some ((x,y),m++n)
  |_,_=>none)
 |_,.i ik,l=>(RG (.i ik) l).map λx=>(x,[])
 |_,.bo,l=>(RG .bo l).map λx=>(x,[])
 |_,.st,l=>(RG .st l).map λx=>(x,[])
 |_,.list _,_=>none
def Q6e:List Nat->Bool
 |[]=>true
 |a::l=>l.all (λb=>!(Nat.beq a b))&&Q6e l
mutual
def SV.stale (o:Nat):SV->SV
 |.dd o' w=>bif Nat.beq o' o then (match w with|.out=>.dd o' .out|.el i off sz=>.dd o' (.el i off sz)|_=>.any) else .dd o' w
 |.grd gs v=>.grd gs (SV.stale o v)
 |.agg l=>.agg (SVs.stale o l)
 |.tup l=>.tup (SVs.stale o l)
 |.cp l off=>.cp (SVs.stale o l) off
 |.fn f a b=>.fn f (SVs.stale o a) (SVs.stale o b)
 |.lst o'=>bif Nat.beq o' o then .any else .lst o'
 |.sub o' lo n sz=>bif Nat.beq o' o then .any else .sub o' lo n sz
 |.elp o' i off sz=>bif Nat.beq o' o then .any else .elp o' i off sz
 |.box o' off=>bif Nat.beq o' o then .any else .box o' off
 |.map o'=>bif Nat.beq o' o then .any else .map o'
 |.any=>.any
 |.val k x=>.val k x
 |.bid n c=>.bid n c
 |.nilS=>.nilS
 |.nilP=>.nilP
 |.nilM=>.nilM
 |.nilF=>.nilF
 |.rop k l i off=>.rop k l i off
 |.pf ks r cw p=>.pf ks r cw p
def SVs.stale (o:Nat):List SV->List SV
 |[]=>[]
 |s::ss=>SV.stale o s::SVs.stale o ss
end
def OB.stale (o:Nat):OB->OB
 |.cells l u=>.cells (SVs.stale o l) u
 |.stk l vals=>.stk (SVs.stale o l) vals
 |.lpf l q s=>.lpf (SVs.stale o l) q s
 |.dead=>.dead
 |.lst ty k xs nl=>.lst ty k xs nl
 |.map kk vk m=>.map kk vk m
 |.deep ty q k xs nl h=>.deep ty q k xs nl h
 |.iter kk vk m dn=>.iter kk vk m dn
 |.rmap kk vk m=>.rmap kk vk m
 |.siter l pos=>.siter l pos
 |.mapE kk vk m key n=>.mapE kk vk m key n
 |.fm ik l=>.fm ik l
def Q33 (o:Nat):Own->Own
 |[]=>[]
 |(k,b)::r=>(k,b.stale o)::Q33 o r
def St.dput (s:St) (o:Nat) (b:OB):St:=⟨SVs.stale o s.env,oset (Q33 o s.own) o b,s.nx⟩
def St.kills (s:St):List Nat->St
 |[]=>s
 |o::r=>(s.make o .dead).kills r
def gnd (C:Cx) (d:Nat) (o:VOp) (ev:Operand->SV) (s:St) (K:SV->St->Prop):Prop :=
 match o with
 |.buildSlice e z n parts=>(match QF C.kt e.ty with
  |some k=>if k.size=e.sz/\VE k z=true then (match n,parts with
   |0,[]=>K (.dd d .out) (s.make d (.deep e.ty (QF C.el e.ty) k [] false none))
   |1,[(0,x)]=>(match Nx (ev x) with
    |some l=>(match MZ s.own (QF C.el e.ty) k l with
     |some (x,mv)=>bif Q6e (d::mv) then K (.dd d .out) ((s.kills mv).make d (.deep e.ty (QF C.el e.ty) k [x] false none)) else False
     |none=>False)
    |none=>False)
   |_,_=>False) else False
  |none=>False)
 |.append e bytes x y=>(match ev x,ev y with
  |.nilS,.dd b .out=>(match Q9 s.own b with
   |.deep ty q k ys _ none=>if ty=e.ty/\k.size=e.sz then bif Q6e [d,b] then E0 [] [ys.length*bytes<=70368744177664] (K (.dd d .out) ((s.kills [b]).make d (.deep ty q k ys ys.isEmpty none))) else False else False
   |_=>False)
  |.dd o .out,.dd b .out=>(match Q9 s.own o,Q9 s.own b with
   |.deep ty q k xs nl none,.deep fT q' _k' ys _ none=>if ty=e.ty/\fT=e.ty/\k.size=e.sz/\q=q' then (match NB ys k with
    |some ys=>bif Q6e [o,b] then E0 [] [(xs.length+ys.length)*bytes<=70368744177664] (K (.dd o .out) ((s.kills [b]).make o (.deep ty q k (xs++ys) (ys.isEmpty&&nl) none))) else False
    |none=>False) else False
   |_,_=>False)
  |_,_=>False)
 |.store size a v=>(match ev a,Nx (ev v) with
  |.dd o (.el i off sz),some vs=>(match Q9 s.own o with
   |.deep ty q k xs nl h=>if off=0/\size=k.size/\sz=k.size then (match MZ s.own q k vs with
    |some (x,mv)=>bif Q6e (o::mv) then
      (match h with
      |none=>K .any ((s.kills mv).dput o (.deep ty q k (xs.set i.toNat x) nl none))
      |some j=>i.toNat=j/\K .any ((s.kills mv).dput o (.deep ty q k (xs.set i.toNat x) nl none))) else False
    |none=>False) else False
   |_=>False)
  |.dd o (.rowp kr _ i j off),some vs=>(match Q9 s.own o with
   |.deep ty q (.list k) xs nl none=>if off=0/\size=k.size/\kr=k/\k.flat=true then (match RG k vs with
    |some x=>K .any (s.dput o (.deep ty q (.list k) (xs.set i.toNat ((xs.getD i.toNat []).set j.toNat x)) nl none))
    |none=>False) else False
   |_=>False)
  |_,_=>False)
 |_=>False
def SV.thing:SV->List Nat
 |.lst o=>[o]
 |.dd o _=>[o]
 |_=>[]
def FQ (l:List SV):List Nat:=l.flatMap SV.thing
def U1 (d:Nat) (o:VOp) (ev:Operand->SV):List Nat:=d::(match o with
 |.buildSlice _ _ _ parts=>parts.flatMap λp=>(match Nx (ev p.2) with|some l=>FQ l|none=>[])
 |.append _ _ x y=>SV.thing (ev x)++SV.thing (ev y)
 |.store _ a v=>SV.thing (ev a)++(match Nx (ev v) with|some l=>FQ l|none=>[])
 |_=>[])
def O7 (C:Cx) (d:Nat) (o:VOp) (ev:Operand->SV):Bool :=
 match o with
 |.buildSlice e _ _ _=>(match QF C.kt e.ty with|some k=>!k.flat&&!(C.raw.contains d)|none=>false)
 |.makeSlice e _ _ _ _=>(match QF C.kt e.ty with|some k=>!k.flat&&!(C.raw.contains d)|none=>false)
 |.append _ _ x y=>(match ev x with
  |.dd _ _=>true
  |_=>(match ev y with|.dd _ .out=>true|_=>false))
 |.store _ a _=>(match ev a with|.dd _ _=>true|_=>false)
 |_=>false
mutual
def SV.frz (o:Nat) (k:Kind) (xs:List k.T):SV->SV
 |.lst o'=>bif Nat.beq o' o then .val (.list k) xs else .lst o'
 |.sub o' lo n sz=>bif Nat.beq o' o then .any else .sub o' lo n sz
 |.elp o' i off sz=>bif Nat.beq o' o then .any else .elp o' i off sz
 |.dd o' w=>bif Nat.beq o' o then .any else .dd o' w
 |.box o' off=>bif Nat.beq o' o then .any else .box o' off
 |.map o'=>bif Nat.beq o' o then .any else .map o'
 |.grd gs v=>.grd gs (SV.frz o k xs v)
 |.agg l=>.agg (SVs.frz o k xs l)
 |.tup l=>.tup (SVs.frz o k xs l)
 |.cp l off=>.cp (SVs.frz o k xs l) off
 |.fn f a b=>.fn f (SVs.frz o k xs a) (SVs.frz o k xs b)
 |.any=>.any
 |.val k x=>.val k x
 |.bid n c=>.bid n c
 |.nilS=>.nilS
 |.nilP=>.nilP
 |.nilM=>.nilM
 |.nilF=>.nilF
 |.rop k l i off=>.rop k l i off
 |.pf ks r cw p=>.pf ks r cw p
def SVs.frz (o:Nat) (k:Kind) (xs:List k.T):List SV->List SV
 |[]=>[]
 |s::ss=>SV.frz o k xs s::SVs.frz o k xs ss
end
def OB.frz (o:Nat) (k:Kind) (xs:List k.T):OB->OB
 |.cells l u=>.cells (SVs.frz o k xs l) u
 |.dead=>.dead
 |.lst ty k xs nl=>.lst ty k xs nl
 |.map kk vk m=>.map kk vk m
 |.stk l vals=>.stk (SVs.frz o k xs l) vals
 |.lpf l q s=>.lpf (SVs.frz o k xs l) q s
 |.deep ty q k xs nl h=>.deep ty q k xs nl h
 |.iter kk vk m dn=>.iter kk vk m dn
 |.rmap kk vk m=>.rmap kk vk m
 |.siter l pos=>.siter l pos
 |.mapE kk vk m key n=>.mapE kk vk m key n
 |.fm ik l=>.fm ik l
def Q9q (o:Nat) (k:Kind) (xs:List k.T):Own->Own
 |[]=>[]
 |(j,b)::r=>bif Nat.beq j o then Q9q o k xs r else (j,b.frz o k xs)::Q9q o k xs r
def St.frz (s:St) (o:Nat):St:=match Q9 s.own o with
 |.lst _ k xs _=>⟨SVs.frz o k xs s.env,Q9q o k xs s.own,s.nx⟩
 |_=>s
def St.frzs (s:St):List Nat->St
 |[]=>s
 |o::r=>(s.frz o).frzs r
def Tw:List SV->List Nat
 |[]=>[]
 |s::r=>(match s with|.lst o=>o::Tw r|_=>Tw r)
def Z3s (C:Cx) (d:Nat) (o:VOp) (ev:Operand->SV) (own:Own):List Nat:=match o with
 |.store _ a v=>(match ev a with
  |.elp q _ _ _=>(match Q9 own q with
   |.lst _ k _ _=>bif k.flat then [] else (match Nx (ev v) with|some l=>Tw l|none=>[])
   |_=>[])
  |.box _ _=>bif C.raw.contains 2999999 then (match Nx (ev v) with|some l=>Tw l|none=>[]) else []
  |_=>[])
 |.buildSlice e _ _ parts=>(match QF C.kt e.ty with
  |some k=>bif k.flat||!(C.raw.contains d) then [] else parts.flatMap λp=>(match Nx (ev p.2) with|some l=>Tw l|none=>[])
  |none=>[])
 |.move x=>bif C.raw.contains (2000000+d) then Tw [ev x] else []
 |_=>[]
def TX (s:St) (j:Nat) (want:Bool):Option (List Gd×St) :=
 match s.env.getD j .any with
 |.val .bo c=>some ([⟨s.nx,want,c⟩],⟨s.env.set j (.bid s.nx c),s.own,s.nx+1⟩)
 |.bid n c=>some ([⟨n,want,c⟩],s)
 |.grd gs (.val .bo c)=>some (gs++[⟨s.nx,want,c⟩],⟨s.env.set j (.grd gs (.bid s.nx c)),s.own,s.nx+1⟩)
 |.grd gs (.bid n c)=>some (gs++[⟨n,want,c⟩],s)
 |_=>none
def gqc (C:Cx) (raw:Bool) (o:VOp) (ev:Operand->SV) (own:Own):Option (List Prop×SV) :=
 match o with
 |.callF f args=>match UQ C.cs (.fn f [] []) (Rv own (args.map ev)) with
  |some (c,v,[])=>bif v.ret 0 then some ([c],v) else none
  |_=>none
 |.callV f args=>match UQ C.cs ((Rv own [ev f]).getD 0 .any) (Rv own (args.map ev)) with
  |some (c,v,[])=>bif v.ret 0 then some ([c],v) else none
  |_=>none
 |o=>gq C.kt raw o ev own
def Q39 (nt:Nat):Option (Prop×SV×List OB)->Option (Prop×SV)
 |some (c,v,bs)=>(match v,bs with
  |.lst 0,[.lst _ k xs _]=>bif k.flat&&Nat.blt 0 nt then some (c,.val (.list k) xs) else none
  |_,_=>none)
 |none=>none
def FO (C:Cx) (o:VOp) (ev:Operand->SV) (own:Own):Option (Prop×SV) :=
 match o with
 |.callF f args=>Q39 C.nt (UQ C.cs (.fn f [] []) (Rv own (args.map ev)))
 |.callV f args=>Q39 C.nt (UQ C.cs ((Rv own [ev f]).getD 0 .any) (Rv own (args.map ev)))
 |.buildSlice e z n parts=>(match QF C.kt e.ty with
  |some k=>if k.size=e.sz/\VE k z=true/\k.flat=true then (match Ou k ev parts (List.replicate n k.dflt) with
   |some xs=>some (True,.val (.list k) xs)
   |none=>none) else none
  |none=>none)
 |_=>none
def O4 (env:List SV) (x:Operand):Option Bool:=match x with
 |.tmp j=>(match env.getD j .any with
  |.grd gs v=>(match gs with
   |[]=>(match v with
    |.val k x=>(match k,x with|.bo,b=>some b|_,_=>none)
    |_=>none)
   |_=>none)
  |_=>none)
 |_=>none
def Q6o (env:List SV) (g:Option (Nat×Bool)):Option Bool:=match g with
 |none=>none
 |some (j,want)=>(match O4 env (.tmp j) with
  |some b=>some (b==want)
  |none=>none)
def Z3g (gs:List Gd) (env:List SV) (c a b:Operand):Option SV :=
 match gev gs env c with
 |.bid n t =>
  match a,b with
  |.const (.bool true),b=>(asB (gev (gs++[⟨n,false,t⟩]) env b)).map λy=>.val .bo (t||y)
  |a,.const (.bool false)=>(asB (gev (gs++[⟨n,true,t⟩]) env a)).map λx=>.val .bo (t&&x)
  |a,b=>match gev (gs++[⟨n,true,t⟩]) env a,gev (gs++[⟨n,false,t⟩]) env b with
   |.val (.i k) x,.val (.i k') y=>if k=k' then some (.val (.i k) (if t then x else y)) else none
   |.val .bo x,.val .bo y=>some (.val .bo (if t then x else y))
   |_,_=>none
 |_=>none
def Q5d (gs:List Gd) (env:List SV) (c a b:Operand):Option SV:=match O4 env c with
 |some t=>some (bif t then gev gs env a else gev gs env b)
 |none=>Z3g gs env c a b
def Q5u:VOp->Bool
 |.alloc ..|.box ..|.buildSlice ..|.makeSlice ..|.append ..|.store ..|.callF ..|.callV ..=>false
 |.ext (.makeMap)|.ext (.mapUpdate ..)|.ext (.delete ..)|.ext (.mapEntry ..)|.ext (.entryStore ..)|.ext (.copy ..)|.ext (.clear ..)|.ext (.unsafeStr ..)|.ext (.strBytes ..)|.ext (.rangeMap _)|.ext (.nextMap _)|.ext (.rangeStr _)|.ext (.nextStr _)=>false
 |_=>true
def P2:SV->SV
 |.bid _ c=>.val .bo c
 |v=>v
def Z97 (o:VOp):Option (Nat×Nat×(Nat->VOp)):=match o with
 |.indexAddrArr len size x (.tmp t)=>some (len,t,λn=>.indexAddrArr len size x (.const (.int .i64 (Int.ofNat n))))
 |.indexArr len agg size x (.tmp t)=>some (len,t,λn=>.indexArr len agg size x (.const (.int .i64 (Int.ofNat n))))
 |_=>none
def Q35 (j:Int) (f:Nat->Prop):Nat->Nat->Prop
 |0,_=>True
 |n+1,i=>(j=(i:Int)->f i)/\Q35 j f n (i+1)
def J3n (C:Cx) (o:VOper) (s:St) (K:St->Prop):Prop :=
 (match o.op with
 |.pick c a b=>match Q5d [] s.env c a b with
  |some v=>gnm C (.pick c a b) (gev [] s.env) v λv=>K (s.put o.dst v)
  |none=>False
 |op=>bif Q5u op then (match gq C.kt (C.raw.contains (o.dst.getD 0)) op (gev [] s.env) s.own with
   |some (cs,v)=>E0 [] cs (gnm C op (gev [] s.env) v λv=>K (s.put o.dst v))
   |none=>False)
  else (match op with
   |.ext .makeMap=>(match QF C.kt (1000000+o.dst.getD 0) with
    |some (.pair kk vk)=>K ((s.make (C.off+o.dst.getD 0) (.map kk vk [])).put o.dst (.map (C.off+o.dst.getD 0)))
    |some (.i ik)=>K ((s.make (C.off+o.dst.getD 0) (.fm ik [])).put o.dst (.map (C.off+o.dst.getD 0)))
    |_=>False)
   |op=>bif O7 C (o.dst.getD 0) op (gev [] s.env) then gnd C (C.off+o.dst.getD 0) op (gev [] s.env) s λv s'=>K (s'.put o.dst v) else gn C (C.off+o.dst.getD 0) op (gev [] s.env) s λv s'=>K (s'.put o.dst v)))
def J37 (C:Cx) (o:VOper) (s:St) (K:St->Prop):Prop :=
 match Z97 o.op with
 |some (len,i,f)=>(match asI (gev [] s.env (.tmp i)) with
  |some (_,j)=>0<=j/\j<(len:Int)/\Q35 j (λn=>match gq C.kt (C.raw.contains (o.dst.getD 0)) (f n) (gev [] s.env) s.own with
   |some (cs,v)=>E0 [] cs (gnm C (f n) (gev [] s.env) v λv=>K (s.put o.dst v))
   |none=>False) len 0
  |none=>False)
 |none=>J3n C o s K
def Z9n (C:Cx) (o:VOper) (s:St) (K:St->Prop):Prop :=
 match o.guard with
 |none=>J37 C o (s.frzs (Z3s C (o.dst.getD 0) o.op (gev [] s.env) s.own)) K
 |some (j,want)=>match TX s j want with
  |none=>False
  |some (gs,s)=>(match o.op with
   |.pick c a b=>match Q5d gs s.env c a b with
    |some v=>gnm C (.pick c a b) (gev gs s.env) v λv=>K (s.put o.dst (.grd gs (P2 v)))
    |none=>False
   |op=>(match gqc C (C.raw.contains (o.dst.getD 0)) op (gev gs s.env) s.own with
    |some (cs,v)=>E0 gs cs (gnm C op (gev gs s.env) v λv=>K (s.put o.dst (.grd gs (P2 v))))
    |none=>(match FO C op (gev gs s.env) s.own with
     |some (c,v)=>E0 gs [c] (gnm C op (gev gs s.env) v λv=>K ((s.make (C.off+o.dst.getD 0) .dead).put o.dst (.grd gs v)))
     |none=>False)))
def gop (C:Cx) (o:VOper) (s:St) (K:St->Prop):Prop:=match Q6o s.env o.guard with
 |some t=>bif t then Z9n C ⟨o.dst,o.op,none⟩ s K else K (s.put o.dst .any)
 |none=>Z9n C o s K
def Z4k (d:Nat) (s:St):Option St:=match s.env.getD d .any with
 |.box o off=>bif Nat.beq off 0 then (match Q9 s.own o with
  |.cells l _=>some ⟨s.env.set d (.cp l 0),oset s.own o .dead,s.nx⟩
  |_=>none) else none
 |_=>none
def Z3q (raw:List Nat) (d:Nat) (s:St):Option St:=match raw.find? (λr=>Nat.beq (r / 1000) (4000+d)) with
 |some r=>(match Q9 s.own (r % 1000) with
  |.map kk vk m=>some ⟨s.env,oset s.own (r % 1000) (.rmap kk vk m),s.nx⟩
  |_=>none)
 |none=>none
def Z9g (C:Cx) (d:Option Nat) (K:St->Prop) (s:St):Prop:=match d with
 |none=>K s
 |some d=>bif C.spl.contains d then (match asB (s.env.getD d .any) with
   |some t=>bif C.raw.contains (3000000+d) then (bif t then K (s.put (some d) (.grd [] (.val .bo true))) else K (s.put (some d) (.grd [] (.val .bo false))))
    else (t=true->K (s.put (some d) (.grd [] (.val .bo true))))/\(t=false->K (s.put (some d) (.grd [] (.val .bo false))))
   |none=>(match asI (s.env.getD d .any),C.raw.find? (λr=>Nat.beq (r / 64) (62500+d)) with
    |some (ik,x),some r=>1<=x/\x<=((r % 64:Nat):Int)/\Q35 x (λn=>K (s.put (some d) (.val (.i ik) ((n:Nat):Int)))) (r % 64) 1
    |_,_=>(match Z4k d s with
     |some s'=>K s'
     |none=>(match Z3q C.raw d s with
      |some s'=>K s'
      |none=>False))))
  else K s
def Z9q (C:Cx):List VOper->St->(St->Prop)->Prop
 |[],s,K=>K s
 |o::r,s,K=>gop C o s (Z9g C o.dst λs'=>Z9q C r s' K)
def dv (o:DOper):VOper:=⟨o.dst,o.op,o.guard⟩
def Z1u (l:List DOper):Bool:=l.all λo=>!(o.kind==2)&&!(o.op.kind==2)
def gd1 (C:Cx) (o:DOper) (s:St) (K:St->Prop):Prop :=
 match o.guard with
 |none=>(match o.op with
  |.pick c a b=>(match Q5d [] s.env c a b with
   |some v=>gnm C (.pick c a b) (gev [] s.env) v λv=>K (s.put o.dst v)
   |none=>False)
  |op=>(match gq C.kt (C.raw.contains (o.dst.getD 0)) op (gev [] s.env) s.own with
   |some (cs,v)=>E0 [] cs (gnm C op (gev [] s.env) v λv=>K (s.put o.dst v))
   |none=>False))
 |some (j,want)=>(match TX s j want with
  |none=>False
  |some (gs,s)=>(match o.op with
   |.pick c a b=>(match Q5d gs s.env c a b with
    |some v=>gnm C (.pick c a b) (gev gs s.env) v λv=>K (s.put o.dst (.grd gs (P2 v)))
    |none=>False)
   |op=>(match gq C.kt (C.raw.contains (o.dst.getD 0)) op (gev gs s.env) s.own with
    |some (cs,v)=>E0 gs cs (gnm C op (gev gs s.env) v λv=>K (s.put o.dst (.grd gs (P2 v))))
    |none=>False)))
def OB.wf:OB->Prop
 |.lst _ _ xs nl=>nl=true->xs=[]
 |_=>True
def Q7z:List OB->Prop->Prop
 |[],q=>q
 |b::r,q=>b.wf/\Q7z r q
def BI (C:Cx) (d:Nat) (f:SV) (args:List SV) (s:St) (K:List Nat->SV->St->Prop):Prop :=
 match UQ C.cs f args with
 |some (c,v,bs)=>bif v.ret bs.length&&(bs.all OB.ret&&(Nat.blt 0 C.nt&&(bs.all OB.isL&&UN v))) then c/\Q7z bs (K ((List.range bs.length).map λj=>d+j*C.nt) (v.ren d C.nt) (s.makes d C.nt 0 bs)) else False
 |none=>False
def LR:VOp->Bool
 |.alloc ..|.box ..|.buildSlice ..|.makeSlice ..=>true
 |_=>false
def Z1 (d:Nat) (o:VOp) (ev:Operand->SV):Nat:=match o with
 |.append _ _ x _=>(match ev x with|.lst q=>q|_=>d)
 |.store _ a _=>(match ev a with|.box q _=>q|.elp q _ _ _=>q|_=>d)
 |.ext (.mapUpdate _ m _ _)=>(match ev m with|.map q=>q|_=>d)
 |.ext (.delete _ m _)=>(match ev m with|.map q=>q|_=>d)
 |.ext (.mapEntry _ _ m _)=>(match ev m with|.map q=>q|_=>d)
 |.ext (.entryStore m _ _)=>(match ev m with|.map q=>q|_=>d)
 |.ext (.copy _ a _)=>(match ev a with|.lst q=>q|.sub q _ _ _=>q|_=>d)
 |.ext (.unsafeStr _ a _)=>(match ev a with|.dd q _=>q|_=>d)
 |_=>d
def OB.here:OB->Bool
 |.dead=>false
 |.stk _ _=>false
 |.deep _ _ _ _ _ _=>false
 |.iter _ _ _ _=>false
 |.rmap _ _ _=>false
 |.siter _ _=>false
 |.mapE _ _ _ _ _=>false
 |.lpf _ _ _=>false
 |.fm _ _=>false
 |_=>true
def stP:MK->Value->Bool
 |.agg [.int .i64,.int .i64],.int .i64 n=>n==0
 |_,_=>false
def GA (o:VOp) (ev:Operand->SV) (own:Own):Option Nat:=match o with
 |.load _ _ a=>(match ev a with
  |.box q _=>bif (Q9 own q).here then some (2*q) else none
  |.elp q _ _ _=>bif (Q9 own q).here then some (2*q) else none
  |_=>none)
 |.ext (.lookup mk z false x _)=>bif stP mk z then (match ev x with
  |.map q=>(match Q9 own q with|.map _ _ _=>some (2*q+1)|_=>none)
  |_=>none) else none
 |.slice _ x _ _ none=>(match ev x with
  |.lst q=>(match Q9 own q with
   |.lst _ _ _ nl=>bif nl then none else some (2*q)
   |_=>none)
  |_=>none)
 |_=>none
def EA:VOp->Bool
 |.ext (.mapEntry mk z _ _)=>stP mk z
 |_=>false
def ZO (A:List (Nat×Option Nat)) (j q:Nat):Bool:=A.all λa=>Nat.blt a.1 j||(match a.2 with|some t=>!(Nat.beq t q)|none=>false)
def L3 (A:List (Nat×Option Nat)) (j:Nat) (q:Option Nat):Bool:=match q with|some q=>ZO A j (q / 2)|none=>false
def E8 (R:List (Nat×Option Nat)) (hl t:Nat):Bool:=R.all λr=>Nat.blt r.1 hl||(match r.2 with|some q=>!(Nat.beq (q / 2) t)|none=>false)
def IM (R:List (Nat×Option Nat)) (hl t:Nat):Bool:=R.all λr=>Nat.blt r.1 hl||(match r.2 with|some q=>!(Nat.beq (q / 2) t)|none=>true)
def Z5j (R:List (Nat×Option Nat)) (hl t:Nat):Bool:=R.all λr=>Nat.blt r.1 hl||(match r.2 with|some q=>!(Nat.beq (q / 2) t)||Nat.beq (q % 2) 1|none=>false)
def Q56 (mk:Bool) (R:List (Nat×Option Nat)) (hl:Nat) (ts:List Nat):Bool:=R.all λr=>Nat.blt r.1 hl||(match r.2 with|some q=>ts.all (λt=>!(Nat.beq (q / 2) t))|none=>mk)
def Z5i (o:VOp) (ev:Operand->SV):Bool:=match o with
 |.load _ _ a=>(match ev a with|.rop _ _ _ _=>true|.cp _ _=>true|_=>false)
 |_=>false
def Q87 (s:St) (j:Nat) (want:Bool) (o:VOp):Bool:=match TX s j want with
 |some (gs,s1)=>Z5i o (gev gs s1.env)
 |none=>false
def Pc (A:List (Nat×Option Nat)) (j:Nat):Bool:=A.all λa=>Nat.blt a.1 j||a.2.isSome
def Q82 (C:Cx) (f:SV) (args:List SV):Option (List Prop×SV):=match UQ C.cs f args with
 |some (c,v,bs)=>(match v,bs with
  |.lst 0,[.lst _ k xs nl]=>bif k.flat&&Nat.blt 0 C.nt then some ([c,nl=true->xs=[]],.val (.list k) xs) else none
  |_,_=>none)
 |none=>none
def Q4g (env:List SV) (o:DOper):DOper:=match Q6o env o.guard with
 |some true=>{o with guard:=none}
 |_=>o
def Z7p (own:Own):SV->Option (List SV)
 |.box o off=>bif Nat.beq off 0 then (match Q9 own o with|.cells l _=>some l|_=>none) else none
 |.cp l off=>bif Nat.beq off 0 then some l else none
 |_=>none
def Z1x (own:Own) (j:Nat):List SV->Option Nat
 |a::_=>(match Z7p own a with
  |some l=>(match l[j]? with
   |some (.map o)=>some o
   |_=>none)
  |none=>(match a with|.map o=>some o|_=>none))
 |[]=>none
def Cx.nx (C:Cx):Cx:={C with xs:=[]}
def Wg (C:Cx):List DOper->St->Nat->Nat->List (Nat×Option Nat)->List (Nat×Option Nat)->(St->Prop)->Prop
 |[],s,_,_,_,_,K=>K s
 |o0::r,s,hl,chg,A,R,K=>match Q6o s.env o0.guard with
  |some false=>if o0.kind=2 then Wg C r (s.put o0.dst .any) (hl+1) chg A R K else Wg C r (s.put o0.dst .any) hl chg A R K
  |_=>(λo:DOper =>
  if o.kind=2 then
   (match o.op with
   |.callF f args=>(match o.guard with
    |none=>(match QF C.xs f with
     |some x=>(match QF C.xf f with
      |some j=>(match Z1x s.own j (args.map (gev [] s.env)) with
       |some t=>bif waits o.dst.toList r&&Q56 false R hl [t] then
         x (C.off+o.dst.getD 0) (args.map (gev [] s.env)) s λv s'=>Wg C r (s'.put o.dst v) (hl+1) hl ((hl-1,some t)::A) R K else False
       |none=>False)
      |none=>bif waits o.dst.toList r&&R.all (λq=>Nat.blt q.1 hl) then
       x (C.off+o.dst.getD 0) (args.map (gev [] s.env)) s λv s'=>Wg C r (s'.put o.dst v) (hl+1) hl ((hl-1,none)::A) [] K
      else BI C (C.off+o.dst.getD 0) (.fn f [] []) (Rv s.own (args.map (gev [] s.env))) s λts v s'=>Wg C r (s'.put o.dst v) (hl+1) (bif ts.isEmpty then chg else hl) (ts.map (λt=>(hl-1,some t))++A) (bif ts.isEmpty then R else R.map λr=>(r.1,none)) K)
     |none=>BI C (C.off+o.dst.getD 0) (.fn f [] []) (Rv s.own (args.map (gev [] s.env))) s λts v s'=>Wg C r (s'.put o.dst v) (hl+1) (bif ts.isEmpty then chg else hl) (ts.map (λt=>(hl-1,some t))++A) (bif ts.isEmpty then R else R.map λr=>(r.1,none)) K)
    |some (j,want)=>(match TX s j want with
     |none=>False
     |some (gs,s)=>(match gqc C false (.callF f args) (gev gs s.env) s.own with
      |some (cs,v)=>bif UN v then E0 gs cs (gnm C (.callF f args) (gev gs s.env) v λv=>Wg C r (s.put o.dst (.grd gs (P2 v))) (hl+1) chg A R K) else False
      |none=>(match Q82 C (.fn f [] []) (Rv s.own (args.map (gev gs s.env))) with
       |some (cs,v)=>E0 gs cs (Wg C r ((s.make (C.off+o.dst.getD 0) .dead).put o.dst (.grd gs v)) (hl+1) hl ((hl-1,none)::A) (R.map λr=>(r.1,none)) K)
       |none=>False))))
   |.callV f args=>(match o.guard with
    |none=>BI C (C.off+o.dst.getD 0) ((Rv s.own [gev [] s.env f]).getD 0 .any) (Rv s.own (args.map (gev [] s.env))) s λts v s'=>Wg C r (s'.put o.dst v) (hl+1) (bif ts.isEmpty then chg else hl) (ts.map (λt=>(hl-1,some t))++A) (bif ts.isEmpty then R else R.map λr=>(r.1,none)) K
    |some _=>False)
   |.ext (.rangeMap _)=>False
   |.ext (.nextMap _)=>False
   |.ext (.rangeStr _)=>False
   |.ext (.nextStr _)=>False
   |op=>(match o.guard with
    |none=>bif O7 C (o.dst.getD 0) op (gev [] s.env) then
      (bif Q56 (LR op) R hl (U1 (C.off+o.dst.getD 0) op (gev [] s.env)) then
       gnd C (C.off+o.dst.getD 0) op (gev [] s.env) s λv s'=>Wg C r (s'.put o.dst v) (hl+1) hl ((U1 (C.off+o.dst.getD 0) op (gev [] s.env)).map (λt=>(hl-1,some t))++A) R K else False)
     else bif (LR op&&IM R hl (Z1 (C.off+o.dst.getD 0) op (gev [] s.env)))||E8 R hl (Z1 (C.off+o.dst.getD 0) op (gev [] s.env))||(EA op&&Z5j R hl (Z1 (C.off+o.dst.getD 0) op (gev [] s.env))) then
      gn C (C.off+o.dst.getD 0) op (gev [] s.env) s λv s'=>Wg C r (s'.put o.dst v) (hl+1) hl ((hl-1,some (Z1 (C.off+o.dst.getD 0) op (gev [] s.env)))::A) R K else False
    |some _=>False))
  else if o.kind=1 then
   (match o.guard with
   |none=>bif Z5i o.op (gev [] s.env)&&Pc A o.kmin then gd1 C o s λs'=>Wg C r s' hl chg A R K
    else bif Nat.ble chg o.kmin||L3 A o.kmin (GA o.op (gev [] s.env) s.own) then gd1 C o s λs'=>Wg C r s' hl chg A ((o.kmax,GA o.op (gev [] s.env) s.own)::R) K else False
   |some (j,want)=>bif Q87 s j want o.op&&Pc A o.kmin then gd1 C o s λs'=>Wg C r s' hl chg A R K
    else bif Nat.ble chg o.kmin then gd1 C o s λs'=>Wg C r s' hl chg A ((o.kmax,none)::R) K else False)
  else gd1 C o s λs'=>Wg C r s' hl chg A R K) (Q4g s.env o0)
inductive Src where
 |slot (j:Nat)
 |cell (t off:Nat)
 |key (k:Nat)
structure LoopAnn where
 E:Type
 D:Type
 sl:List Nat
 vs:E->D->List SV
 own:E->D->List (Nat×Src×OB)
def Z5e:List Nat->List SV->List (Nat×SV)
 |[],_=>[]
 |j::js,[]=>(j,.any)::Z5e js []
 |j::js,v::vs=>(j,v)::Z5e js vs
def LoopAnn.st (A:LoopAnn) (p:A.E) (d:A.D):List (Nat×SV):=Z5e A.sl (A.vs p d)
def LoopP {D:Type}(F:D->(D->Prop)->Prop) (d0:D):Prop :=
 ∃ (I:D->Prop) (μ:D->Nat),I d0/\∀ d,I d->F d λd'=>I d'/\μ d'<μ d
def J4s (s:St) (mp:List (Nat×Option Nat)):Src->Option (Option Nat)
 |.slot j=>match s.env.getD j .any with
  |.lst a=>some (some a)
  |.sub a _ _ _=>some (some a)
  |.dd a _=>some (some a)
  |.box a _=>some (some a)
  |.map a=>some (some a)
  |.nilS=>some none
  |_=>none
 |.cell t off=>match QF mp t with
  |some (some a)=>(match Q9 s.own a with
   |.cells l _=>(match l.getD off .any with
    |.lst a=>some (some a)
    |.dd a _=>some (some a)
    |.box a _=>some (some a)
    |.map a=>some (some a)
    |.nilS=>some none
    |_=>none)
   |_=>none)
  |_=>none
 |.key k=>some (some k)
def Z6n (s:St):List (Nat×Src)->List (Nat×Option Nat)->Option (List (Nat×Option Nat))
 |[],mp=>some mp
 |(t,src)::r,mp=>match J4s s mp src with
  |some (some a)=>if (mp.any λp=>p.2==some a)||(QF mp t).isSome then none else Z6n s r (mp++[(t,some a)])
  |some none=>if (QF mp t).isSome then none else Z6n s r (mp++[(t,none)])
  |none=>none
def GS {k:Kind}(x:k.T) {k':Kind}(y:k'.T):Prop:=match Q7l y k with|some y=>y=x|none=>False
mutual
def SV.pure:SV->Bool
 |.lst _|.sub _ _ _ _|.elp _ _ _ _|.box _ _|.map _|.grd _ _|.bid _ _|.dd _ _=>false
 |.agg l=>SVs.pure l
 |.tup l=>SVs.pure l
 |.cp l _=>SVs.pure l
 |.fn _ a b=>SVs.pure a&&SVs.pure b
 |.any|.val _ _|.nilS|.nilP|.nilM|.nilF|.rop _ _ _ _|.pf _ _ _ _=>true
def SVs.pure:List SV->Bool
 |[]=>true
 |s::ss=>SV.pure s&&SVs.pure ss
end
mutual
def RR (mp:List (Nat×Option Nat)):SV->SV->Prop
 |.any,_=>True
 |.val k x,v=>match v with
  |.val _k' y=>GS x y
  |.bid _ c=>GS (k:=k) x (k':=.bo) c
  |.nilS=>match k,x with|.list _,x=>x=[]|_,_=>False
  |_=>False
 |.lst t,v=>match v with
  |.lst a=>if QF mp t=some (some a) then True else False
  |.nilS=>if QF mp t=some none then True else False
  |_=>False
 |.box t off,v=>match v with
  |.box a dj=>if QF mp t=some (some a)/\off=dj then True else False
  |_=>False
 |.map t,v=>match v with
  |.map a=>if QF mp t=some (some a) then True else False
  |_=>False
 |.dd t w,v=>(match w with
  |.obx c=>(match v with
   |.nilP=>c=false
   |.box a f=>if QF mp t=some (some a)/\f=0 then c=true else False
   |.dd a w'=>(match w' with|.obx c'=>if QF mp t=some (some a) then c'=c else False|_=>False)
   |_=>False)
  |.yv=>(match v with
   |.dd a w'=>(match w' with|.yv=>if QF mp t=some (some a) then True else False|_=>False)
   |_=>False)
  |.out=>(match v with
   |.dd a w'=>(match w' with|.out=>if QF mp t=some (some a) then True else False|_=>False)
   |.nilS=>if QF mp t=some none then True else False
   |_=>False)
  |_=>False)
 |.agg l,v=>match v with|.agg l'=>Nh mp l l'|_=>False
 |.tup l,v=>match v with|.tup l'=>Nh mp l l'|_=>False
 |.fn f a b,v=>match v with|.fn f' a' b'=>if f=f' then Nh mp a a'/\Nh mp b b' else False|_=>False
 |.nilS,v=>match v with|.nilS=>True|_=>False
 |.nilP,v=>match v with|.nilP=>True|_=>False
 |.nilM,v=>match v with|.nilM=>True|_=>False
 |.nilF,v=>match v with|.nilF=>True|_=>False
 |.cp l off,v=>bif SVs.pure l then .cp l off=v/\SVs.pure l=true else match v with|.cp l' dj=>if off=dj then Nh mp l l' else False|_=>False
 |.pf ks r cw p,v=>.pf ks r cw p=v
 |.sub t lo n sz,v=>match v with
  |.sub a uu n' uv=>if QF mp t=some (some a) then uu=lo/\n'=n/\uv=sz else False
  |_=>False
 |.elp _ _ _ _,_|.grd _ _,_|.bid _ _,_|.rop _ _ _ _,_=>False
def Nh (mp:List (Nat×Option Nat)):List SV->List SV->Prop
 |[],l=>l=[]
 |s::ss,l=>match l with|v::vs=>RR mp s v/\Nh mp ss vs|[]=>False
end
def Q7g (s:St) (mp:List (Nat×Option Nat)) (t:Nat) (b:OB):Prop :=
 match QF mp t with
 |some (some a)=>(match b,Q9 s.own a with
  |.dead,_=>True
  |.lst ty k xs nl,.lst fT k' cy kg=>if ty=fT then GS (k:=.list k) xs (k':=.list k') cy/\kg=nl else False
  |.cells l u,.cells l' u'=>if u=u' then Nh mp l l' else False
  |.map kk vk m,.map gI jd m'=>if kk=gI then GS (k:=.list (.pair kk vk)) m (k':=.list (.pair gI jd)) m' else False
  |.stk l vals,.stk l' ki=>vals=ki/\Nh mp l l'
  |.lpf l q u,.lpf l' q' u'=>(match u,u' with|.rdy,.rdy=>q=q'/\Nh mp l l'|.busy,.busy=>q=q'/\Nh mp l l'|_,_=>False)
  |.iter kk vk m dn,.iter gI jd m' si=>if kk=gI then GS (k:=.list (.pair kk vk)) m (k':=.list (.pair gI jd)) m'/\si=dn else False
  |.rmap kk vk m,.rmap gI jd m'=>if kk=gI then GS (k:=.list (.pair kk vk)) m (k':=.list (.pair gI jd)) m' else False
  |.siter l pos,.siter l' pos'=>l=l'/\pos=pos'
  |.deep ty q k xs nl h,.deep fT q' k' cy kg h'=>if ty=fT/\q=q' then (match h,h' with|none,none=>GS (k:=.list k) xs (k':=.list k') cy/\kg=nl|_,_=>False) else False
  |.fm ik l,.fm g_ l'=>if ik=g_/\l=l' then True else False
  |_,_=>False)
 |some none=>(match b with
  |.lst _ _ xs nl=>xs=[]/\nl=true
  |.deep _ _ _ xs nl h=>(match h with|none=>xs=[]/\nl=true|some _=>False)
  |_=>False)
 |none=>False
def gmatch (s:St) (st:List (Nat×SV)) (ow:List (Nat×Src×OB)):Prop :=
 match Z6n s (ow.map λp=>(p.1,p.2.1)) [] with
 |some mp=>slots mp st/\obs mp ow
 |none=>False
 where
 slots (mp:List (Nat×Option Nat)):List (Nat×SV)->Prop
  |[]=>True
  |(j,v)::r=>RR mp v (s.env.getD j .any)/\slots mp r
 obs (mp:List (Nat×Option Nat)):List (Nat×Src×OB)->Prop
  |[]=>True
  |(t,_,b)::r=>Q7g s mp t b/\obs mp r
def Zq (len:Nat) (st:List (Nat×SV)) (ow:List (Nat×Src×OB)):St :=
 ⟨st.foldl (λe p=>e.set p.1 p.2) (List.replicate len .any),ow.foldl (λo p=>oset o p.1 p.2.2) [],0⟩
def J58:SV->SV
 |.bid _ c=>.val .bo c
 |.grd _ _=>.any
 |.elp _ _ _ _=>.any
 |.rop _ _ _ _=>.any
 |.dd o w=>(match w with|.out=>.dd o .out|.obx c=>.dd o (.obx c)|.yv=>.dd o .yv|_=>.any)
 |v=>v
def J1k (jn:List Nat) (s:St):List (Nat×SV):=jn.map λj=>(j,J58 (s.env.getD j .any))
def Z73:Own->List (Nat×Src×OB)
 |[]=>[]
 |(t,b)::r=>(match b with|.dead=>Z73 r|b=>(t,.key t,b)::Z73 r)
def T4 (n:Nat) (s:St) (st:List (Nat×SV)) (ow:List (Nat×Src×OB)):Prop:=bif Nat.beq s.env.length n then gmatch s st ow else False
def Z3n (C:Cx):List (List DOper)->St->List (Nat×SV)->List (Nat×Src×OB)->Prop->Prop
 |[],_,_,_,Q=>Q
 |l::ls,s,st,ow,Q=>(Wg C.nx l s 1 0 [] [] λs'=>T4 s.env.length s' st ow)/\Z3n C ls s st ow Q
def Fk (C:Cx):List DSeg->St->(St->Prop)->Prop
 |[],s,K=>K s
 |.one o::r,s,K=>gop C o s (Z9g C o.dst λs'=>Fk C r s' K)
 |.alts [l]::r,s,K=>bif Z1u l then Z9q C (l.map dv) s λs'=>Fk C r s' K else bif l.all (λo=>o.kind==o.op.kind) then Wg C l s 1 0 [] [] λs'=>Fk C r s' K else False
 |.alts (l::l2::ls)::r,s,K=>bif (l::l2::ls).all (λl=>l.all λo=>o.kind==o.op.kind) then
   Wg C.nx l s 1 0 [] [] λs0=>T4 s.env.length s0 (J1k C.jn s0) (Z73 s0.own)/\Z3n C (l2::ls) s (J1k C.jn s0) (Z73 s0.own) (Fk C r (Zq s.env.length (J1k C.jn s0) (Z73 s0.own)) K) else False
 |.alts []::_,_,_=>False
def Q9b (R:St->Prop) (K:Exit->St->Prop):Exit->St->Prop
 |.normal,s=>R s
 |e,s=>K e s
def Q7k (id:Nat) (K:Exit->St->Prop):Exit->St->Prop
 |.exit ia,s=>if ia=id then K .normal s else K (.exit ia) s
 |e,s=>K e s
def J2e:Own->Bool
 |[]=>true
 |(_,b)::r=>(match b with|.lpf _ _ .ret=>false|.lpf _ _ (.exit _)=>false|_=>true)&&J2e r
def Z21 (A:LoopAnn) (p:A.E) (next:A.D->Prop) (K:Exit->St->Prop):Exit->St->Prop
 |.normal,s=>bif J2e s.own then ∃ d,gmatch s (A.st p d) (A.own p d)/\next d else False
 |e,s=>K e s
def J3v {D:Type}(F:(D->Prop)->Prop) (iM:D->Prop):Prop:=∃ I:D->Prop,F I/\∀ d,I d->iM d
def Z9y (L:List (Nat×LoopAnn)) (c:Operand):Option LoopAnn:=match c with
 |.tmp j=>QF L (3000000+j)
 |_=>none
def Z4c (n:Nat) (A:LoopAnn) (p:A.E) (next:A.D->Prop) (K:Exit->St->Prop):Exit->St->Prop
 |.normal,s=>∃ d,T4 n s (A.st p d) (A.own p d)/\next d
 |e,s=>K e s
def Z6j {D:Type}(m:Nat) (F:Nat->D->(D->Prop)->Prop) (iM:D->Prop) (d0:D):Prop :=
 ∃ I:Nat->D->Prop,I 0 d0/\(∀ k d,k<m->I k d->F k d λd'=>I (k+1) d')/\∀ d,I m d->iM d
def Z3i:St->List SV->Option (St×List SV)
 |s,[]=>some (s,[])
 |s,v::vs=>match v with
  |.box o 0=>(match Q9 s.own o with
   |.cells l _=>bif SVs.pure l then (match Z3i ⟨s.env,oset s.own o .dead,s.nx⟩ vs with|some (s',r)=>some (s',.cp l 0::r)|none=>none) else none
   |_=>none)
  |v=>bif v.pure then (match Z3i s vs with|some (s',r)=>some (s',v::r)|none=>none) else none
def Q08 (key:Nat) (vals:List Value) (s:St):St:=s.make key (.stk (SVs.kill key s.env) vals)
def HV:List SV->List Nat->List SV->List SV
 |env,p::ps,v::vs=>HV (env.set p v) ps vs
 |env,_,_=>env
def Q7b (key:Nat) (A:LoopAnn) (p:A.E) (vals:List Value) (next:A.D->Prop) (K:Exit->St->Prop) (e:Exit) (s:St):Prop :=
 match Q9 s.own key with
 |.stk l vs=>vs=vals/\(match e with
  |.normal=>∃ d,gmatch ⟨l,s.own,s.nx⟩ (A.st p d) (A.own p d)/\next d
  |.ret=>K .ret ⟨l,s.own,s.nx⟩
  |.exit id=>K (.exit id) ⟨l,s.own,s.nx⟩
  |_=>False)
 |_=>False
def J3e (o:Nat) (q:LpD) (s:St):St:=s.make o (.lpf (SVs.kill o s.env) q .rdy)
def gyK (o aJ:Nat) (gp:List Value) (q:LpD) (K:SV->St->Prop) (e:Exit) (s:St):Prop :=
 match Q9 s.own aJ,Q9 s.own o with
 |.stk l2 kj,.lpf l q' u=>(match u with
  |.busy=>kj=gp/\q'=q/\(match e with
   |.normal=>K (.val .bo true) ⟨l2,oset (oset s.own aJ .dead) o (.lpf l q' .rdy),s.nx⟩
   |.ret=>K (.val .bo false) ⟨l2,oset (oset s.own aJ .dead) o (.lpf l q' .ret),s.nx⟩
   |.exit id=>K (.val .bo false) ⟨l2,oset (oset s.own aJ .dead) o (.lpf l q' (.exit id)),s.nx⟩
   |_=>False)
  |_=>False)
 |_,_=>False
def Z4h (o:Nat) (q:LpD) (K:Exit->St->Prop) (s:St):Prop :=
 match Q9 s.own o with
 |.lpf l q' u=>(match u with
  |.busy=>False
  |.rdy=>q'=q/\K .normal ⟨l,oset s.own o .dead,s.nx⟩
  |.ret=>q'=q/\K .ret ⟨l,oset s.own o .dead,s.nx⟩
  |.exit id=>q'=q/\K (.exit id) ⟨l,oset s.own o .dead,s.nx⟩)
 |_=>False
def Q8t (o aJ np:Nat) (q:LpD) (W:(Exit->St->Prop)->St->Prop) (ps:List Nat):YSp:=λargs s K =>
 match Q9 s.own o with
 |.lpf l q' u=>(match u with
  |.rdy=>bif Nat.beq args.length np then q'=q/\∀ gp,W (gyK o aJ gp q K) ⟨HV (SVs.kill aJ l) ps (SVs.kill aJ args),oset (Q08 aJ gp s).own o (.lpf (SVs.kill aJ l) q' .busy),s.nx⟩ else False
  |_=>False)
 |_=>False
def gwp (C:Cx) (L:List (Nat×LoopAnn)):VCode->Nat->(Exit->St->Prop)->St->Prop
 |.skip,_,K,s=>K .normal s
 |.region ops,_,K,s=>Z9q C ops s λs'=>K .normal s'
 |.regionD aT,_,K,s=>Fk C aT s λs'=>K .normal s'
 |.seq a b,n,K,s=>gwp C L a n (Q9b (λs'=>gwp C L b n K s') K) s
 |.cond c a b,n,K,s=>match O4 s.env c with
  |some t=>bif t then gwp C L a n K s else gwp C L b n K s
  |none=>(match asB (gev [] s.env c) with
   |some t=>(match Z9y L c with
    |some A=>∃ p:A.E,J3v (λnext=>(t=true->gwp C L a n (Z4c s.env.length A p next K) s)/\(t=false->gwp C L b n (Z4c s.env.length A p next K) s)) (λd=>K .normal (Zq s.env.length (A.st p d) (A.own p d)))
    |none=>(t=true->gwp C L a n K s)/\(t=false->gwp C L b n K s))
   |none=>False)
 |.block id b,_,K,s=>gwp C L b id (Q7k id K) s
 |.loop b,n,K,s=>match QF L n with
  |some A=>∃ (p:A.E) (d0:A.D),gmatch s (A.st p d0) (A.own p d0)/\LoopP (λd next=>gwp C L b n (Z21 A p next K) (Zq s.env.length (A.st p d) (A.own p d))) d0
  |none=>False
 |.rangeF g ps a b,n,K,s=>match gev [] s.env g with
  |.fn f first di=>(match QF C.iy f with
   |some x=>∀ q:LpD,x (C.off+2000000+n) (SVs.kill (C.off+2000000+n) first++(.dd (C.off+2000000+n) .yv::SVs.kill (C.off+2000000+n) di))
     (C.off+2000000+n,Q8t (C.off+2000000+n) (100000*(C.off+2000000+n+1)-1) ps.length q (λK' s'=>gwp C L a n (Q9b (λs3=>gwp C L b n K' s3) λ_ _=>False) s') ps)
     (J3e (C.off+2000000+n) q s) (Z4h (C.off+2000000+n) q K)
   |none=>(match first with
   |[]=>(match QF C.it f,Z3i s di,QF L n with
    |some it,some (s1,cC),some A=>(match it cC with
     |some (c,m,ar,xs)=>(bif Nat.beq ps.length ar then c/\∃ (p:A.E) (d0:A.D),gmatch s1 (A.st p d0) (A.own p d0) /\
      Z6j m (λk d next=>∀ vals,gwp C L a n (Q9b (λs3=>gwp C L b n (Q7b (2000000+n) A p vals next K) s3) λ_ _=>False)
       ⟨HV (Q08 (2000000+n) vals (Zq s.env.length (A.st p d) (A.own p d))).env ps (xs k),(Q08 (2000000+n) vals (Zq s.env.length (A.st p d) (A.own p d))).own,0⟩)
       (λd=>K .normal (Zq s.env.length (A.st p d) (A.own p d))) d0 else False)
     |none=>False)
    |_,_,_=>False)
   |_=>False))
  |_=>False
 |.exit id,_,K,s=>K (.exit id) s
 |.ret,_,K,s=>K .ret s
 |.bad,_,_,_=>False
section
variable {P:Program}
theorem Zn {a b:Nat}(h:¬ a=b):Nat.beq a b=false:=by
 grind [Nat.eq_of_beq_eq_true]
theorem PfRel.mono {B B':Heap}(hB:B.Le B') {ks:List Kind}{r:Kind}{cw:AT ks->Prop}{p:AT ks->r.T}{v:Value}(h:PfRel P B ks r cw p v):PfRel P B' ks r cw p v:=by obtain⟨g,first,cap,hv,hx⟩:=h;exact⟨g,first,cap,hv,λx hd U vs hs ha=>hx x hd U vs (hB.trans hs) ha⟩
theorem Q96 {tb tb':Nat->Option Bool}(ht:∀ n c,tb n=some c->tb' n=some c) {v:SV}(h:gtb tb v):gtb tb' v:=by cases v<;>first|trivial|exact ht _ _ h
theorem Q9f {tb tb':Nat->Option Bool}{o:Nat}(ht:∀ n c,tb n=some c->tb' n=some c) {v:SV}(h:gtb tb v):gtb tb' (v.kill o):=by
 cases v
 case bid n c=>exact ht _ _ h
 all_goals (simp only[SV.kill];first|trivial|(split<;>trivial)|(cases Nat.beq _ _<;>trivial))
mutual
theorem SR.upd {B B':Heap}{pl pl':Nat->Value}{tb tb':Nat->Option Bool}{o:Nat}(hB:B.Le B') (ht:∀ n c,tb n=some c->tb' n=some c) (hp:∀ d,d≠o->pl' d=pl d) :
  ∀ (s:SV) (v:Value),SR P B pl tb s v->SR P B' pl' tb' (s.kill o) v
 |.any,_,_=>trivial
 |.val k x,v,h=>by simp only[SV.kill,SR] at h |-;exact KC.mono hB h
 |.bid n c,v,h=>by simp only[SV.kill,SR] at h |-;exact⟨h.1,ht _ _ h.2⟩
 |.grd gs s,v,h=>by simp only[SV.kill,SR] at h |-;exact⟨⟨λg hg=>ht _ _ (h.1.1 g hg),Q9f ht h.1.2⟩,λhg=>SR.upd hB ht hp s v (h.2.1 hg),h.2.2⟩
 |.nilS,v,h=>h
 |.nilP,v,h=>h
 |.nilM,v,h=>h
 |.nilF,v,h=>h
 |.lst o',v,h=>by
  by_cases e:o'=o
  .subst e;simp[SV.kill,SR]
  .simp only[SV.kill,Zn e,cond_false];simp only[SR] at h |-;rw[hp _ e];exact h
 |.sub o' lo n sz,v,h=>by
  by_cases e:o'=o
  .subst e;simp[SV.kill,SR]
  .simp only[SV.kill,Zn e,cond_false];simp only[SR] at h |-;rw[hp _ e];exact h
 |.elp o' i off sz,v,h=>by
  by_cases e:o'=o
  .subst e;simp[SV.kill,SR]
  .simp only[SV.kill,Zn e,cond_false];simp only[SR] at h |-;rw[hp _ e];exact h
 |.box o' off,v,h=>by
  by_cases e:o'=o
  .subst e;simp[SV.kill,SR]
  .simp only[SV.kill,Zn e,cond_false];simp only[SR] at h |-;rw[hp _ e];exact h
 |.map o',v,h=>by
  by_cases e:o'=o
  .subst e;simp[SV.kill,SR]
  .simp only[SV.kill,Zn e,cond_false];simp only[SR] at h |-;rw[hp _ e];exact h
 |.dd o' w,v,h=>by
  by_cases e:o'=o
  .subst e;simp[SV.kill,SR]
  .simp only[SV.kill,Zn e,cond_false];simp only[SR] at h |-;rw[hp _ e];exact h
 |.rop k l i off,v,h=>by simp only[SV.kill,SR] at h |-;obtain⟨b,o,c,e,wr,t,h1,h2,h3,h4,h5,h6⟩:=h;exact⟨b,o,c,e,wr,t,h1,h2,hB.2 _ _ h3,h4,h5,h6.mono λ_ _=>KC.mono hB⟩
 |.cp l off,v,h=>by simp only[SV.kill,SR] at h |-;obtain⟨b,c,e,wr,t,h1,h2,h3⟩:=h;exact⟨b,c,e,wr,t,hB.2 _ _ h1,h2,SRs.upd hB ht hp l c h3⟩
 |.agg l,v,h=>by simp only[SV.kill,SR] at h |-;obtain⟨cs,h1,h2⟩:=h;exact⟨cs,h1,SRs.upd hB ht hp l cs h2⟩
 |.tup l,v,h=>by simp only[SV.kill,SR] at h |-;obtain⟨cs,h1,h2⟩:=h;exact⟨cs,h1,SRs.upd hB ht hp l cs h2⟩
 |.fn f a b,v,h=>by simp only[SV.kill,SR] at h |-;obtain⟨x,y,h1,h2,h3⟩:=h;exact⟨x,y,h1,SRs.upd hB ht hp a x h2,SRs.upd hB ht hp b y h3⟩
 |.pf ks r cw p,v,h=>by simp only[SV.kill,SR] at h |-;exact h.mono hB
theorem SRs.upd {B B':Heap}{pl pl':Nat->Value}{tb tb':Nat->Option Bool}{o:Nat}(hB:B.Le B') (ht:∀ n c,tb n=some c->tb' n=some c) (hp:∀ d,d≠o->pl' d=pl d) :
  ∀ (s:List SV) (v:List Value),SRs P B pl tb s v->SRs P B' pl' tb' (SVs.kill o s) v
 |[],v,h=>h
 |s::ss,v,h=>by simp only[SVs.kill,SRs] at h |-;obtain⟨x,y,h1,h2,h3⟩:=h;exact⟨x,y,h1,SR.upd hB ht hp s x h2,SRs.upd hB ht hp ss y h3⟩
end
mutual
theorem SR.mono {B B':Heap}{pl:Nat->Value}{tb tb':Nat->Option Bool}(hB:B.Le B') (ht:∀ n c,tb n=some c->tb' n=some c) :
  ∀ (s:SV) (v:Value),SR P B pl tb s v->SR P B' pl tb' s v
 |.any,_,_=>trivial
 |.val k x,v,h=>by simp only[SR] at h |-;exact KC.mono hB h
 |.bid n c,v,h=>by simp only[SR] at h |-;exact⟨h.1,ht _ _ h.2⟩
 |.grd gs s,v,h=>by simp only[SR] at h |-;exact⟨⟨λg hg=>ht _ _ (h.1.1 g hg),Q96 ht h.1.2⟩,λhg=>SR.mono hB ht s v (h.2.1 hg),h.2.2⟩
 |.nilS,v,h|.nilP,v,h|.nilM,v,h|.nilF,v,h=>by simp only[SR] at h |-;exact h
 |.lst _,v,h|.sub _ _ _ _,v,h|.elp _ _ _ _,v,h|.box _ _,v,h|.map _,v,h|.dd _ _,v,h=>by simp only[SR] at h |-;exact h
 |.rop k l i off,v,h=>by simp only[SR] at h |-;obtain⟨b,o,c,e,wr,t,h1,h2,h3,h4,h5,h6⟩:=h;exact⟨b,o,c,e,wr,t,h1,h2,hB.2 _ _ h3,h4,h5,h6.mono λ_ _=>KC.mono hB⟩
 |.cp l off,v,h=>by simp only[SR] at h |-;obtain⟨b,c,e,wr,t,h1,h2,h3⟩:=h;exact⟨b,c,e,wr,t,hB.2 _ _ h1,h2,SRs.mono hB ht l c h3⟩
 |.agg l,v,h=>by simp only[SR] at h |-;obtain⟨cs,h1,h2⟩:=h;exact⟨cs,h1,SRs.mono hB ht l cs h2⟩
 |.tup l,v,h=>by simp only[SR] at h |-;obtain⟨cs,h1,h2⟩:=h;exact⟨cs,h1,SRs.mono hB ht l cs h2⟩
 |.fn f a b,v,h=>by simp only[SR] at h |-;obtain⟨x,y,h1,h2,h3⟩:=h;exact⟨x,y,h1,SRs.mono hB ht a x h2,SRs.mono hB ht b y h3⟩
 |.pf ks r cw p,v,h=>by simp only[SR] at h |-;exact h.mono hB
theorem SRs.mono {B B':Heap}{pl:Nat->Value}{tb tb':Nat->Option Bool}(hB:B.Le B') (ht:∀ n c,tb n=some c->tb' n=some c) :
  ∀ (s:List SV) (v:List Value),SRs P B pl tb s v->SRs P B' pl tb' s v
 |[],v,h=>h
 |s::ss,v,h=>by simp only[SRs] at h |-;obtain⟨x,y,h1,h2,h3⟩:=h;exact⟨x,y,h1,SR.mono hB ht s x h2,SRs.mono hB ht ss y h3⟩
end
mutual
theorem SR.frz {B:Heap}{pl:Nat->Value}{tb:Nat->Option Bool}{o:Nat}{k:Kind}{xs:List k.T}(hk:KC B (.list k) xs [pl o]) :
  ∀ (s:SV) (v:Value),SR P B pl tb s v->SR P B pl tb (s.frz o k xs) v
 |.any,_,_=>trivial
 |.val k' x,v,h=>by simp only[SV.frz];exact h
 |.bid n c,v,h=>by simp only[SV.frz];exact h
 |.grd gs s,v,h=>by simp only[SV.frz,SR] at h |-;refine⟨⟨h.1.1,?_⟩,λhg=>SR.frz hk s v (h.2.1 hg),h.2.2⟩;have h2:=h.1.2;cases s<;>first|exact h2|trivial|(simp only[SV.frz];cases Nat.beq _ _<;>trivial)
 |.nilS,v,h|.nilP,v,h|.nilM,v,h|.nilF,v,h=>h
 |.lst o',v,h=>by
  by_cases e:o'=o
  .subst e;simp only[SV.frz,Nat.beq_refl,ze];simp only[SR] at h |-;rw[h.1];exact hk
  .simp only[SV.frz,Zn e,cond_false];exact h
 |.sub o' lo n sz,v,h=>by
  simp only[SV.frz];cases Nat.beq o' o with
  |true=>trivial
  |false=>exact h
 |.elp o' i off sz,v,h=>by
  simp only[SV.frz];cases Nat.beq o' o with
  |true=>trivial
  |false=>exact h
 |.box o' off,v,h=>by
  simp only[SV.frz];cases Nat.beq o' o with
  |true=>trivial
  |false=>exact h
 |.map o',v,h=>by
  simp only[SV.frz];cases Nat.beq o' o with
  |true=>trivial
  |false=>exact h
 |.dd o' w,v,h=>by
  simp only[SV.frz];cases Nat.beq o' o with
  |true=>trivial
  |false=>exact h
 |.rop k l i off,v,h=>by simp only[SV.frz];exact h
 |.cp l off,v,h=>by simp only[SV.frz,SR] at h |-;obtain⟨b,c,e,wr,t,h1,h2,h3⟩:=h;exact⟨b,c,e,wr,t,h1,h2,SRs.frz hk l c h3⟩
 |.agg l,v,h=>by simp only[SV.frz,SR] at h |-;obtain⟨cs,h1,h2⟩:=h;exact⟨cs,h1,SRs.frz hk l cs h2⟩
 |.tup l,v,h=>by simp only[SV.frz,SR] at h |-;obtain⟨cs,h1,h2⟩:=h;exact⟨cs,h1,SRs.frz hk l cs h2⟩
 |.fn f a b,v,h=>by simp only[SV.frz,SR] at h |-;obtain⟨x,y,h1,h2,h3⟩:=h;exact⟨x,y,h1,SRs.frz hk a x h2,SRs.frz hk b y h3⟩
 |.pf ks r cw p,v,h=>by simp only[SV.frz];exact h
theorem SRs.frz {B:Heap}{pl:Nat->Value}{tb:Nat->Option Bool}{o:Nat}{k:Kind}{xs:List k.T}(hk:KC B (.list k) xs [pl o]) :
  ∀ (s:List SV) (v:List Value),SRs P B pl tb s v->SRs P B pl tb (SVs.frz o k xs s) v
 |[],v,h=>h
 |s::ss,v,h=>by simp only[SVs.frz,SRs] at h |-;obtain⟨x,y,h1,h2,h3⟩:=h;exact⟨x,y,h1,SR.frz hk s x h2,SRs.frz hk ss y h3⟩
end
theorem SRs.length {B:Heap}{pl:Nat->Value}{tb:Nat->Option Bool}:∀ {s:List SV}{v:List Value},SRs P B pl tb s v->s.length=v.length
 |[],v,h=>by simp only[SRs] at h;subst h;rfl
 |s::ss,v,h=>by simp only[SRs] at h;obtain⟨x,y,rfl,_,h3⟩:=h;simp[SRs.length h3]
theorem SRs.get {B:Heap}{pl:Nat->Value}{tb:Nat->Option Bool}:∀ {s:List SV}{v:List Value},SRs P B pl tb s v->∀ {i:Nat}{a:SV},s[i]?=some a->∃ c,v[i]?=some c/\SR P B pl tb a c
 |[],v,h,i,a,hi=>by simp at hi
 |s::ss,v,h,i,a,hi=>by
  simp only[SRs] at h;obtain⟨x,y,rfl,h2,h3⟩:=h;cases i with
  |zero=>simp at hi;subst hi;exact⟨x,rfl,h2⟩
  |succ i=>simp at hi;simpa using SRs.get h3 hi
theorem SRs.of {B:Heap}{pl:Nat->Value}{tb:Nat->Option Bool}:∀ {s:List SV}{v:List Value},s.length=v.length->(∀ (i:Nat) (a:SV) (c:Value),s[i]?=some a->v[i]?=some c->SR P B pl tb a c)->SRs P B pl tb s v
 |[],v,hl,_=>by simp only[SRs];grind
 |s::ss,[],hl,_=>by simp at hl
 |s::ss,x::y,hl,h=>by simp only[SRs];exact⟨x,y,rfl,h 0 s x rfl rfl,SRs.of (by simpa using hl) λi a c ha hc=>h (i+1) a c (by simpa using ha) (by simpa using hc)⟩
theorem SRs.getD {B:Heap}{pl:Nat->Value}{tb:Nat->Option Bool}{s:List SV}{v:List Value}(h:SRs P B pl tb s v) (i:Nat) (d:Value):SR P B pl tb (s.getD i .any) (v.getD i d):=by
 by_cases hi:i<s.length
 .obtain⟨c,h1,h2⟩:=h.get (z8 hi);simp_all
 .rw[zj,x7 (by omega)];simp[SR]
theorem SRs.set {B:Heap}{pl:Nat->Value}{tb:Nat->Option Bool}{s:List SV}{v:List Value}(h:SRs P B pl tb s v) (i:Nat) {a:SV}{c:Value}(ha:SR P B pl tb a c):SRs P B pl tb (s.set i a) (v.set i c):=by
 refine SRs.of (by simp[h.length]) λj a' c' h1 h2=>?_;rw[xy] at h1 h2;by_cases cT:i=j
 .simp_all
 .simp only[cT,if_false] at h1 h2;obtain⟨c,h3,h4⟩:=h.get h1;simp_all
theorem SRs.append {B:Heap}{pl:Nat->Value}{tb:Nat->Option Bool}:∀ {s:List SV}{v:List Value}{s':List SV}{v':List Value},SRs P B pl tb s v->SRs P B pl tb s' v'->SRs P B pl tb (s++s') (v++v')
 |[],v,s',v',h,h'=>by simp only[SRs] at h;subst h;exact h'
 |s::ss,v,s',v',h,h'=>by simp only[SRs,xq] at h |-;obtain⟨x,y,rfl,h2,h3⟩:=h;exact⟨x,y++v',rfl,h2,SRs.append h3 h'⟩
theorem SRs.take {B:Heap}{pl:Nat->Value}{tb:Nat->Option Bool}:∀ {s:List SV}{v:List Value},SRs P B pl tb s v->∀ n,SRs P B pl tb (s.take n) (v.take n)
 |[],v,h,n=>by simp only[SRs] at h;subst h;simp[SRs]
 |s::ss,v,h,0=>by simp[SRs]
 |s::ss,v,h,n+1=>by simp only[SRs] at h;obtain⟨x,y,rfl,h2,h3⟩:=h;simp only[y6,SRs];exact⟨x,_,rfl,h2,SRs.take h3 n⟩
theorem SRs.drop {B:Heap}{pl:Nat->Value}{tb:Nat->Option Bool}:∀ {s:List SV}{v:List Value},SRs P B pl tb s v->∀ n,SRs P B pl tb (s.drop n) (v.drop n)
 |[],v,h,n=>by simp only[SRs] at h;subst h;simp[SRs]
 |s::ss,v,h,0=>by simpa using h
 |s::ss,v,h,n+1=>by simp only[SRs] at h;obtain⟨x,y,rfl,h2,h3⟩:=h;simpa using SRs.drop h3 n
theorem SRs.map {B:Heap}{pl:Nat->Value}{tb:Nat->Option Bool}{α:Type}{f:α->SV}{g:α->Value}:∀ {l:List α},(∀ x∈l,SR P B pl tb (f x) (g x))->SRs P B pl tb (l.map f) (l.map g)
 |[],_=>by simp[SRs]
 |x::l,h=>by simp only[zO,SRs];exact⟨_,_,rfl,h x (by simp),SRs.map λy hy=>h y (by simp[hy])⟩
def OB.live:OB->Bool
 |.dead=>false
 |.stk _ _=>false
 |.lpf _ _ s=>s.live
 |.rmap _ _ _=>false
 |_=>true
def oid:Value->Option Nat
 |.slice (some a) _ _=>some a.block
 |.pointer (some a)=>some a.block
 |.map m=>m
 |_=>none
def Oid (p:Value) (i:Nat):Prop:=match p with
 |.tuple l=>∃ b,(W4 (.tuple l)).get i=some b
 |v=>oid v=some i
theorem Tg {p:Value}{i:Nat}(h:oid p=some i):Oid p i:=by cases p<;>first|exact h|cases h
theorem Q7s {p:Value}{n i:Nat}(hp:oid p=some n) (hi:Oid p i):i=n:=by cases p<;>first|exact osj (hi.symm.trans hp)|cases hp
def RowsH {α:Type}(R:α->List Value->List Nat->Prop) (sz:Nat) (h:Option Nat):Nat->List α->List Value->List Nat->Prop
 |_,[],cs,is=>cs=[]/\is=[]
 |j,x::xs,cs,is=>∃ c cs' i1 i2,cs=c++cs'/\is=i1++i2/\(if h=some j then c.length=sz/\i1=[] else R x c i1)/\RowsH R sz h (j+1) xs cs' i2
def DO (H:Heap) (ty:Nat) (q:Option Nat) (k:Kind) (xs:List k.T) (h:Option Nat) (v:Value) (is:List Nat):Prop :=
 (xs=[]/\v=.slice none 0 0/\is=[])\/∃ i cap c t js,v=.slice (some ⟨i,0,none⟩) xs.length cap/\is=i::js/\xs.length<=cap/\H.get i=some (.cells c ⟨k.size,ty⟩ true t)/\cap*k.size<=c.length /\
  RowsH (KO H q k) k.size h 0 xs (c.take (xs.length*k.size)) js
def DP (U:Heap) (p:Value) (ty:Nat) (q:Option Nat) (k:Kind) (xs:List k.T) (nl:Bool) (h:Option Nat):Prop :=
 ∃ is,(∀ i,Oid p i<->∃ b,(W4 p).get i=some b)/\is.Nodup/\DO (W4 p) ty q k xs h (phd p) is/\(∀ i,(∃ b,(W4 p).get i=some b)<->i∈is)/\(∀ i b,(W4 p).get i=some b->U.get i=some b)/\(nl=true<->phd p=.slice none 0 0)
theorem DP.mono {U U':Heap}{p:Value}{ty:Nat}{q:Option Nat}{k:Kind}{xs:List k.T}{nl:Bool}{h:Option Nat}(hd:DP U p ty q k xs nl h) (hg:∀ i,Oid p i->U'.get i=U.get i):DP U' p ty q k xs nl h:=by obtain⟨is,hO,h1,h2,h3,h4,h5⟩:=hd;exact⟨is,hO,h1,h2,h3,(by grind),h5⟩
def MR (B:Heap) (kk vk:Kind):List (kk.T×vk.T)->List JO->Prop
 |[],es=>es=[]
 |m::ms,es=>∃ e bJ,es=e::bJ/\KV B kk m.1 e.1/\KV B vk m.2 e.2.1/\MR B kk vk ms bJ
def SOk (es:List JO) (clock:Nat):Prop:=(es.map λe=>e.2.2).Nodup/\∀ e∈es,e.2.2<clock
def MC (B:Heap) (kk vk:Kind) (m:List (kk.T×vk.T)) (es:List JO) (clock:Nat):Prop:=MR B kk vk m es/\SOk es clock
def DN (es:List JO) (dn seen:List Nat):Prop:=seen.length=dn.length/\∀ (t r:Nat),dn[t]?=some r->∃ e,es[r]?=some e/\seen[t]?=some e.2.2
def FR (ik:IntKind):List (Int×Nat)->List JO->Prop
 |[],es=>es=[]
 |e::r,es=>∃ st bJ,es=(.int ik e.1,.func (.func e.2) #[] #[],st)::bJ/\FR ik r bJ
def OR (P:Program) (B:Heap) (pl:Nat->Value) (tb:Nat->Option Bool) (U:Heap) (p:Value):OB->Prop
 |.dead=>True
 |.lst ty k xs nl=>(nl=true/\xs=[]/\p=.slice none 0 0)\/(nl=false/\∃ i cap c t,p=.slice (some ⟨i,0,none⟩) xs.length cap/\xs.length<=cap/\U.get i=some (.cells c ⟨k.size,ty⟩ true t)/\cap*k.size<=c.length/\Rows (KC B k) xs (c.take (xs.length*k.size)))
 |.cells l u=>∃ i c e t,p=.pointer (some ⟨i,0,none⟩)/\U.get i=some (.cells c e true t)/\SRs P B pl tb l c/\(∀ y,u=some y->e.ty=y/\t=true)
 |.map kk vk m=>∃ i es clock,p=.map (some i)/\U.get i=some (.obj (.map es clock) true)/\MC B kk vk m es clock
 |.rmap kk vk m=>∃ i es clock wr,p=.map (some i)/\B.get i=some (.obj (.map es clock) wr)/\MC B kk vk m es clock
 |.siter l pos=>∃ j s,p=.pointer (some ⟨j,0,none⟩)/\U.get j=some (.obj (.siter s pos) true)/\s.data.toList=l
 |.iter kk vk m dn=>∃ j i es clock wr seen,p=.pointer (some ⟨j,0,none⟩)/\U.get j=some (.obj (.iter i clock seen clock) true)/\B.get i=some (.obj (.map es clock) wr)/\MC B kk vk m es clock/\DN es dn seen
 |.mapE kk vk m key n=>∃ i es clock,∃ r:Nat,∃ e:JO,p=.map (some i)/\U.get i=some (.obj (.map es clock) true)/\MC B kk vk m es clock/\es[r]?=some e/\KV B kk key e.1/\Qh e.1 es=some e/\(e.2.2:Int)=n/\∃ mk,gq.mkOk mk kk=true
 |.stk l vals=>SRs P B pl tb l vals
 |.deep ty q k xs nl h=>DP U p ty q k xs nl h
 |.fm ik l=>∃ i es clock,p=.map (some i)/\U.get i=some (.obj (.map es clock) true)/\FR ik l es
 |.lpf l q s=>p=.pointer (some ⟨q.i,0,none⟩)/\SRs P B pl tb l q.vals/\(s.live=true->U.get q.i=some (.obj (.lp q.vals q.r s.st s.pend) true))
theorem MR.mono {B B':Heap}(hB:B.Le B') {kk vk:Kind}:∀ {m:List (kk.T×vk.T)}{es:List JO},MR B kk vk m es->MR B' kk vk m es
 |[],es,h=>h
 |m::ms,es,h=>by obtain⟨e,bJ,h1,h2,h3,h4⟩:=h;exact⟨e,bJ,h1,h2.mono hB,h3.mono hB,h4.mono hB⟩
theorem MC.mono {B B':Heap}(hB:B.Le B') {kk vk:Kind}{m:List (kk.T×vk.T)}{es:List JO}{clock:Nat}(h:MC B kk vk m es clock):MC B' kk vk m es clock:=⟨h.1.mono hB,h.2⟩
theorem OR.upd {B B':Heap}{pl pl':Nat->Value}{tb tb':Nat->Option Bool}{o:Nat}(hB:B.Le B') (ht:∀ n c,tb n=some c->tb' n=some c) (hp:∀ d,d≠o->pl' d=pl d) {U U':Heap}{p:Value}{b:OB}
  (h:OR P B pl tb U p b) (hg:b.live=true->∀ i,Oid p i->U'.get i=U.get i):OR P B' pl' tb' U' p (b.kill o):=by
 cases b with
 |dead=>trivial
 |lst ty k xs nl =>
  rcases h with h|⟨h0,i,cap,c,t,h1,h2,h3,h4,h5⟩
  .exact .inl h
  .exact .inr ⟨h0,i,cap,c,t,h1,h2,by rw[hg rfl i (by rw[h1];rfl)];exact h3,h4,h5.mono λ_ _=>KC.mono hB⟩
 |cells l u =>obtain⟨i,c,e,t,h1,h2,h3,h4⟩:=h;exact⟨i,c,e,t,h1,by rw[hg rfl i (by rw[h1];rfl)];exact h2,SRs.upd hB ht hp l c h3,h4⟩
 |map kk vk m =>obtain⟨i,es,clock,h1,h2,h3⟩:=h;exact⟨i,es,clock,h1,by rw[hg rfl i (by rw[h1];rfl)];exact h2,h3.mono hB⟩
 |mapE kk vk m key n =>obtain⟨i,es,clock,r,e,h1,h2,h3,h4,h5,h6⟩:=h;exact⟨i,es,clock,r,e,h1,by rw[hg rfl i (by rw[h1];rfl)];exact h2,h3.mono hB,h4,h5.mono hB,h6⟩
 |fm ik l =>obtain⟨i,es,clock,h1,h2,h3⟩:=h;exact⟨i,es,clock,h1,by rw[hg rfl i (by rw[h1];rfl)];exact h2,h3⟩
 |stk l vals=>exact SRs.upd hB ht hp l vals h
 |deep ty q k xs nl hh=>exact DP.mono h (hg rfl)
 |iter kk vk m dn =>obtain⟨j,i,es,clock,wr,seen,h1,h2,h3,h4,h5⟩:=h;exact⟨j,i,es,clock,wr,seen,h1,by rw[hg rfl j (by rw[h1];rfl)];exact h2,hB.2 _ _ h3,h4.mono hB,h5⟩
 |rmap kk vk m =>obtain⟨i,es,clock,wr,h1,h2,h3⟩:=h;exact⟨i,es,clock,wr,h1,hB.2 _ _ h2,h3.mono hB⟩
 |siter l pos =>obtain⟨j,s,h1,h2,h3⟩:=h;exact⟨j,s,h1,by rw[hg rfl j (by rw[h1];rfl)];exact h2,h3⟩
 |lpf l q s=>exact⟨h.1,SRs.upd hB ht hp l q.vals h.2.1,λhl=>by rw[hg hl q.i (by rw[h.1];rfl)];exact h.2.2 hl⟩
theorem OR.mono {B B':Heap}{pl:Nat->Value}{tb tb':Nat->Option Bool}(hB:B.Le B') (ht:∀ n c,tb n=some c->tb' n=some c) {U U':Heap}{p:Value}{b:OB}
  (h:OR P B pl tb U p b) (hg:b.live=true->∀ i,Oid p i->U'.get i=U.get i):OR P B' pl tb' U' p b:=by
 cases b with
 |dead=>trivial
 |lst ty k xs nl =>
  rcases h with h|⟨h0,i,cap,c,t,h1,h2,h3,h4,h5⟩
  .exact .inl h
  .exact .inr ⟨h0,i,cap,c,t,h1,h2,by rw[hg rfl i (by rw[h1];rfl)];exact h3,h4,h5.mono λ_ _=>KC.mono hB⟩
 |cells l u =>obtain⟨i,c,e,t,h1,h2,h3,h4⟩:=h;exact⟨i,c,e,t,h1,by rw[hg rfl i (by rw[h1];rfl)];exact h2,SRs.mono hB ht l c h3,h4⟩
 |map kk vk m =>obtain⟨i,es,clock,h1,h2,h3⟩:=h;exact⟨i,es,clock,h1,by rw[hg rfl i (by rw[h1];rfl)];exact h2,h3.mono hB⟩
 |mapE kk vk m key n =>obtain⟨i,es,clock,r,e,h1,h2,h3,h4,h5,h6⟩:=h;exact⟨i,es,clock,r,e,h1,by rw[hg rfl i (by rw[h1];rfl)];exact h2,h3.mono hB,h4,h5.mono hB,h6⟩
 |fm ik l =>obtain⟨i,es,clock,h1,h2,h3⟩:=h;exact⟨i,es,clock,h1,by rw[hg rfl i (by rw[h1];rfl)];exact h2,h3⟩
 |stk l vals=>exact SRs.mono hB ht l vals h
 |deep ty q k xs nl hh=>exact DP.mono h (hg rfl)
 |iter kk vk m dn =>obtain⟨j,i,es,clock,wr,seen,h1,h2,h3,h4,h5⟩:=h;exact⟨j,i,es,clock,wr,seen,h1,by rw[hg rfl j (by rw[h1];rfl)];exact h2,hB.2 _ _ h3,h4.mono hB,h5⟩
 |rmap kk vk m =>obtain⟨i,es,clock,wr,h1,h2,h3⟩:=h;exact⟨i,es,clock,wr,h1,hB.2 _ _ h2,h3.mono hB⟩
 |siter l pos =>obtain⟨j,s,h1,h2,h3⟩:=h;exact⟨j,s,h1,by rw[hg rfl j (by rw[h1];rfl)];exact h2,h3⟩
 |lpf l q s=>exact⟨h.1,SRs.mono hB ht l q.vals h.2.1,λhl=>by rw[hg hl q.i (by rw[h.1];rfl)];exact h.2.2 hl⟩
theorem Qa (own:Own) (d:Nat) (b:OB) (d':Nat):Q9 (oset own d b) d'=if d'=d then b else Q9 own d':=by
 induction own with
 |nil =>
  simp only[oset,Q9];by_cases h:d'=d
  .subst h;simp
  .rw[z7 h,Zn λe=>h e.symm];rfl
 |cons p r ih =>
  obtain⟨k,c⟩:=p;simp only[oset];by_cases h1:k=d
  .subst h1;simp only[Nat.beq_refl,ze,Q9];by_cases h:d'=k
   .subst h;simp
   .rw[z7 h,Zn λe=>h e.symm];rfl
  .rw[Zn h1,cond_false];cases Nat.blt d k with
   |true =>
    simp only[ze,Q9];by_cases h:d'=d
    .subst h;simp
    .rw[z7 h,Zn λe=>h e.symm];rfl
   |false =>
    simp only[cond_false,Q9,ih];by_cases h:k=d'
    .subst h;simp[h1]
    .rw[Zn h];rfl
theorem Vl (own:Own) (o d:Nat):Q9 (Q46 o own) d=if d=o then .dead else (Q9 own d).kill o:=by
 induction own with
 |nil=>simp[Q46,Q9,OB.kill]
 |cons p r ih =>
  obtain⟨k,c⟩:=p;simp only[Q46];by_cases h1:k=o
  .subst h1;simp only[Nat.beq_refl,ze,ih,Q9];by_cases h:d=k
   .simp[h]
   .rw[z7 h,z7 h,Zn λe=>h e.symm];rfl
  .rw[Zn h1,cond_false];simp only[Q9,ih]
   grind [Zn]
theorem OR.frz {B:Heap}{pl:Nat->Value}{tb:Nat->Option Bool}{o:Nat}{k:Kind}{xs:List k.T}(hk:KC B (.list k) xs [pl o]) {U:Heap}{p:Value}{b:OB}
  (h:OR P B pl tb U p b):OR P B pl tb U p (b.frz o k xs):=by
 cases b with
 |cells l u =>obtain⟨i,c,e,t,h1,h2,h3,h4⟩:=h;exact⟨i,c,e,t,h1,h2,SRs.frz hk l c h3,h4⟩
 |stk l vals=>exact SRs.frz hk l vals h
 |lpf l q s=>exact⟨h.1,SRs.frz hk l q.vals h.2.1,h.2.2⟩
 |_=>exact h
theorem Q6r (own:Own) (o:Nat) (k:Kind) (xs:List k.T) (d:Nat):Q9 (Q9q o k xs own) d=if d=o then .dead else (Q9 own d).frz o k xs:=by
 induction own with
 |nil=>simp[Q9q,Q9,OB.frz]
 |cons p r ih =>
  obtain⟨j,c⟩:=p;simp only[Q9q];by_cases h1:j=o
  .subst h1;simp only[Nat.beq_refl,ze,ih,Q9];by_cases h:d=j
   .simp[h]
   .rw[z7 h,z7 h,Zn λe=>h e.symm];rfl
  .rw[Zn h1,cond_false];simp only[Q9,ih]
   grind [Zn]
theorem OB.q2c (b:OB) (o:Nat) (k:Kind) (xs:List k.T):(b.frz o k xs).live=b.live:=by cases b<;>rfl
structure Gam (P:Program) (B F:Heap) (pl:Nat->Value) (tb:Nat->Option Bool) (s:St) (env:Env) (U:Heap):Prop where
 bf:B.Le F
 le:F.Le U
 env:SRs P B pl tb s.env env
 obj:∀ d,OR P B pl tb U (pl d) (Q9 s.own d)
 fresh:∀ d i,(Q9 s.own d).live=true->Oid (pl d) i->F.get i=none
 sep:∀ d d' i,d≠d'->(Q9 s.own d).live=true->(Q9 s.own d').live=true->Oid (pl d) i->Oid (pl d') i->False
 free:∀ n,s.nx<=n->tb n=none
theorem Gam.leB {B F:Heap}{pl:Nat->Value}{tb:Nat->Option Bool}{s:St}{env:Env}{U:Heap}(h:Gam P B F pl tb s env U):B.Le U:=h.bf.trans h.le
def ZR (pl:Nat->Value) (d:Nat) (p:Value):Nat->Value:=λj=>if j=d then p else pl j
theorem OB.q0o (b:OB) (o:Nat):(b.kill o).live=b.live:=by cases b<;>rfl
theorem Gam.make {B F:Heap}{pl:Nat->Value}{tb:Nat->Option Bool}{s:St}{env:Env}{U U':Heap}(h:Gam P B F pl tb s env U) (d:Nat) (b:OB) (p:Value) (hle:F.Le U')
  (cJ:∀ j i,j≠d->(Q9 s.own j).live=true->Oid (pl j) i->U'.get i=U.get i) (hb:OR P B (ZR pl d p) tb U' p b)
  (a8:∀ i,b.live=true->Oid p i->F.get i=none/\∀ j,j≠d->(Q9 s.own j).live=true->¬ Oid (pl j) i):Gam P B F (ZR pl d p) tb (s.make d b) env U':=by
 have hp:∀ j,j≠d->ZR pl d p j=pl j:=λj hj=>by simp[ZR,hj]
 have hg:∀ j,Q9 (s.make d b).own j=if j=d then b else (Q9 s.own j).kill d:=λj=>by simp only[St.make,St.kill,Qa,Vl];split<;>rfl
 refine⟨h.bf,hle,SRs.upd (Heap.Le.refl B) (λ_ _ h=>h) hp _ _ h.env,λj=>?_,λj i hl hi=>?_,λj j' i aG hl bN hi cf=>?_,h.free⟩
 .rw[hg];by_cases hj:j=d
  .subst hj;rw[z6 rfl];simpa [ZR] using hb
  .rw[z7 hj,hp j hj];exact(h.obj j).upd (Heap.Le.refl B) (λ_ _ h=>h) hp λhl i hi=>cJ j i hj hl hi
 .rw[hg] at hl;by_cases hj:j=d
  .subst hj;rw[z6 rfl] at hl;simp only[ZR,zt] at hi;exact(a8 i hl hi).1
  .rw[z7 hj,OB.q0o] at hl;rw[hp j hj] at hi;exact h.fresh j i hl hi
 .rw[hg] at hl bN;by_cases hj:j=d
  .subst hj;rw[z6 rfl] at hl;have bF:j'≠j:=λe=>aG e.symm;rw[z7 bF,OB.q0o] at bN;rw[hp j' bF] at cf;simp only[ZR,zt] at hi;exact(a8 i hl hi).2 j' bF bN cf
  .rw[z7 hj,OB.q0o] at hl;rw[hp j hj] at hi;by_cases bF:j'=d
   .subst bF;rw[z6 rfl] at bN;simp only[ZR,zt] at cf;exact(a8 i bN cf).2 j hj hl hi
   .rw[z7 bF,OB.q0o] at bN;rw[hp j' bF] at cf;exact h.sep j j' i aG hl bN hi cf
theorem Gam.write {B F:Heap}{pl:Nat->Value}{tb:Nat->Option Bool}{s:St}{env:Env}{U U':Heap}(h:Gam P B F pl tb s env U) (d:Nat) (b:OB) (hle:F.Le U') (af:(Q9 s.own d).live=true)
  (cJ:∀ j i,j≠d->(Q9 s.own j).live=true->Oid (pl j) i->U'.get i=U.get i) (hb:OR P B pl tb U' (pl d) b):Gam P B F pl tb ⟨s.env,oset s.own d b,s.nx⟩ env U':=by
 refine⟨h.bf,hle,h.env,λj=>?_,λj i hl hi=>?_,λj j' i aG hl bN hi cf=>?_,h.free⟩
 .simp only[Qa];by_cases hj:j=d
  .subst hj;rw[z6 rfl];exact hb
  .rw[z7 hj];exact(h.obj j).mono (Heap.Le.refl B) (λ_ _ h=>h) λhl i hi=>cJ j i hj hl hi
 .simp only[Qa] at hl;by_cases hj:j=d
  .subst hj;exact h.fresh j i af hi
  .rw[z7 hj] at hl;exact h.fresh j i hl hi
 .simp only[Qa] at hl bN;have k1:(Q9 s.own j).live=true:=by
   grind
  have k2:(Q9 s.own j').live=true:=by
   grind
  exact h.sep j j' i aG k1 k2 hi cf
theorem Gam.put {B F:Heap}{pl:Nat->Value}{tb:Nat->Option Bool}{s:St}{env:Env}{U:Heap}(h:Gam P B F pl tb s env U) (d:Option Nat) {v:SV}{u:Value}(hv:SR P B pl tb v u):Gam P B F pl tb (s.put d v) (XH env d u) U:=by
 cases d with
 |none=>exact h
 |some d=>exact⟨h.bf,h.le,h.env.set d hv,h.obj,h.fresh,h.sep,h.free⟩
end
end Go.V
namespace Go.V
open Go
section
variable {P:Program}{B:Heap}{pl:Nat->Value}{tb:Nat->Option Bool}{own:Own}{U:Heap}
theorem Jt {s:SV}{v:Value}{k:IntKind}{x:Int}(h:asI s=some (k,x)) (hs:SR P B pl tb s v):v=.int k x:=by
 unfold asI at h;split at h
 .obtain⟨rfl,rfl⟩:=(by simpa using h:_=k/\_=x);simp only[SR,KC] at hs;simpa using hs
 .cases h
theorem K4 {s:SV}{v:Value}{x:Bool}(h:asB s=some x) (hs:SR P B pl tb s v):v=.bool x:=by
 unfold asB at h;split at h
 .obtain rfl:=osj h;simp only[SR,KC] at hs;simpa using hs
 .obtain rfl:=osj h;simp only[SR] at hs;exact hs.1
 .cases h
theorem Q8u {s:SV}{v:Value}{x:List UInt8}(h:asS s=some x) (hs:SR P B pl tb s v):v=.string ⟨x.toArray⟩:=by
 unfold asS at h;split at h
 .obtain rfl:=osj h;simp only[SR,KC] at hs;simpa using hs
 .cases h
theorem JP {k k':Kind}{l:List k.T}{l':List k'.T}(h:NB l k'=some l'):k=k':=by
 unfold NB at h;split at h
 .assumption
 .cases h
theorem JS {k:Kind}{l l':List k.T}(h:NB l k=some l'):l'=l:=by unfold NB at h;simp_all
theorem Eo {k k':Kind}{x:k.T}{x':k'.T}(h:Q7l x k'=some x'):k=k':=by
 unfold Q7l at h;split at h
 .assumption
 .cases h
theorem EJ {k:Kind}{x x':k.T}(h:Q7l x k=some x'):x'=x:=by unfold Q7l at h;simp_all
theorem PN (v:Value):SR P B pl tb (cvp v) v:=by unfold cvp;split<;>simp[SR,KC]
theorem Q9h (v:Value):SR P B pl tb (cv v) v:=by
 unfold cv;split
 .rename_i cs;simp only[SR];refine⟨cs.toList,by simp,?_⟩;have:SRs P B pl tb (cs.toList.map cvp) (cs.toList.map id):=SRs.map λx _=>PN x;simpa using this
 .exact PN v
def Gds (tb:Nat->Option Bool) (gs:List Gd):Prop:=∀ g∈gs,g.c=g.want/\tb g.id=some g.c
theorem Q52 {a b:List Gd}(h:Z4j a b=true) (hb:Gds tb b) (ha:∀ g∈a,tb g.id=some g.c):∀ g∈a,g.c=g.want:=by
 induction b generalizing a with
 |nil=>cases a with
  |nil=>intro g hg;cases hg
  |cons x a=>simp[Z4j] at h
 |cons y b ih =>
  cases a with
  |nil=>intro g hg;cases hg
  |cons x a =>
   have cq:Gds tb b:=λg hg=>hb g (zB _ hg);simp only[Z4j] at h;cases hc:(Nat.beq x.id y.id&&(x.want==y.want)) with
   |true =>
    rw[hc] at h;simp only[ze] at h;simp only[z0,zX] at hc;have e1:=zL hc.1;intro g hg;rcases zN.1 hg with rfl|hg
    .have h1:=ha g (by simp);have h2:=hb y (by simp);simp_all
    .grind
   |false =>rw[hc] at h;exact ih h cq ha
theorem Iz {gs:List Gd}(hg:Gds tb gs) {s:SV}{v:Value}(h:SR P B pl tb s v):SR P B pl tb (Q8m gs s) v:=by
 unfold Q8m;split
 .rename_i g s;simp only[SR] at h;cases hs:Z4j g gs with
  |true=>exact h.2.1 (Q52 hs hg h.1.1)
  |false=>trivial
 .exact h
theorem Q6q {gs:List Gd}(hg:Gds tb gs) {env:List SV}{nK:Env}(h:SRs P B pl tb env nK) (x:Operand):SR P B pl tb (gev gs env x) (Q5 nK x):=by
 cases x with
 |tmp t=>exact Iz hg (h.getD t undef)
 |const v=>exact Q9h v
 |global g=>trivial
 |func f=>simp only[gev,Q5,SR,SRs];exact⟨[],[],rfl,rfl,rfl⟩
theorem Ky {h:Heap}:∀ {k:Kind}{x:k.T}{cs:List Value},KC h k x cs->SRs P h pl tb (Dv k x) cs
 |.i ik,x,cs,e=>by simp only[KC] at e;subst e;simp[Dv,SRs,SR,KC]
 |.bo,x,cs,e=>by simp only[KC] at e;subst e;simp[Dv,SRs,SR,KC]
 |.st,x,cs,e=>by simp only[KC] at e;subst e;simp[Dv,SRs,SR,KC]
 |.list k,l,cs,e=>by obtain⟨v,rfl,hs⟩:=e;simp only[Dv,SRs,SR];exact⟨v,[],rfl,⟨v,rfl,hs⟩,rfl⟩
 |.pair a b,x,cs,e=>by obtain⟨c1,c2,rfl,h1,h2⟩:=e;exact(Ky h1).append (Ky h2)
theorem W6 {h:Heap}{k:Kind}{x:k.T}{v:Value}(e:KV h k x v):SR P h pl tb (Q8v k x) v:=by
 cases k with
 |pair a b =>
  rcases e with⟨h1,_⟩|⟨_,cs,rfl,e⟩
  .cases h1
  .simp only[Q8v,SR];exact⟨cs,rfl,Ky e⟩
 |i k|bo|st|list k =>
  rcases e with⟨_,e⟩|⟨h1,_⟩
  .simpa only [Q8v,SR] using e
  .cases h1
theorem XR {l:List SV}{c:List Value}(h:SRs P B pl tb l c) {agg:Bool}{size off:Nat}{v:SV}(hv:LN agg size l off=some v):∃ u,YC agg size c off=some u/\SR P B pl tb v u:=by
 cases agg with
 |true =>
  simp only[LN,ze] at hv;split at hv
  .rename_i hle;obtain rfl:=osj hv;rw[h.length] at hle;refine⟨.agg ((c.drop off).take size).toArray,by simp only[YC,zt,hle],?_⟩;simp only[SR];exact⟨_,rfl,(h.drop off).take size⟩
  .cases hv
 |false =>simp only[LN,zM] at hv;obtain⟨u,h1,h2⟩:=h.get hv;exact⟨u,by simpa [YC] using h1,h2⟩
theorem Dt {agg:Bool}{size off n m i:Nat}{c:List Value}{u:Value}(aU:off+size<=n) (hs:0<size) (h:YC agg size (((c.take m).drop (i*n)).take n) off=some u) (hl:i*n+n<=m):YC agg size c (i*n+off)=some u:=by
 cases agg with
 |true =>
  simp only[YC,zt] at h |-;split at h
  .rename_i hle;simp only[xP,yi] at hle;rw[z6 (by omega)];obtain rfl:=osj h;congr 3;apply zT
   grind
  .cases h
 |false =>simp only[YC,zm,if_false] at h |-;simp only[xu,zZ] at h;rw[z6 (by omega),z6 (by omega)] at h;exact h
theorem KC.q0f {h:Heap}{k:Kind}:∀ (x:k.T) (c:List Value),KC h k x c->c.length=k.size:=λ_ _ e=>KC.length e
theorem KC.flat {h h':Heap}:∀ {k:Kind}{x:k.T}{cs:List Value},k.flat=true->KC h k x cs->KC h' k x cs
 |.i _,_,_,_,e|.bo,_,_,_,e|.st,_,_,_,e=>e
 |.list _,_,_,f,_=>by cases f
 |.pair a b,x,cs,f,e=>by simp only[Kind.flat,z0] at f;obtain⟨c1,c2,hc,h1,h2⟩:=e;exact⟨c1,c2,hc,KC.flat f.1 h1,KC.flat f.2 h2⟩
theorem KV.flat {h h':Heap}{k:Kind}{x:k.T}{v:Value}(e:KV h k x v) (f:k.flat=true):KV h' k x v:=by
 rcases e with⟨ho,e⟩|⟨ho,cs,hv,e⟩
 .exact .inl ⟨ho,KC.flat f e⟩
 .exact .inr ⟨ho,cs,hv,KC.flat f e⟩
theorem KO.kc {H:Heap}:∀ {k:Kind}{q:Option Nat}{x:k.T}{cs:List Value}{is:List Nat},KO H q k x cs is->KC H k x cs
 |.i _,_,_,_,_,h=>by simp only[KO] at h;exact h.1
 |.bo,_,_,_,_,h=>by simp only[KO] at h;exact h.1
 |.st,_,_,_,_,h=>by simp only[KO] at h;exact h.1
 |.list k,q,l,cs,is,h=>by
  simp only[KO] at h;rcases h with⟨rfl,rfl,_⟩|⟨i,cap,c,e,t,js,rfl,rfl,h1,h2,h3,_,h4,h5⟩
  .exact⟨_,rfl,.inl ⟨rfl,rfl⟩⟩
  .refine⟨_,rfl,.inr ⟨i,0,cap,c,e,true,t,rfl,h1,h2,h3,by have:=zk k.size h1;omega,?_⟩⟩;rw[xB];have key:∀ {xs:List k.T}{cs:List Value}{js:List Nat},RowsO (λx c is=>KO H none k x c is) xs cs js->Rows (λx c=>KC H k x c) xs cs:=λh=>by
    induction h with
    |nil=>exact .nil
    |cons h _ ih=>exact .cons (KO.kc (k:=k) h) ih
   exact key h5
 |.pair a b,_,x,cs,is,h=>by simp only[KO] at h;obtain⟨c1,c2,i1,i2,rfl,rfl,h1,h2⟩:=h;exact⟨c1,c2,rfl,h1.kc,h2.kc⟩
def J07:Kind->List Value->Prop
 |.list _,cs=>∀ v,cs=[v]->∀ a n c,v=.slice (some a) n c->a.off=0
 |_,_=>True
theorem KO.koff {H:Heap}:∀ {k:Kind}{q:Option Nat}{x:k.T}{cs:List Value}{is:List Nat},KO H q k x cs is->J07 k cs
 |.i _,_,_,_,_,_|.bo,_,_,_,_,_|.st,_,_,_,_,_|.pair _ _,_,_,_,_,_=>trivial
 |.list k,q,l,cs,is,h=>by
  simp only[KO] at h;intro v hv a n c' hs
  grind
theorem RowsH.rows {α:Type}{R:α->List Value->List Nat->Prop}{R':α->List Value->Prop}(hR:∀ x c is,R x c is->R' x c) {sz:Nat}:∀ {xs:List α}{j:Nat}{cs:List Value}{is:List Nat},RowsH R sz none j xs cs is->Rows R' xs cs
 |[],j,cs,is,h=>by obtain⟨rfl,_⟩:=h;exact .nil
 |x::xs,j,cs,is,h=>by obtain⟨c,cs',i1,i2,rfl,rfl,h1,h2⟩:=h;rw[z7 (by simp)] at h1;exact .cons (hR _ _ _ h1) (RowsH.rows hR h2)
theorem Eh:∀ {l:List (Nat×Blk)}{p:Nat×Blk},p∈l->∃ b,RI l p.1=some b
 |(j,b)::r,p,h=>by
  by_cases e:p.1=j
  .exact⟨b,by simp only[RI,z6 e]⟩
  .rcases zN.1 h with rfl|h
   .exact absurd rfl e
   .obtain⟨b',h'⟩:=Eh h;exact⟨b',by simp only[RI,z7 e];exact h'⟩
theorem Q71:∀ {l:List (Nat×Blk)}{n:Nat},(∀ p∈l,p.1<n)->Z5p l<=n
 |[],n,_=>Nat.zero_le _
 |(j,b)::r,n,h=>by have h1:=h (j,b) zn;have h2:=Q71 (l:=r) (n:=n) (by grind);simp only[Z5p];simp only at h1;omega
theorem Q4s (p:Value):∃ l,W4 p=listH l:=by
 unfold W4;split
 .exact⟨_,rfl⟩
 .exact⟨_,rfl⟩
theorem Z0z {p:Value}{U:Heap}(h:∀ i b,(W4 p).get i=some b->U.get i=some b):(W4 p).Le U:=by obtain⟨l,e⟩:=Q4s p;rw[e] at h |-;refine⟨Q71 λx hx=>?_,h⟩;obtain⟨b,hb⟩:=Eh hx;exact U.lt (h x.1 b hb)
theorem Q14:∀ (l:List Value) {i:Nat}{c:List Value}{e:El}{wr t:Bool},RI (Z1p l) i=some (.cells c e wr t)->wr=true
 |[],i,c,e,wr,t,h=>by cases h
 |v::vs,i,c,e,wr,t,h=>by
  unfold Z1p at h;split at h
  .rename_i q hq;obtain⟨j,b⟩:=q;simp only[RI] at h;split at h
   .obtain rfl:=osj h;unfold J1u at hq
    grind
   .exact Q14 vs h
  .exact Q14 vs h
theorem Z0r {p:Value}{i:Nat}{c:List Value}{e:El}{wr t:Bool}(h:(W4 p).get i=some (.cells c e wr t)):wr=true:=by
 unfold W4 at h;split at h
 .exact Q14 _ h
 .cases h
theorem DP.le {U:Heap}{p:Value}{ty:Nat}{q:Option Nat}{k:Kind}{xs:List k.T}{nl:Bool}{h:Option Nat}(hd:DP U p ty q k xs nl h):(W4 p).Le U:=by obtain⟨is,_,_,_,_,h4,_⟩:=hd;exact Z0z h4
theorem DP.sl {U:Heap}{p:Value}{ty:Nat}{q:Option Nat}{k:Kind}{xs:List k.T}{nl:Bool}(hd:DP U p ty q k xs nl none):SlRel (W4 p) k.size (KC (W4 p) k) xs (phd p):=by
 obtain⟨is,_,_,h2,_,_,_⟩:=hd;rcases h2 with⟨rfl,h,_⟩|⟨i,cap,c,t,js,h,_,h1,h3,h4,h5⟩
 .exact .inl ⟨rfl,h⟩
 .refine .inr ⟨i,0,cap,c,_,true,t,h,h1,h3,rfl,by have:=zk k.size h1;omega,?_⟩;rw[xB];exact h5.rows λ_ _ _ h=>h.kc
theorem DP.hd {U:Heap}{p:Value}{ty:Nat}{q:Option Nat}{k:Kind}{xs:List k.T}{nl:Bool}{h:Option Nat}(hd:DP U p ty q k xs nl h):∃ a cap,phd p=.slice a xs.length cap:=by
 obtain⟨is,_,_,h2,_,_,_⟩:=hd;rcases h2 with⟨rfl,h,_⟩|⟨i,cap,c,t,js,h,_⟩
 .exact⟨_,_,h⟩
 .exact⟨_,_,h⟩
theorem Q3i {H:Heap}{k:Kind}{l:List k.T}{v:Value}(h:KC H (.list k) l [v]) {j:Nat}(hj:j<l.length):∃ b o cap c e wr t,v=.slice (some ⟨b,o,none⟩) l.length cap/\H.get b=some (.cells c e wr t)/\o+l.length*k.size<=c.length/\Rows (KC H k) l ((c.drop o).take (l.length*k.size)):=by
 obtain⟨v',e,hs⟩:=h;obtain rfl:=(zR e).1;rcases hs with⟨rfl,_⟩|⟨b,o,cap,c,e',wr,t,h2,h3,h4,h5,h6,h7⟩
 .simp at hj
 grind
theorem Su {p:Value}{k:Kind}{l:List k.T}{v:Value}(h:KC (W4 p) (.list k) l [v]):SlRel (W4 p) k.size (λx c=>KC (W4 p) k x c) l v:=by obtain⟨v',e,hs⟩:=h;simp_all
theorem DJ (hle:B.Le U) (aB:∀ d,OR P B pl tb U (pl d) (Q9 own d)) {k:Kind}{s:SV}{l:List k.T}{v:Value}(h:view own k s=some l) (hs:SR P B pl tb s v):SlRel U k.size (KC B k) l v:=by
 unfold view at h;split at h
 .obtain rfl:=osj h;simp only[SR] at hs;exact .inl ⟨rfl,hs⟩
 .rename_i k' l0;obtain rfl:=JP h;obtain rfl:=JS h;simp only[SR,KC] at hs;obtain⟨v',e,hs⟩:=hs;obtain rfl:=(zR e).1;exact hs.mono hle λ_ _ h=>h
 .rename_i o;have ho:=aB o;simp only[SR] at hs
  replace hs:=hs.1
  split at h
  .rename_i ty k' xs nl heq;obtain rfl:=JP h;obtain rfl:=JS h;rw[heq] at ho;rcases ho with⟨_,rfl,h2⟩|⟨_,i,cap,c,t,h1,h2,h3,h4,h5⟩
   .exact .inl ⟨rfl,by rw[hs,h2]⟩
   .refine .inr ⟨i,0,cap,c,_,true,t,by rw[hs,h1],h2,h3,rfl,?_,by simpa using h5⟩;have:=zk k'.size h2;omega
  .cases h
 .rename_i o lo n sz;have ho:=aB o;split at h
  .rename_i ty k' xs nl heq;split at h
   .rename_i aC;subst aC;cases hc:NB xs k with
    |none=>rw[hc] at h;cases h
    |some cy =>
     obtain rfl:=JP hc;obtain rfl:=JS hc;rw[hc] at h;obtain rfl:=osj h;simp only[SR] at hs;rw[heq] at ho;rcases hs with⟨rfl,rfl,rfl,_⟩|⟨i,len,cap,aq,h1,h2,h3,rfl⟩
     .exact .inl ⟨by simp,rfl⟩
     .rcases ho with⟨_,_,h4⟩|⟨_,i',iN,c,t,h4,h5,h6,h7,h8⟩
      .rw[h1] at h4;cases h4
      .rw[h1] at h4;obtain⟨rfl,rfl,rfl⟩:=(by simpa using h4:i=i'/\len=cy.length/\cap=iN);have hlen:((cy.drop lo).take n).length=n:=by simp;omega
       have k1:lo*k'.size+n*k'.size<=cy.length*k'.size:=by rw[<-zF];exact zk _ h2
       have k2:=zk k'.size h5;refine .inr ⟨i,lo*k'.size,aq,c,_,true,t,by rw[hlen],by rw[hlen];exact h3,h6,rfl,by rw[hlen];omega,?_⟩;rw[hlen];have:=(h8.drop KC.q0f lo).take KC.q0f n;have e:((c.take (cy.length*k'.size)).drop (lo*k'.size)).take (n*k'.size)=(c.drop (lo*k'.size)).take (n*k'.size):=by
        apply zT
        grind
       rw[e] at this;exact this
   .cases h
  .cases h
 .rename_i o w;have ho:=aB o;simp only[SR] at hs;cases hf:k.flat with
  |false=>rw[hf] at h;cases h
  |true =>
   rw[hf] at h;simp only[ze] at h;split at h
   .rename_i ty q k' xs nl hole heq;rw[heq] at ho;have cZ:=DP.le ho;split at h
    .split at h
     .obtain rfl:=JP h;obtain rfl:=JS h;obtain⟨hs,_⟩:=hs;rw[hs];exact(DP.sl ho).mono cZ λ_ _ e=>KC.flat hf e
     .cases h
    .rename_i k' l';obtain rfl:=JP h;obtain rfl:=JS h;exact(Su hs).mono cZ λ_ _ e=>KC.flat hf e
    .rename_i k' l' i;obtain rfl:=JP h;obtain rfl:=JS h;exact(Su hs.1).mono cZ λ_ _ e=>KC.flat hf e
    .cases h
   .cases h
 .cases h
theorem SlRel.len {h:Heap}{sz:Nat}{α:Type}{R:α->List Value->Prop}{l:List α}{v:Value}(hs:SlRel h sz R l v):∃ a cap,v=.slice a l.length cap:=by
 rcases hs with⟨rfl,rfl⟩|⟨i,o,cap,c,e,wr,t,rfl,_⟩
 .exact⟨_,_,rfl⟩
 .exact⟨_,_,rfl⟩
theorem Q3v (aB:∀ d,OR P B pl tb U (pl d) (Q9 own d)) {s:SV}{n:Nat}{v:Value}(h:J0x own s=some n) (hs:SR P B pl tb s v):∃ a cap,v=.slice a n cap:=by
 unfold J0x at h;split at h
 .obtain rfl:=osj h;simp only[SR] at hs;exact⟨_,_,hs⟩
 .obtain rfl:=osj h;simp only[SR,KC] at hs;obtain⟨v',e,hs⟩:=hs;obtain rfl:=(zR e).1;exact hs.len
 .rename_i o;have ho:=aB o;simp only[SR] at hs
  replace hs:=hs.1
  split at h
  .rename_i ty k' xs nl heq;obtain rfl:=osj h;rw[heq] at ho;rcases ho with⟨_,rfl,h2⟩|⟨_,i,cap,c,t,h1,h2,h3,h4,h5⟩
   .exact⟨_,_,by rw[hs,h2];rfl⟩
   .exact⟨_,_,by rw[hs,h1]⟩
  .cases h
 .obtain rfl:=osj h;simp only[SR] at hs
  grind
 .rename_i o w;have ho:=aB o;simp only[SR] at hs;split at h
  .rename_i ty q k' xs nl hole heq;rw[heq] at ho;split at h
   .split at h
    .obtain rfl:=osj h;obtain⟨hs,_⟩:=hs;rw[hs];exact DP.hd ho
    .cases h
   .obtain rfl:=osj h;exact(Su hs).len
   .obtain rfl:=osj h;exact(Su hs.1).len
   .cases h
  .cases h
 .cases h
theorem X1 {o:Nat}:∀ {k:Kind}{x:k.T}{cs:List Value},KC (W4 (pl o)) k x cs->SRs P B pl tb (Bl o k x) cs
 |.i ik,x,cs,h=>by simp only[KC] at h;subst h;simp[Bl,SRs,SR,KC]
 |.bo,x,cs,h=>by simp only[KC] at h;subst h;simp[Bl,SRs,SR,KC]
 |.st,x,cs,h=>by simp only[KC] at h;subst h;simp[Bl,SRs,SR,KC]
 |.list k,x,cs,h=>by have hl:=KC.length h;obtain⟨v,rfl⟩:=z_.1 (show cs.length=1 from hl);simp only[Bl,SRs,SR,DR];exact⟨v,[],rfl,h,rfl⟩
 |.pair a b,x,cs,h=>by obtain⟨c1,c2,rfl,h1,h2⟩:=h;exact SRs.append (X1 h1) (X1 h2)
theorem Q5h {o:Nat}{i:Int}:∀ {k:Kind}{x:k.T}{cs:List Value},KC (W4 (pl o)) k x cs->J07 k cs->(k.one=true->∀ v,cs=[v]->∃ b len cap c e t,phd (pl o)=.slice (some ⟨b,0,none⟩) len cap/\0<=i/\i<len/\(W4 (pl o)).get b=some (.cells c e true t)/\c[i.toNat]?=some v)->SRs P B pl tb (J2c o i k x) cs
 |.i ik,x,cs,h,_,_=>X1 (o:=o) h
 |.bo,x,cs,h,_,_=>X1 (o:=o) h
 |.st,x,cs,h,_,_=>X1 (o:=o) h
 |.list k,x,cs,h,ho,hr=>by have hl:=KC.length h;obtain⟨v,rfl⟩:=z_.1 (show cs.length=1 from hl);simp only[J2c,SRs,SR,DR];exact⟨v,[],rfl,⟨h,ho v rfl,hr rfl v rfl⟩,rfl⟩
 |.pair a b,x,cs,h,_,_=>X1 (o:=o) h
theorem DP.elem {U:Heap}{p:Value}{ty:Nat}{q:Option Nat}{k:Kind}{xs:List k.T}{nl:Bool}(hd:DP U p ty q k xs nl none) {b len cap:Nat}(hp:phd p=.slice (some ⟨b,0,none⟩) len cap) :
  ∃ c t,(W4 p).get b=some (.cells c ⟨k.size,ty⟩ true t)/\len=xs.length/\xs.length<=cap/\cap*k.size<=c.length/\Rows (λx c=>KC (W4 p) k x c/\J07 k c) xs (c.take (xs.length*k.size)):=by
 obtain⟨is,_,_,h2,_,_,_⟩:=hd;rcases h2 with⟨rfl,h,_⟩|⟨i,aq,c,t,js,h,_,h1,h3,h4,h5⟩
 .rw[hp] at h;cases h
 .rw[hp] at h;obtain⟨rfl,rfl,rfl⟩:=(by simpa using h:b=i/\len=xs.length/\cap=aq);exact⟨c,t,h3,rfl,h1,h4,h5.rows λ_ _ _ h=>⟨h.kc,h.koff⟩⟩
theorem SM (hle:B.Le U) (aB:∀ d,OR P B pl tb U (pl d) (Q9 own d)) {agg:Bool}{size:Nat}(aC:0<size) {s v:SV}{p:Value}(h:Q9a own agg size s=some v) (hs:SR P B pl tb s p) :
  ∃ i o c e wr t u,p=.pointer (some ⟨i,o,none⟩)/\U.get i=some (.cells c e wr t)/\YC agg size c o=some u/\SR P B pl tb v u:=by
 unfold Q9a at h;split at h
 .rename_i o off;have ho:=aB o;simp only[SR] at hs;obtain⟨b,h1,rfl⟩:=hs;split at h
  .rename_i l _ heq;rw[heq] at ho;obtain⟨i,c,e,t,h2,h3,h4,_⟩:=ho
   grind [XR]
  .cases h
 .rename_i l off;simp only[SR] at hs;obtain⟨b,c,e,wr,t,h1,rfl,h3⟩:=hs;obtain⟨u,h5,h6⟩:=XR h3 h;exact⟨b,off,c,e,wr,t,u,rfl,hle.2 _ _ h1,h5,h6⟩
 .rename_i o i off sz;have ho:=aB o;simp only[SR] at hs;obtain⟨b,len,cap,h1,h2,h3,rfl⟩:=hs;split at h
  .rename_i ty k xs nl heq;rw[heq] at ho;split at h
   .rename_i ah;obtain⟨rfl,aU⟩:=ah;rcases ho with⟨_,_,h4⟩|⟨_,i',iN,c,t,h4,h5,h6,h7,h8⟩
    .rw[h1] at h4;cases h4
    .rw[h1] at h4;obtain⟨rfl,rfl,rfl⟩:=(by simpa using h4:b=i'/\len=xs.length/\cap=iN);have hi:i.toNat<xs.length:=by omega
     have hr:=h8.at KC.q0f hi;have hx:xs.getD i.toNat k.dflt=xs[i.toNat]:=by simp_all
     rw[hx] at h;obtain⟨u,h9,bW⟩:=XR (Ky (P:=P) (pl:=pl) (tb:=tb) hr) h;refine⟨b,_,c,_,true,t,u,rfl,h6,Dt aU aC h9 ?_,bW⟩;have:(i.toNat+1)*k.size<=xs.length*k.size:=zk _ hi
     rwa [zF,xr] at this
   .cases h
  .cases h
 .rename_i k l i off;simp only[SR] at hs;obtain⟨b,o,c,e,wr,t,h1,h2,h3,rfl,h5,h6⟩:=hs;split at h
  .rename_i aU;have hi:i.toNat<l.length:=by omega
   have hr:=h6.at KC.q0f hi;have hx:l.getD i.toNat k.dflt=l[i.toNat]:=by simp_all
   rw[hx] at h;obtain⟨u,h9,bW⟩:=XR (Ky (P:=P) (pl:=pl) (tb:=tb) hr) h;have dz:(i.toNat+1)*k.size<=l.length*k.size:=zk _ hi;rw[zF,xr] at dz;refine⟨b,_,c,e,wr,t,u,rfl,hle.2 _ _ h3,?_,bW⟩;have:=Dt aU aC h9 dz;clear h9;cases agg with
   |true =>
    simp only[YC,zt,yi] at this |-;split at this
    .rename_i cZ;rw[z6 (by omega)];rw[<-this,List.drop_drop,zw]
    .cases this
   |false =>simp only[YC,zm,if_false,zZ] at this |-;rw[<-this,zw]
  .cases h
 .rename_i o w;have ho:=aB o;simp only[SR] at hs;split at h
  .rename_i ty q k xs nl hole heq;rw[heq] at ho;split at h
   .have cZ:=DP.le ho;split at h
    .rename_i i off sz;obtain⟨b,len,cap,h1,h2,h3,rfl⟩:=hs;split at h
     .rename_i ah;obtain⟨rfl,aU⟩:=ah;obtain⟨c,t,h4,rfl,h5,h6,h7⟩:=DP.elem ho h1;have hi:i.toNat<xs.length:=by omega
      have hr:=h7.at (λx c h=>KC.q0f x c h.1) hi;have hx:xs.getD i.toNat k.dflt=xs[i.toNat]:=by simp_all
      rw[hx] at h;have iO:(i.toNat+1)*k.size<=xs.length*k.size:=zk _ hi;rw[zF,xr] at iO;obtain⟨u,h9,bW⟩:=XR (Q5h (P:=P) (B:=B) (tb:=tb) hr.1 hr.2 λbO v hv=>by
       refine⟨b,_,cap,c,_,t,h1,h2,h3,h4,?_⟩;have wj:=Kind.q1q bO;have:(((c.take (xs.length*k.size)).drop (i.toNat*k.size)).take k.size)[0]?=some v:=by rw[hv];rfl
       grind) h
      exact⟨b,_,c,_,true,t,u,rfl,cZ.2 _ _ h4,Dt aU aC h9 iO,bW⟩
     .cases h
    .rename_i k' x i j off;obtain⟨b,len,cap,c,e,t,r,rl,rc,aM,re,rt,h1,h2,h3,h4,h5,h6,h7,h8,h9,bW,gJ,rfl⟩:=hs;split at h
     .rename_i aU;subst h8;have hj:j.toNat<x.length:=by omega
      have hr:=gJ.at KC.q0f hj;have hx:x.getD j.toNat k'.dflt=x[j.toNat]:=by simp_all
      rw[hx] at h;have iO:(j.toNat+1)*k'.size<=x.length*k'.size:=zk _ hj;rw[zF,xr] at iO;obtain⟨u,k9,qv⟩:=XR (X1 (P:=P) (B:=B) (tb:=tb) hr) h;exact⟨r,_,aM,_,true,rt,u,rfl,cZ.2 _ _ h9,Dt aU aC k9 iO,qv⟩
     .cases h
    .rename_i k' l j off;obtain⟨b,o',c,e,wr,t,h1,h2,h3,rfl,h5,h6⟩:=hs;split at h
     .rename_i aU;have hj:j.toNat<l.length:=by omega
      have hr:=h6.at KC.q0f hj;have hx:l.getD j.toNat k'.dflt=l[j.toNat]:=by simp_all
      rw[hx] at h;obtain⟨u,k9,qv⟩:=XR (X1 (P:=P) (B:=B) (tb:=tb) hr) h;have dz:(j.toNat+1)*k'.size<=l.length*k'.size:=zk _ hj;rw[zF,xr] at dz;refine⟨b,_,c,e,wr,t,u,rfl,cZ.2 _ _ h3,?_,qv⟩;have:=Dt aU aC k9 dz;clear k9;cases agg with
      |true =>
       simp only[YC,zt,yi] at this |-;split at this
       .rename_i uw;rw[z6 (by omega)];rw[<-this,List.drop_drop,zw]
       .cases this
      |false =>simp only[YC,zm,if_false,zZ] at this |-;rw[<-this,zw]
     .cases h
    .cases h
   .cases h
  .cases h
 .cases h
end
end Go.V
namespace Go.V
open Go
section
variable {P:Program}{B:Heap}{pl:Nat->Value}{tb:Nat->Option Bool}{own:Own}{U:Heap}
theorem Ew {s:SV}{v:Value}(h:s.solid=true) (hs:SR P B pl tb s v):Vv v=some [v]/\cellOk v=true:=by
 cases s with
 |any=>cases h
 |grd gs s=>cases h
 |agg l=>cases h
 |tup l=>cases h
 |val k x =>
  simp only[SR] at hs;cases k with
  |i ik=>simp only[KC] at hs;obtain rfl:=(zR hs).1;exact⟨rfl,rfl⟩
  |bo=>simp only[KC] at hs;obtain rfl:=(zR hs).1;exact⟨rfl,rfl⟩
  |st=>simp only[KC] at hs;obtain rfl:=(zR hs).1;exact⟨rfl,rfl⟩
  |list k =>obtain⟨v',e,hs⟩:=hs;obtain rfl:=(zR e).1;obtain⟨a,c,rfl⟩:=hs.len;exact⟨rfl,rfl⟩
  |pair a b =>have h1:=KC.length hs;have h2:=a.size_pos;have h3:=b.size_pos;simp only[Kind.size,xL] at h1;omega
 |bid n c=>simp only[SR] at hs;obtain⟨rfl,_⟩:=hs;exact⟨rfl,rfl⟩
 |nilS=>simp only[SR] at hs;subst hs;exact⟨rfl,rfl⟩
 |nilP=>simp only[SR] at hs;subst hs;exact⟨rfl,rfl⟩
 |nilM=>simp only[SR] at hs;subst hs;exact⟨rfl,rfl⟩
 |nilF=>simp only[SR] at hs;subst hs;exact⟨rfl,rfl⟩
 |lst o=>simp only[SR] at hs;obtain⟨_,a,n,c,rfl⟩:=hs;exact⟨rfl,rfl⟩
 |dd o w =>
  simp only[SR] at hs;cases w with
  |out=>obtain⟨_,a,n,c,rfl⟩:=hs;exact⟨rfl,rfl⟩
  |el i off sz=>obtain⟨_,_,_,_,_,_,rfl⟩:=hs;exact⟨rfl,rfl⟩
  |row k x i=>obtain⟨a,c,rfl⟩:=(Su hs.1).len;exact⟨rfl,rfl⟩
  |rowp k x i j off=>obtain⟨_,_,_,_,_,_,_,_,_,_,_,_,_,_,_,_,_,_,_,_,_,_,_,rfl⟩:=hs;exact⟨rfl,rfl⟩
  |inn k x=>obtain⟨a,c,rfl⟩:=(Su hs).len;exact⟨rfl,rfl⟩
  |inp k l j off=>obtain⟨_,_,_,_,_,_,_,_,_,rfl,_⟩:=hs;exact⟨rfl,rfl⟩
  |dat=>rcases hs with⟨_,rfl⟩|⟨_,_,_,_,_,rfl⟩<;>exact⟨rfl,rfl⟩
  |obx c=>rcases hs with⟨_,rfl⟩|⟨_,_,_,rfl⟩<;>exact⟨rfl,rfl⟩
  |yv=>obtain⟨_,_,rfl⟩:=hs;exact⟨rfl,rfl⟩
 |sub o lo n sz=>simp only[SR] at hs;rcases hs with⟨_,_,rfl,_⟩|⟨_,_,_,_,_,_,_,rfl⟩<;>exact⟨rfl,rfl⟩
 |elp o i off sz=>simp only[SR] at hs;obtain⟨_,_,_,_,_,_,rfl⟩:=hs;exact⟨rfl,rfl⟩
 |rop k l i off=>simp only[SR] at hs;obtain⟨_,_,_,_,_,_,_,_,_,rfl,_⟩:=hs;exact⟨rfl,rfl⟩
 |box o off=>simp only[SR] at hs;obtain⟨_,_,rfl⟩:=hs;exact⟨rfl,rfl⟩
 |cp l off=>simp only[SR] at hs;obtain⟨_,_,_,_,_,_,rfl,_⟩:=hs;exact⟨rfl,rfl⟩
 |map o=>simp only[SR] at hs;obtain⟨_,m,rfl⟩:=hs;exact⟨rfl,rfl⟩
 |fn f a b=>simp only[SR] at hs;obtain⟨_,_,rfl,_⟩:=hs;exact⟨rfl,rfl⟩
 |pf ks r cw p=>simp only[SR] at hs;obtain⟨_,_,_,rfl,_⟩:=hs;exact⟨rfl,rfl⟩
theorem TU:∀ {l:List SV}{c:List Value},l.all SV.solid=true->SRs P B pl tb l c->c.all cellOk=true
 |[],c,_,h=>by simp only[SRs] at h;subst h;rfl
 |s::ss,c,hl,h=>by simp only[SRs] at h;obtain⟨x,y,rfl,h1,h2⟩:=h;simp only[zP,z0] at hl |-;exact⟨(Ew hl.1 h1).2,TU hl.2 h2⟩
theorem X0 {s:SV}{v:Value}{l:List SV}(h:Nx s=some l) (hs:SR P B pl tb s v):∃ c,Vv v=some c/\SRs P B pl tb l c/\c.all cellOk=true:=by
 have key:s.solid=true->some [s]=some l->∃ c,Vv v=some c/\SRs P B pl tb l c/\c.all cellOk=true:=λqw e=>by obtain rfl:=osj e;obtain⟨h1,h2⟩:=Ew qw hs;exact⟨[v],h1,by simp only[SRs];exact⟨v,[],rfl,hs,rfl⟩,by simp[h2]⟩
 cases s with
 |any=>cases h
 |grd gs s=>cases h
 |tup l=>cases h
 |agg l' =>
  simp only[Nx] at h;cases hl:l'.all SV.solid with
  |false=>rw[hl] at h;cases h
  |true =>rw[hl] at h;obtain rfl:=osj h;simp only[SR] at hs;obtain⟨cs,rfl,hs⟩:=hs;exact⟨cs,rfl,hs,TU hl hs⟩
 |_=>exact key rfl h
theorem T9:∀ {vs:List SV}{us:List Value}{c:List SV}{cV:List Value}{o:Nat},SRs P B pl tb c cV->SRs P B pl tb vs us->SRs P B pl tb (gfill.setS c o vs) (Wz cV o us)
 |[],us,c,cV,o,h,h'=>by simp only[SRs] at h';subst h';exact h
 |v::vs,us,c,cV,o,h,h'=>by simp only[SRs] at h';obtain⟨x,y,rfl,h1,h2⟩:=h';simp only[gfill.setS,Wz];exact T9 (h.set o h1) h2
theorem SX:∀ {ps:List (Nat×Nat×Operand)}{c l:List SV}{cV:List Value}{ev:Operand->SV}{evV:Operand->Value},(∀ x,SR P B pl tb (ev x) (evV x))->SRs P B pl tb c cV->gfill c (ps.map λp=>(p.1,p.2.1,ev p.2.2))=some l ->
  ∃ lV,Gf cV (ps.map λp=>(p.1,p.2.1,evV p.2.2))=some lV/\SRs P B pl tb l lV
 |[],c,l,cV,ev,evV,al,h,hg=>by obtain rfl:=osj hg;exact⟨cV,rfl,h⟩
 |p::ps,c,l,cV,ev,evV,al,h,hg=>by
  simp only[zO,gfill] at hg;split at hg
  .rename_i vs hs;split at hg
   .rename_i ah;obtain⟨us,h1,h2,_⟩:=X0 hs (al p.2.2);obtain⟨lV,h3,h4⟩:=SX al (T9 h h2) hg;refine⟨lV,?_,h4⟩;simp only[zO,Gf,h1];rw[z6 ⟨by rw[<-h2.length];exact ah.1,by rw[<-h.length];exact ah.2⟩];exact h3
   .cases hg
  .cases hg
theorem WG {h:Heap}:∀ {k:Kind}{z:List Value},VE k z=true->KC h k k.dflt z
 |.i ik,z,e=>by unfold VE at e;split at e<;>simp_all [KC,Kind.dflt]
 |.bo,z,e=>by unfold VE at e;split at e<;>simp_all [KC,Kind.dflt]
 |.st,z,e=>by unfold VE at e;split at e<;>simp_all [KC,Kind.dflt];rename_i s;cases s;simp_all
 |.list k,z,e=>by unfold VE at e;split at e<;>simp_all [KC,Kind.dflt];exact .inl ⟨rfl,rfl⟩
 |.pair a b,z,e=>by simp only[VE,z0] at e;exact⟨_,_,(xA a.size z).symm,WG e.1,WG e.2⟩
theorem FZ {h:Heap}{mk:MK}{kk:Kind}(hk:gq.mkP mk kk=true) {x:kk.T}{cs:List Value}(e:KC h kk x cs):∃ v,cs=[v]/\ZF mk v=true/\Z0q mk v=true:=by
 unfold gq.mkP at hk;split at hk
 .simp only[KC] at e;subst e;obtain rfl:=zu hk;exact⟨_,rfl,by simp[ZF],by simp[Z0q]⟩
 .simp only[KC] at e;subst e;exact⟨_,rfl,rfl,rfl⟩
 .simp only[KC] at e;subst e;exact⟨_,rfl,rfl,rfl⟩
 .cases hk
theorem Z1l {h:Heap}{mk:MK}{kk:Kind}(hk:gq.mkP mk kk=true) {x y:kk.T}{u v:Value}(e:KC h kk x [u]) (e':KC h kk y [v]):XT u v=gq.keq kk x y/\UE u v=gq.keq kk x y:=by
 unfold gq.mkP at hk;split at hk
 .simp only[KC] at e e';obtain rfl:=(zR e).1;obtain rfl:=(zR e').1;exact⟨rfl,rfl⟩
 .simp only[KC] at e e';obtain rfl:=(zR e).1;obtain rfl:=(zR e').1;simp[XT,UE,gq.keq]
 .simp only[KC] at e e';obtain rfl:=(zR e).1;obtain rfl:=(zR e').1;exact⟨rfl,rfl⟩
 .cases hk
theorem Sx {h:Heap}:∀ {k:Kind}{l r:List MK}{x:k.T}{cs ds:List Value},gq.mkAt k l=some r->KC h k x cs->fits l (cs++ds)=fits r ds
 |.pair a b,l,r,x,cs,ds,hk,e=>by
  simp only[gq.mkAt] at hk;split at hk
  .rename_i q hq;obtain⟨c1,c2,rfl,h1,h2⟩:=e;rw[x9,Sx hq h1,Sx hk h2]
  .cases hk
 |.i _,m::l,r,x,cs,ds,hk,e|.bo,m::l,r,x,cs,ds,hk,e|.st,m::l,r,x,cs,ds,hk,e|.list _,m::l,r,x,cs,ds,hk,e=>by
  simp only[gq.mkAt] at hk;cases hp:gq.mkP m _ with
  |false=>rw[hp] at hk;cases hk
  |true =>rw[hp] at hk;obtain rfl:=osj hk;obtain⟨v,rfl,_,h2⟩:=FZ hp e;simp[fits,h2]
 |.i _,[],r,x,cs,ds,hk,e|.bo,[],r,x,cs,ds,hk,e|.st,[],r,x,cs,ds,hk,e|.list _,[],r,x,cs,ds,hk,e=>by cases hk
theorem Q0x {h:Heap}:∀ {k:Kind}{l r:List MK}{x y:k.T}{cs ds cs' ds':List Value},gq.mkAt k l=some r->KC h k x cs->KC h k y ds->QD (cs++cs') (ds++ds')=(gq.keq k x y&&QD cs' ds')
 |.pair a b,l,r,x,y,cs,ds,cs',ds',hk,e,e'=>by
  simp only[gq.mkAt] at hk;split at hk
  .rename_i q hq;obtain⟨c1,c2,rfl,h1,h2⟩:=e;obtain⟨d1,d2,rfl,g1,g2⟩:=e';rw[x9,x9,Q0x hq h1 g1,Q0x hk h2 g2];simp only[gq.keq,Bool.and_assoc]
  .cases hk
 |.i _,m::l,r,x,y,cs,ds,cs',ds',hk,e,e'|.bo,m::l,r,x,y,cs,ds,cs',ds',hk,e,e'|.st,m::l,r,x,y,cs,ds,cs',ds',hk,e,e'|.list _,m::l,r,x,y,cs,ds,cs',ds',hk,e,e'=>by
  simp only[gq.mkAt] at hk;cases hp:gq.mkP m _ with
  |false=>rw[hp] at hk;cases hk
  |true =>obtain⟨v,rfl,_,_⟩:=FZ hp e;obtain⟨w,rfl,_,_⟩:=FZ hp e';simp only[xq,xD,QD,(Z1l hp e e').2]
 |.i _,[],r,x,y,cs,ds,cs',ds',hk,e,e'|.bo,[],r,x,y,cs,ds,cs',ds',hk,e,e'|.st,[],r,x,y,cs,ds,cs',ds',hk,e,e'|.list _,[],r,x,y,cs,ds,cs',ds',hk,e,e'=>by cases hk
theorem NN {h:Heap}{mk:MK}{kk:Kind}(hk:gq.mkOk mk kk=true) {x:kk.T}{v:Value}(e:KV h kk x v):ZF mk v=true:=by
 unfold gq.mkOk at hk;rcases e with⟨ho,e⟩|⟨ho,cs,rfl,e⟩
 .grind [FZ,List.cons.inj]
 .rw[ho] at hk;simp only[zM] at hk;split at hk
  .rename_i l;split at hk
   .rename_i hr;have:=Sx (ds:=[]) hr e;rw[xC] at this;simp only[ZF];rw[this];rfl
   .cases hk
  .cases hk
theorem PH {h:Heap}{mk:MK}{kk:Kind}(hk:gq.mkOk mk kk=true) {x y:kk.T}{u v:Value}(e:KV h kk x u) (e':KV h kk y v):XT u v=gq.keq kk x y:=by
 unfold gq.mkOk at hk;rcases e with⟨ho,e⟩|⟨ho,cs,rfl,e⟩
 .rcases e' with⟨_,e'⟩|⟨fD,_⟩
  .rw[ho] at hk;exact(Z1l hk e e').1
  .rw[ho] at fD;cases fD
 .rcases e' with⟨fD,_⟩|⟨_,ds,rfl,e'⟩
  .rw[ho] at fD;cases fD
  .rw[ho] at hk;simp only[zM] at hk;split at hk
   .split at hk
    .rename_i hr;have:=Q0x (cs':=[]) (ds':=[]) hr e e';rw[xC,xC] at this;simp only[XT];rw[this];simp[QD]
    .cases hk
   .cases hk
theorem N7 {B:Heap}{k:Kind}{v:SV}{u:Value}{x:k.T}(h:dkV k v=some x) (hs:SR P B pl tb v u) (hd:∀ {k:Kind}{l:List SV}{x:k.T}{c:List Value},RG k l=some x->SRs P B pl tb l c->KC B k x c):KV B k x u:=by
 unfold dkV at h;cases bO:k.one with
 |true =>rw[bO] at h;exact .inl ⟨bO,hd h (by simp only[SRs];exact⟨u,[],rfl,hs,rfl⟩)⟩
 |false =>
  rw[bO] at h;simp only[zM] at h;split at h
  .simp only[SR] at hs;obtain⟨cs,rfl,hs⟩:=hs;exact .inr ⟨bO,cs,rfl,hd h hs⟩
  .cases h
theorem TK {B:Heap}{k:Kind}{z:Value}(h:VE k (Q2a k z)=true):KV B k k.dflt z:=by
 have e:=WG (h:=B) h;unfold Q2a at e;cases bO:k.one with
 |true=>rw[bO] at e;exact .inl ⟨bO,e⟩
 |false =>
  rw[bO] at e;simp only[zM] at e;split at e
  .exact .inr ⟨bO,_,by simp,e⟩
  .have:=KC.length e;have:=k.size_pos;simp at *
   omega
theorem KV.kc {B:Heap}{k:Kind}{x:k.T}{v:Value}(h:KV B k x v) (ho:k.one=true):KC B k x [v]:=by
 rcases h with⟨_,h⟩|⟨h1,_⟩
 .exact h
 .rw[ho] at h1;cases h1
theorem MR.keys {mk:MK}{kk vk:Kind}(hk:gq.mkOk mk kk=true):∀ {m:List (kk.T×vk.T)}{es:List JO},MR B kk vk m es->es.all (λe=>ZF mk e.1)=true
 |[],es,h=>by simp only[MR] at h;subst h;rfl
 |m::ms,es,h=>by obtain⟨e,bJ,rfl,h2,h3,h4⟩:=h;simp only[zP,z0];exact⟨NN hk h2,MR.keys hk h4⟩
theorem MR.length {kk vk:Kind}:∀ {m:List (kk.T×vk.T)}{es:List JO},MR B kk vk m es->es.length=m.length
 |[],es,h=>by simp only[MR] at h;subst h;rfl
 |m::ms,es,h=>by obtain⟨e,bJ,rfl,h2,h3,h4⟩:=h;simp[MR.length h4]
theorem MR.find {mk:MK}{kk vk:Kind}(hk:gq.mkOk mk kk=true) {key:kk.T}{kv:Value}(aL:KV B kk key kv) {d:vk.T}{z:Value}(hz:KV B vk d z):∀ {m:List (kk.T×vk.T)}{es:List JO},MR B kk vk m es ->
  (∃ e,Qh kv es=some e/\gq.ahas kk m key=true/\KV B vk (gq.aget kk m key d) e.2.1)\/(Qh kv es=none/\gq.ahas kk m key=false/\gq.aget kk m key d=d)
 |[],es,h=>by simp only[MR] at h;subst h;exact .inr ⟨rfl,rfl,rfl⟩
 |m::ms,es,h=>by
  obtain⟨e,bJ,rfl,h2,h3,h4⟩:=h;have hq:=PH hk aL h2;cases hc:gq.keq kk key m.1 with
  |true =>refine .inl ⟨e,by simp[Qh,hq,hc],by simp[gq.ahas,hc],by simpa [gq.aget,hc] using h3⟩
  |false =>
   rcases MR.find hk aL hz h4 with⟨e',k1,k2,k3⟩|⟨k1,k2,k3⟩
   .exact .inl ⟨e',by simp[Qh,hq,hc,k1],by simp[gq.ahas,hc,k2],by simpa [gq.aget,hc] using k3⟩
   .exact .inr ⟨by simp[Qh,hq,hc,k1],by simp[gq.ahas,hc,k2],by simpa [gq.aget,hc] using k3⟩
theorem SRs.one {v:SV}{c:List Value}(h:SRs P B pl tb [v] c):∃ u,c=[u]/\SR P B pl tb v u:=by simp only[SRs] at h;simp_all
theorem Qt:∀ {k:Kind}{l:List SV}{x:k.T}{c:List Value},RG k l=some x->SRs P B pl tb l c->KC B k x c
 |.i ik,[],x,c,h,hs|.bo,[],x,c,h,hs|.st,[],x,c,h,hs|.list _,[],x,c,h,hs=>by cases h
 |.i ik,_::_::_,x,c,h,hs|.bo,_::_::_,x,c,h,hs|.st,_::_::_,x,c,h,hs|.list _,_::_::_,x,c,h,hs=>by cases h
 |.i ik,[v],x,c,h,hs=>by
  obtain⟨u,rfl,h1⟩:=hs.one;simp only[RG] at h;split at h
  .rename_i g_ y;split at h
   .rename_i e;obtain rfl:=osj h;subst e;simp only[SR] at h1;exact h1
   .cases h
  .cases h
 |.bo,[v],x,c,h,hs=>by obtain⟨u,rfl,h1⟩:=hs.one;rw[K4 h h1];rfl
 |.st,[v],x,c,h,hs=>by obtain⟨u,rfl,h1⟩:=hs.one;rw[Q8u h h1];rfl
 |.list k,[v],x,c,h,hs=>by
  obtain⟨u,rfl,h1⟩:=hs.one;simp only[RG] at h;split at h
  .obtain rfl:=osj h;simp only[SR] at h1;subst h1;exact⟨_,rfl,.inl ⟨rfl,rfl⟩⟩
  .rename_i k' l';obtain rfl:=JP h;obtain rfl:=JS h;simp only[SR] at h1;exact h1
  .cases h
 |.pair a b,l,x,c,h,hs=>by
  simp only[RG] at h;split at h
  .rename_i y z h1 h2;obtain rfl:=osj h;exact⟨c.take a.size,c.drop a.size,(xA _ _).symm,Qt h1 (hs.take _),Qt h2 (hs.drop _)⟩
  .cases h
end
theorem Q7c {mk:MK}{ik:IntKind}(h:gq.mkI mk ik=true):mk=.int ik:=by cases mk<;>simp_all [gq.mkI]
theorem FR.keys {ik:IntKind}:∀ {l:List (Int×Nat)}{es:List JO},FR ik l es->es.all (λe=>ZF (.int ik) e.1)=true
 |[],es,h=>by obtain rfl:=h;rfl
 |e::r,es,h=>by obtain⟨st,bJ,rfl,h⟩:=h;rw[zP,FR.keys h];simp[ZF]
theorem FR.find {ik:IntKind}{n:Int}{f:Nat}:∀ {l:List (Int×Nat)}{es:List JO},FR ik l es->gq.fmGet l n=some f->∃ k st,Qh (.int ik n) es=some (k,.func (.func f) #[] #[],st)
 |[],es,_,hf=>by cases hf
 |e::r,es,h,hf=>by
  obtain⟨st,bJ,rfl,h⟩:=h;simp only[gq.fmGet] at hf;by_cases c:n=e.1
  .rw[x3 c] at hf;obtain rfl:=osj hf;exact⟨.int ik e.1,st,by simp[Qh,XT,c]⟩
  .rw[xl c] at hf;obtain⟨k,jQ,h2⟩:=FR.find h hf;exact⟨k,jQ,by simp[Qh,XT,c,h2]⟩
theorem FR.put {ik:IntKind}{n:Int}{f clock:Nat}:∀ {l:List (Int×Nat)}{es:List JO},FR ik l es->gq.fmGet l n=none->FR ik (l++[(n,f)]) (Qx (.int ik n) (.func (.func f) #[] #[]) clock es).1
 |[],es,h,_=>by obtain rfl:=h;exact⟨clock,[],rfl,rfl⟩
 |e::r,es,h,hf=>by
  obtain⟨st,bJ,rfl,h⟩:=h;simp only[gq.fmGet] at hf;by_cases c:n=e.1
  .rw[x3 c] at hf;cases hf
  .rw[xl c] at hf;have:=FR.put (f:=f) (clock:=clock) h hf;simp only[Qx,XT,zX,c,if_false];exact⟨st,_,rfl,this⟩
end Go.V
namespace Go.V
open Go
theorem InK.wrap {k:IntKind}{x:Int}(h:InK k x):k.wrap x=x:=by obtain⟨h1,h2⟩:=h;cases k<;>simp[IntKind.wrap,IntKind.bits,IntKind.signed,IntKind.min,IntKind.max] at h1 h2 |-<;>(try split)<;>omega
section
variable {P:Program}{B:Heap}{pl:Nat->Value}{tb:Nat->Option Bool}{own:Own}{U:Heap}
def QOk (P:Program) (B:Heap) (pl:Nat->Value) (tb:Nat->Option Bool) (U:Heap) (o:VOp) (evV:Operand->Value) (v:SV):Prop:=∃ u,Q8 o evV U=some (u,U)/\SR P B pl tb v u
theorem Kx (k:IntKind) (x:Int):SR P B pl tb (.val (.i k) x) (.int k x):=by simp[SR,KC]
theorem Vq (x:Bool):SR P B pl tb (.val .bo x) (.bool x):=by simp[SR,KC]
theorem Jf {α β:Type _}{a c:α}{b d:β}(h:some (a,b)=some (c,d)):a=c/\b=d:=by cases h;exact⟨rfl,rfl⟩
section
variable {kt:List (Nat×Kind)}{raw:Bool}{ev:Operand->SV}{evV:Operand->Value}{cs:List Prop}{v:SV}
theorem Ei (al:∀ x,SR P B pl tb (ev x) (evV x)) {x y:Operand}{k k':IntKind}{a b:Int}(h1:asI (ev x)=some (k,a)) (h2:asI (ev y)=some (k',b)):evV x=.int k a/\evV y=.int k' b:=⟨Jt h1 (al x),Jt h2 (al y)⟩
theorem Z4v (al:∀ x,SR P B pl tb (ev x) (evV x)) {op:BinOp}{x y:Operand}(h:gq kt raw (.arith op x y) ev own=some (cs,v)) (hc:∀ c∈cs,c):QOk P B pl tb U (.arith op x y) evV v:=by
 simp only[gq] at h;split at h
 .rename_i k a k' b h1 h2;obtain⟨e1,e2⟩:=Ei al h1 h2;split at h
  .rename_i hk;subst hk;cases raw with
   |true =>
    obtain⟨rfl,rfl⟩:=Jf h;refine⟨_,by simp only[Q8,e1,e2,zt]<;>rfl,?_⟩;have:Eg op k a b=k.wrap (SG op a b):=by cases op<;>rfl
    rw[this];exact Kx _ _
   |false =>
    obtain⟨rfl,rfl⟩:=Jf h;refine⟨_,by simp only[Q8,e1,e2,zt]<;>rfl,?_⟩;have:Eg op k a b=SG op a b:=by
     have hw:InK k (SG op a b):=hc _ (by simp);have e:Eg op k a b=k.wrap (SG op a b):=by cases op<;>rfl
     rw[e,hw.wrap]
    rw[this];exact Kx _ _
  .cases h
 .cases h
theorem J22 (al:∀ x,SR P B pl tb (ev x) (evV x)) {op:BinOp}{x y:Operand}(h:gq kt raw (.div op x y) ev own=some (cs,v)) (hc:∀ c∈cs,c):QOk P B pl tb U (.div op x y) evV v:=by
 simp only[gq] at h;split at h
 .rename_i k a k' b h1 h2;obtain⟨e1,e2⟩:=Ei al h1 h2;split at h
  .rename_i hk;subst hk;split at h
   .obtain⟨rfl,rfl⟩:=Jf h;have hb:b≠0:=hc _ (by simp);have hw:InK k (a.tdiv b):=hc _ (by simp);refine⟨_,by simp only[Q8,e1,e2,hb,ne_eq,not_false_iff,and_self,zt]<;>rfl,?_⟩;simp only[Z5d,hw.wrap];exact Kx _ _
   .obtain⟨rfl,rfl⟩:=Jf h;have hb:b≠0:=hc _ (by simp);refine⟨_,by simp only[Q8,e1,e2,hb,ne_eq,not_false_iff,and_self,zt]<;>rfl,?_⟩;rename_i bD;have:Z5d op k a b=a.tmod b:=by unfold Z5d;split<;>simp_all
    rw[this];exact Kx _ _
  .cases h
 .cases h
theorem Z6i (al:∀ x,SR P B pl tb (ev x) (evV x)) {op:BinOp}{x y:Operand}(h:gq kt raw (.bits op x y) ev own=some (cs,v)):QOk P B pl tb U (.bits op x y) evV v:=by
 simp only[gq] at h;split at h
 .rename_i k a k' b h1 h2;obtain⟨e1,e2⟩:=Ei al h1 h2;split at h
  .rename_i hk;subst hk;obtain⟨rfl,rfl⟩:=Jf h;exact⟨_,by simp only[Q8,e1,e2,zt]<;>rfl,Kx _ _⟩
  .cases h
 .cases h
theorem Z48 (al:∀ x,SR P B pl tb (ev x) (evV x)) {op:BinOp}{x y:Operand}(h:gq kt raw (.shift op x y) ev own=some (cs,v)) (hc:∀ c∈cs,c):QOk P B pl tb U (.shift op x y) evV v:=by
 simp only[gq] at h;split at h
 .rename_i k a k' b h1 h2;obtain⟨e1,e2⟩:=Ei al h1 h2;split at h
  .cases raw with
   |true =>obtain⟨rfl,rfl⟩:=Jf h;have hb:0<=b:=hc _ (by simp);exact⟨_,by simp only[Q8,e1,e2,hb,zt]<;>rfl,Kx _ _⟩
   |false =>obtain⟨rfl,rfl⟩:=Jf h;have hb:0<=b:=hc _ (by simp);have hw:InK k (YA k a b):=hc _ (by simp);refine⟨_,by simp only[Q8,e1,e2,hb,zt]<;>rfl,?_⟩;have:Eu .shl k a b=k.wrap (YA k a b):=rfl;rw[this,hw.wrap];exact Kx _ _
  .obtain⟨rfl,rfl⟩:=Jf h;have hb:0<=b:=hc _ (by simp);refine⟨_,by simp only[Q8,e1,e2,hb,zt]<;>rfl,?_⟩;have:Eu op k a b=Zz k a b:=by unfold Eu;split<;>simp_all [Zz]
   rw[this];exact Kx _ _
 .cases h
theorem J0n (al:∀ x,SR P B pl tb (ev x) (evV x)) {op:BinOp}{x y:Operand}(h:gq kt raw (.cmp op x y) ev own=some (cs,v)):QOk P B pl tb U (.cmp op x y) evV v:=by
 simp only[gq] at h;split at h
 .rename_i k a k' b h1 h2;obtain⟨e1,e2⟩:=Ei al h1 h2;split at h
  .rename_i hk;subst hk;obtain⟨rfl,rfl⟩:=Jf h;exact⟨_,by simp only[Q8,e1,e2,zt]<;>rfl,Vq _⟩
  .cases h
 .cases h
theorem Z9t (al:∀ x,SR P B pl tb (ev x) (evV x)) {neg:Bool}{x y:Operand}(h:gq kt raw (.eqB neg x y) ev own=some (cs,v)):QOk P B pl tb U (.eqB neg x y) evV v:=by
 simp only[gq] at h;split at h
 .rename_i a b h1 h2;have e1:=K4 h1 (al x);have e2:=K4 h2 (al y);obtain⟨rfl,rfl⟩:=Jf h;exact⟨_,by simp only[Q8,e1,e2]<;>rfl,Vq _⟩
 .cases h
theorem J53 (al:∀ x,SR P B pl tb (ev x) (evV x)) {op:UnOp}{x:Operand}(h:gq kt raw (.un op x) ev own=some (cs,v)) (hc:∀ c∈cs,c):QOk P B pl tb U (.un op x) evV v:=by
 simp only[gq] at h;split at h
 .split at h
  .rename_i b h1;obtain⟨rfl,rfl⟩:=Jf h;exact⟨_,by simp only[Q8,K4 h1 (al x)]<;>rfl,Vq _⟩
  .cases h
 .split at h
  .rename_i k n h1;obtain⟨rfl,rfl⟩:=Jf h;have hw:InK k (0-n):=hc _ (by simp);refine⟨_,by simp only[Q8,Jt h1 (al x)]<;>rfl,?_⟩;rw[hw.wrap];exact Kx _ _
  .cases h
 .split at h
  .rename_i k n h1;obtain⟨rfl,rfl⟩:=Jf h;exact⟨_,by simp only[Q8,Jt h1 (al x)]<;>rfl,Kx _ _⟩
  .cases h
 .cases h
theorem Z4f (al:∀ x,SR P B pl tb (ev x) (evV x)) {k:IntKind}{x:Operand}(h:gq kt raw (.convI k x) ev own=some (cs,v)) (hc:∀ c∈cs,c):QOk P B pl tb U (.convI k x) evV v:=by
 simp only[gq] at h;split at h
 .rename_i k' n h1;cases raw with
  |true =>obtain⟨rfl,rfl⟩:=Jf h;exact⟨_,by simp only[Q8,Jt h1 (al x)]<;>rfl,Kx _ _⟩
  |false =>obtain⟨rfl,rfl⟩:=Jf h;have hw:InK k n:=hc _ (by simp);refine⟨_,by simp only[Q8,Jt h1 (al x)]<;>rfl,?_⟩;rw[hw.wrap];exact Kx _ _
 .cases h
theorem Z3k (al:∀ x,SR P B pl tb (ev x) (evV x)) {z:List Value}{ps:List (Nat×Nat×Operand)}(h:gq kt raw (.build z ps) ev own=some (cs,v)):QOk P B pl tb U (.build z ps) evV v:=by
 simp only[gq] at h;split at h
 .rename_i l h1;obtain⟨rfl,rfl⟩:=Jf h;have hz:SRs P B pl tb (z.map cvp) (z.map id):=SRs.map λx _=>PN x;rw[List.map_id] at hz;obtain⟨lV,h2,h3⟩:=SX al hz h1;refine⟨.agg lV.toArray,by simp only[Q8,h2],?_⟩;simp only[SR];exact⟨lV,rfl,h3⟩
 .cases h
theorem Z7q (al:∀ x,SR P B pl tb (ev x) (evV x)) (hle:B.Le U) (aB:∀ d,OR P B pl tb U (pl d) (Q9 own d)) {agg:Bool}{size:Nat}{a:Operand}(h:gq kt raw (.load agg size a) ev own=some (cs,v)):QOk P B pl tb U (.load agg size a) evV v:=by
 simp only[gq] at h;cases hb:Nat.blt 0 size with
 |false=>rw[hb] at h;cases h
 |true =>
  rw[hb] at h;simp only[ze,zi] at h;obtain⟨v',h1,h2⟩:=h;obtain⟨rfl,rfl⟩:=(by simpa only [Prod.mk.injEq] using h2:_=cs/\_=v);have hs:0<size:=by simpa [zA] using hb
  obtain⟨i,o,c,e,wr,t,u,h3,h4,h5,h6⟩:=SM hle aB hs h1 (al a);exact⟨u,by simp only[Q8,h3,h4,h5],h6⟩
theorem Q0s (al:∀ x,SR P B pl tb (ev x) (evV x)) {off:Nat}{a:Operand}(h:gq kt raw (.fieldAddr off a) ev own=some (cs,v)):QOk P B pl tb U (.fieldAddr off a) evV v:=by
 have ha:=al a;simp only[gq] at h;split at h
 .rename_i o f heq;obtain⟨rfl,rfl⟩:=Jf h;rw[heq] at ha;simp only[SR] at ha;obtain⟨b,h1,h2⟩:=ha;refine⟨_,by simp only[Q8,h2]<;>rfl,?_⟩;simp only[SR];exact⟨b,h1,rfl⟩
 .rename_i l f heq;obtain⟨rfl,rfl⟩:=Jf h;rw[heq] at ha;simp only[SR] at ha;obtain⟨b,c,e,wr,t,h1,h2,h3⟩:=ha;refine⟨_,by simp only[Q8,h2]<;>rfl,?_⟩;simp only[SR];exact⟨b,c,e,wr,t,h1,rfl,h3⟩
 .rename_i o i f sz heq;obtain⟨rfl,rfl⟩:=Jf h;rw[heq] at ha;simp only[SR] at ha;obtain⟨b,len,cap,h1,h2,h3,h4⟩:=ha;refine⟨_,by simp only[Q8,h4]<;>rfl,?_⟩;simp only[SR];grind
 .rename_i o w heq;rw[heq] at ha;simp only[SR] at ha;split at h
  .obtain⟨rfl,rfl⟩:=Jf h;obtain⟨b,len,cap,h1,h2,h3,h4⟩:=ha;refine⟨_,by simp only[Q8,h4]<;>rfl,?_⟩;simp only[SR,DR];grind
  .obtain⟨rfl,rfl⟩:=Jf h;obtain⟨b,len,cap,c,e,t,r,rl,rc,aM,re,rt,h1,h2,h3,h4,h5,h6,h7,h8,h9,bW,gJ,lq⟩:=ha;refine⟨_,by simp only[Q8,lq]<;>rfl,?_⟩;simp only[SR,DR];exact⟨b,len,cap,c,e,t,r,rl,rc,aM,re,rt,h1,h2,h3,h4,h5,h6,h7,h8,h9,bW,gJ,by rw[zw]⟩
  .obtain⟨rfl,rfl⟩:=Jf h;obtain⟨b,o',c,e,wr,t,h1,h2,h3,h4,h5,h6⟩:=ha;refine⟨_,by simp only[Q8,h4]<;>rfl,?_⟩;simp only[SR,DR];grind
  .cases h
 .rename_i k l i f heq;obtain⟨rfl,rfl⟩:=Jf h;rw[heq] at ha;simp only[SR] at ha;obtain⟨b,o,c,e,wr,t,h1,h2,h3,h4,h5,h6⟩:=ha;refine⟨_,by simp only[Q8,h4]<;>rfl,?_⟩;simp only[SR];grind
 .cases h
theorem Z4g (al:∀ x,SR P B pl tb (ev x) (evV x)) {agg:Bool}{off size:Nat}{x:Operand}(h:gq kt raw (.field agg off size x) ev own=some (cs,v)):QOk P B pl tb U (.field agg off size x) evV v:=by
 have ha:=al x;simp only[gq] at h;split at h
 .rename_i l heq;rw[heq] at ha;simp only[SR] at ha;obtain⟨c,h1,h2⟩:=ha;simp only[zi] at h;obtain⟨v',h3,h4⟩:=h;obtain⟨rfl,rfl⟩:=(by simpa only [Prod.mk.injEq] using h4:_=cs/\_=v);obtain⟨u,h5,h6⟩:=XR h2 h3;exact⟨u,by simp only[Q8,h1,h5],h6⟩
 .cases h
theorem Q6v (al:∀ x,SR P B pl tb (ev x) (evV x)) {x:Operand}{i:Nat}(h:gq kt raw (.extract x i) ev own=some (cs,v)):QOk P B pl tb U (.extract x i) evV v:=by
 have ha:=al x;simp only[gq] at h;split at h
 .rename_i l heq;rw[heq] at ha;simp only[SR] at ha;obtain⟨c,h1,h2⟩:=ha;simp only[zi] at h;obtain⟨v',h3,h4⟩:=h;obtain⟨rfl,rfl⟩:=(by simpa only [Prod.mk.injEq] using h4:_=cs/\_=v);obtain⟨u,h5,h6⟩:=h2.get h3;exact⟨u,by simp only[Q8,h1,h5],h6⟩
 .cases h
theorem Q4w (al:∀ x,SR P B pl tb (ev x) (evV x)) {x:Operand}(h:gq kt raw (.nilCheck x) ev own=some (cs,v)):QOk P B pl tb U (.nilCheck x) evV v:=by
 have ha:=al x;simp only[gq] at h;split at h
 .rename_i o f heq;obtain⟨rfl,rfl⟩:=Jf h;rw[heq] at ha;have hb:=ha;simp only[SR] at ha;obtain⟨b,h1,h2⟩:=ha;exact⟨_,by simp only[Q8,h2]<;>rfl,by rw[<-h2];exact hb⟩
 .rename_i l f heq;obtain⟨rfl,rfl⟩:=Jf h;rw[heq] at ha;have hb:=ha;simp only[SR] at ha;obtain⟨b,c,e,wr,t,h1,h2,h3⟩:=ha;exact⟨_,by simp only[Q8,h2]<;>rfl,by rw[<-h2];exact hb⟩
 .rename_i f a b heq;obtain⟨rfl,rfl⟩:=Jf h;rw[heq] at ha;have hb:=ha;simp only[SR] at ha;obtain⟨x1,y1,h1,h2,h3⟩:=ha;exact⟨_,by simp only[Q8,h1]<;>rfl,by rw[<-h1];exact hb⟩
 .cases h
theorem Q4k (al:∀ x,SR P B pl tb (ev x) (evV x)) {x i:Operand}(h:gq kt raw (.indexStr x i) ev own=some (cs,v)) (hc:∀ c∈cs,c):QOk P B pl tb U (.indexStr x i) evV v:=by
 simp only[gq] at h;split at h
 .rename_i s k j h1 h2;have e1:=Q8u h1 (al x);have e2:=Jt h2 (al i);obtain⟨rfl,rfl⟩:=Jf h;have k1:0<=j:=hc _ (by simp);have k2:j<s.length:=hc _ (by simp);have k3:j.toNat<s.length:=by omega
  refine⟨.int .u8 (s[j.toNat].toNat:Int),by simp only[Q8,e1,e2,k1,zt];simp[k3],?_⟩
  grind [Kx]
 .cases h
theorem Q1l (al:∀ x,SR P B pl tb (ev x) (evV x)) (_hle:B.Le U) (aB:∀ d,OR P B pl tb U (pl d) (Q9 own d)) {size:Nat}{x i:Operand}(h:gq kt raw (.indexAddr size x i) ev own=some (cs,v)) (hc:∀ c∈cs,c):QOk P B pl tb U (.indexAddr size x i) evV v:=by
 have ha:=al x;simp only[gq] at h;split at h
 .rename_i o k' j heq hj;have ej:=Jt hj (al i);split at h
  .rename_i ty k xs nl ho;split at h
   .rename_i aC;obtain⟨rfl,rfl⟩:=Jf h;have h0:0<=j:=hc _ (by simp);have h1:j<xs.length:=hc _ (by simp);rw[heq] at ha;simp only[SR] at ha;have ai:=aB o;rw[ho] at ai;rcases ai with⟨_,rfl,_⟩|⟨_,b,cap,c,t,h2,h3,h4,h5,h6⟩
    .simp at h1;omega
    .refine⟨.pointer (some ⟨b,0+j.toNat*size,none⟩),?_,?_⟩
     .simp only[Q8,ha.1,h2,ej];rw[z6 ⟨h0,h1⟩]
     .simp only[SR];grind
   .cases h
  .cases h
 .rename_i o w k' j heq hj;have ej:=Jt hj (al i);rw[heq] at ha;simp only[SR] at ha;have ai:=aB o;split at h
  .rename_i ty q k xs nl hole ho;rw[ho] at ai;split at h
   .have key:(if k.size=size then some ([0<=j,j<xs.length],SV.dd o (.el j 0 size)) else none)=some (cs,v)->QOk P B pl tb U (.indexAddr size x i) evV v:=by
     intro h;split at h
     .rename_i aC;obtain⟨rfl,rfl⟩:=Jf h;have h0:0<=j:=hc _ (by simp);have h1:j<xs.length:=hc _ (by simp);obtain⟨is,_,_,h2,_⟩:=ai;rcases h2 with⟨rfl,_⟩|⟨b,cap,c,t,js,h2,_⟩
      .simp at h1;omega
      .refine⟨.pointer (some ⟨b,0+j.toNat*size,none⟩),?_,?_⟩
       .simp only[Q8,ha.1,h2,ej];rw[z6 ⟨h0,h1⟩]
       .simp only[SR,DR];grind
     .cases h
    grind
   .rename_i kr l ir;split at h
    .rename_i aC;obtain⟨rfl,rfl⟩:=Jf h;have h0:0<=j:=hc _ (by simp);have h1:j<l.length:=hc _ (by simp);obtain⟨ux,aU,b,len,cap,c,e,t,g1,g2,g3,g4,g5⟩:=ha;obtain⟨r,o',rc,aM,re,sj,rt,k1,k2,k3,k4⟩:=Q3i ux (j:=j.toNat) (by omega);obtain rfl:o'=0:=aU _ _ _ k1;obtain rfl:=Z0r k2;refine⟨.pointer (some ⟨r,0+j.toNat*size,none⟩),?_,?_⟩
     .simp only[Q8,k1,ej];rw[z6 ⟨h0,h1⟩]
     .simp only[SR,DR];exact⟨b,len,cap,c,e,t,r,l.length,rc,aM,re,rt,g1,g2,g3,g4,by rw[g5,k1],h0,h1,rfl,k2,by omega,by rw[xB] at k4;exact k4,by simp[aC]⟩
    .cases h
   .rename_i kr l;split at h
    .rename_i aC;obtain⟨rfl,rfl⟩:=Jf h;have h0:0<=j:=hc _ (by simp);have h1:j<l.length:=hc _ (by simp);obtain⟨r,o',rc,aM,re,sj,rt,k1,k2,k3,k4⟩:=Q3i (show KC (W4 (pl o)) (.list kr) l [evV x] from ha) (j:=j.toNat) (by omega);refine⟨.pointer (some ⟨r,o'+j.toNat*size,none⟩),?_,?_⟩
     .simp only[Q8,k1,ej];rw[z6 ⟨h0,h1⟩]
     .simp only[SR,DR];exact⟨r,o',aM,re,sj,rt,h0,h1,k2,by simp[aC],k3,k4⟩
    .cases h
   .cases h
  .cases h
 .rename_i o lo n sz k' j heq hj;have ej:=Jt hj (al i);split at h
  .rename_i ty k xs nl ho;split at h
   .rename_i aC;obtain⟨aC,rfl⟩:=aC;obtain⟨rfl,rfl⟩:=Jf h;have h0:0<=j:=hc _ (by simp);have h1:j<n:=hc _ (by simp);rw[heq] at ha;simp only[SR] at ha;rcases ha with⟨rfl,rfl,_,_⟩|⟨b,len,cap,aq,h2,h3,h4,h5⟩
    .simp at h1;omega
    .refine⟨.pointer (some ⟨b,lo*sz+j.toNat*sz,none⟩),?_,?_⟩
     .simp only[Q8,h5,ej];rw[z6 ⟨h0,h1⟩]
     .simp only[SR];refine⟨b,len,cap,h2,by omega,by omega,?_⟩;have:((lo:Int)+j).toNat=lo+j.toNat:=by omega
      rw[this,zF,x4]
   .cases h
  .cases h
 .rename_i k l k' j heq hj;have ej:=Jt hj (al i);split at h
  .rename_i aC;obtain⟨rfl,rfl⟩:=Jf h;have h0:0<=j:=hc _ (by simp);have h1:j<l.length:=hc _ (by simp);rw[heq] at ha;simp only[SR,KC] at ha;obtain⟨v',e,hs⟩:=ha;obtain e:=(zR e).1;rcases hs with⟨rfl,_⟩|⟨b,o,cap,c,e',wr,t,h2,h3,h4,h5,h6,h7⟩
   .simp at h1;omega
   .refine⟨.pointer (some ⟨b,o+j.toNat*size,none⟩),?_,?_⟩
    .simp only[Q8,e,h2,ej];rw[z6 ⟨h0,h1⟩]
    .simp only[SR];exact⟨b,o,c,e',wr,t,h0,h1,h4,by rw[aC,x4],h6,h7⟩
  .cases h
 .cases h
theorem ZT (al:∀ x,SR P B pl tb (ev x) (evV x)) {x:Option Operand}{d:Nat}{a:Int}(h:KW ev x d=some a) (ha:0<=a):Jz evV x d=some a.toNat:=by
 cases x with
 |none=>obtain rfl:=osj h;simp[Jz]
 |some x =>simp only[KW,zi] at h;obtain⟨⟨k,a'⟩,h1,h2⟩:=h;simp only at h2;subst h2;simp only[Jz,Jt h1 (al x),ha,zt]
theorem J2r (al:∀ x,SR P B pl tb (ev x) (evV x)) (aB:∀ d,OR P B pl tb U (pl d) (Q9 own d)) {x:Operand}(h:gq kt raw (.len x) ev own=some (cs,v)):QOk P B pl tb U (.len x) evV v:=by
 simp only[gq] at h;split at h
 .rename_i n h1;obtain⟨rfl,rfl⟩:=Jf h;obtain⟨a,cap,e⟩:=Q3v aB h1 (al x);exact⟨.int .i64 n,by simp only[Q8,e],Kx _ _⟩
 .cases h
theorem J0z (al:∀ x,SR P B pl tb (ev x) (evV x)) {x y:Operand}(h:gq kt raw (.max x y) ev own=some (cs,v)):QOk P B pl tb U (.max x y) evV v:=by
 simp only[gq] at h;split at h
 .rename_i k a k' b h1 h2;obtain⟨e1,e2⟩:=Ei al h1 h2;split at h
  .rename_i hk;subst hk;obtain⟨rfl,rfl⟩:=Jf h;exact⟨.int k (Iu a b),by simp only[Q8,e1,e2,zt];rfl,Kx _ _⟩
  .cases h
 .cases h
theorem Q4i (al:∀ x,SR P B pl tb (ev x) (evV x)) {fn:Fn}{a b:List Operand}(h:gq kt raw (.makeFunc fn a b) ev own=some (cs,v)):QOk P B pl tb U (.makeFunc fn a b) evV v:=by
 cases fn with
 |func f =>obtain⟨rfl,rfl⟩:=Jf h;refine⟨.func (.func f) (a.map evV).toArray (b.map evV).toArray,by simp only[Q8],?_⟩;simp only[SR];exact⟨_,_,rfl,SRs.map λx _=>al x,SRs.map λx _=>al x⟩
 |_=>cases h
theorem SlRel.sl {h:Heap}{sz:Nat}{α:Type}{R:α->List Value->Prop}{l:List α}{v:Value}(hs:SlRel h sz R l v):∃ cs a cap,h.sl sz v=some cs/\Rows R l cs/\v=.slice a l.length cap:=by
 rcases hs with⟨rfl,rfl⟩|⟨i,o,cap,c,e,wr,t,rfl,h2,h3,h4,h5,h6⟩
 .exact⟨[],_,_,rfl,.nil,rfl⟩
 .refine⟨_,_,cap,?_,h6,rfl⟩;simp only[Heap.sl,h3];rw[z6 ⟨h4,h5⟩]
theorem Cl {size:Nat}{i o len cap l h:Nat}{c:List Value}{e:El}{wr t:Bool}(hg:U.get i=some (.cells c e wr t)) (he:e.sz=size) (h1:l<=h) (h2:h<=cap) :
  YK size U (.slice (some ⟨i,o,none⟩) len cap) l h none=some (.slice (some ⟨i,o+l*size,none⟩) (h-l) (cap-l),U):=by
 simp only[YK,hg];rw[z6 ⟨he,h1,h2⟩]
theorem Z74 {H:Heap}{k:Kind}{l:List k.T}{v:Value}(h:KC H (.list k) l [v]):∃ a c,v=.slice a l.length c:=by
 obtain⟨v',e,hs⟩:=h;obtain rfl:=(zR e).1;rcases hs with⟨rfl,rfl⟩|⟨i,o,cap,c,e',wr,t,rfl,_⟩
 .exact⟨_,_,rfl⟩
 .exact⟨_,_,rfl⟩
theorem Q3f {H:Heap}(hle:H.Le U) {k:Kind}{l:List k.T}{v:Value}{a b:Nat}(h:KC H (.list k) l [v]) (k1:a<=b) (k2:b<=l.length) :
  ∃ u,YK k.size U v a b none=some (u,U)/\KC H (.list k) ((l.drop a).take (b-a)) [u]:=by
 obtain⟨v',e,hs⟩:=h;obtain rfl:=(zR e).1;rcases hs with⟨rfl,rfl⟩|⟨i,o,cap,c,e',wr,t,rfl,h4,h5,h6,h7,h8⟩
 .simp only[List.length_nil] at k2;have za:a=0:=by omega
  have zb:b=0:=by omega
  subst za;subst zb;exact⟨.slice none 0 0,by simp only[YK];rfl,_,rfl,.inl ⟨by simp,rfl⟩⟩
 .have hlen:((l.drop a).take (b-a)).length=b-a:=by simp;omega
  refine⟨.slice (some ⟨i,o+a*k.size,none⟩) (b-a) (cap-a),Cl (hle.2 _ _ h5) h6 (by omega) (by omega),_,rfl,.inr ⟨i,o+a*k.size,cap-a,c,e',wr,t,by rw[hlen],by rw[hlen];omega,h5,h6,?_,?_⟩⟩
  .rw[hlen];have:(a+(b-a))*k.size<=l.length*k.size:=zk _ (by omega);rw[zF] at this;omega
  .rw[hlen];have:=(h8.drop KC.q0f a).take KC.q0f (b-a);have e3:(((c.drop o).take (l.length*k.size)).drop (a*k.size)).take ((b-a)*k.size)=(c.drop (o+a*k.size)).take ((b-a)*k.size):=by
    apply zT;intro j;simp only[xu,zZ];split
    .have:(a+(b-a))*k.size<=l.length*k.size:=zk _ (by omega)
     grind
    .rfl
   rw[e3] at this;exact this
theorem Z4a (al:∀ x,SR P B pl tb (ev x) (evV x)) (hle:B.Le U) (aB:∀ d,OR P B pl tb U (pl d) (Q9 own d)) {size:Nat}{x:Operand}{lo hi mx:Option Operand}(h:gq kt raw (.slice size x lo hi mx) ev own=some (cs,v)) (hc:∀ c∈cs,c):QOk P B pl tb U (.slice size x lo hi mx) evV v:=by
 have ha:=al x;cases mx with
 |some m=>cases h
 |none =>
 simp only[gq] at h;split at h
 .rename_i o heq;rw[heq] at ha;simp only[SR] at ha;have ai:=aB o;split at h
  .rename_i ty k xs nl ho;rw[ho] at ai;split at h
   .rename_i aC;split at h
    .rename_i a b h1 h2;obtain⟨rfl,rfl⟩:=Jf h;have k0:0<=a:=hc _ (by simp);have k1:a<=b:=hc _ (by simp);have k2:b<=xs.length:=hc _ (by simp);have e1:=ZT (evV:=evV) (d:=0) al h1 k0;have e2:=ZT (evV:=evV) al h2 (by omega);rcases ai with⟨_,rfl,h3⟩|⟨_,i,cap,c,t,h3,h4,h5,h6,h7⟩
     .simp only[List.length_nil] at k2 e2;have za:a.toNat=0:=by omega
      have zb:b.toNat=0:=by omega
      have zc:(b-a).toNat=0:=by omega
      refine⟨.slice none 0 0,?_,?_⟩
      .simp only[Q8,ha.1,h3,e1,e2,za,zb,YK];rfl
      .rw[za,zc];simp only[SR];grind
     .refine⟨.slice (some ⟨i,0+a.toNat*size,none⟩) (b.toNat-a.toNat) (cap-a.toNat),?_,?_⟩
      .simp only[Q8,ha.1,h3,e1,e2]
       grind [Cl]
      .simp only[SR];refine .inr ⟨i,_,cap,cap-a.toNat,h3,by omega,by omega,?_⟩
       grind
    .cases h
   .cases h
  .cases h
 .rename_i o l0 n sz heq;rw[heq] at ha;simp only[SR] at ha;have ai:=aB o;split at h
  .rename_i ty k xs nl ho;rw[ho] at ai;split at h
   .rename_i aC;obtain⟨aC,rfl⟩:=aC;split at h
    .rename_i a b h1 h2;obtain⟨rfl,rfl⟩:=Jf h;have k0:0<=a:=hc _ (by simp);have k1:a<=b:=hc _ (by simp);have k2:b<=n:=hc _ (by simp);have e1:=ZT (evV:=evV) (d:=0) al h1 k0;have e2:=ZT (evV:=evV) al h2 (by omega);rcases ha with⟨rfl,rfl,hv,hp⟩|⟨i,len,cap,aq,h3,h4,h5,hv⟩
     .have za:a.toNat=0:=by omega
      have zb:b.toNat=0:=by omega
      have zc:(b-a).toNat=0:=by omega
      refine⟨.slice none 0 0,?_,?_⟩
      .simp only[Q8,hv,e1,e2,za,zb,YK];rfl
      grind
     .rcases ai with⟨_,_,h6⟩|⟨_,i',iN,c,t,h6,h7,h8,h9,bW⟩
      .rw[h3] at h6;cases h6
      .rw[h3] at h6;obtain⟨rfl,rfl,rfl⟩:=(by simpa using h6:i=i'/\len=xs.length/\cap=iN);refine⟨.slice (some ⟨i,l0*sz+a.toNat*sz,none⟩) (b.toNat-a.toNat) (aq-a.toNat),?_,?_⟩
       .simp only[Q8,hv,e1,e2]
        grind [Cl]
       .simp only[SR];refine .inr ⟨i,_,cap,aq-a.toNat,h3,by omega,by omega,?_⟩
        grind
    .cases h
   .cases h
  .cases h
 .rename_i k l heq;rw[heq] at ha;simp only[SR] at ha;split at h
  .rename_i aC;split at h
   .rename_i a b h1 h2;obtain⟨rfl,rfl⟩:=Jf h;have k0:0<=a:=hc _ (by simp);have k1:a<=b:=hc _ (by simp);have k2:b<=l.length:=hc _ (by simp);have e1:=ZT (evV:=evV) (d:=0) al h1 k0;have e2:=ZT (evV:=evV) al h2 (by omega);obtain⟨v',e⟩:=z_.1 (KC.length ha);obtain⟨u,g1,g2⟩:=Q3f hle (a:=a.toNat) (b:=b.toNat) ha (by omega) (by omega);obtain⟨n,cap,e3⟩:=Z74 ha;refine⟨u,?_,?_⟩
    .simp only[Q8,e3,e1,e2];rw[<-aC,<-e3];exact g1
    .simp only[SR]
     grind
   .cases h
  .cases h
 .rename_i o w heq;rw[heq] at ha;simp only[SR] at ha;have ai:=aB o;split at h
  .rename_i ty q k xs nl hole ho;rw[ho] at ai
   have key:∀ (k:Kind) (l:List k.T),KC (W4 (pl o)) (.list k) l [evV x]->(if k.size=size then (match KW ev lo 0,KW ev hi l.length with
     |some a,some b=>some ([0<=a,a<=b,b<=(l.length:Int)],SV.dd o (.inn k ((l.drop a.toNat).take (b-a).toNat)))
     |_,_=>none) else none)=some (cs,v)->QOk P B pl tb U (.slice size x lo hi none) evV v:=by
    intro k l ha h;split at h
    .rename_i aC;split at h
     .rename_i a b h1 h2;obtain⟨rfl,rfl⟩:=Jf h;have k0:0<=a:=hc _ (by simp);have k1:a<=b:=hc _ (by simp);have k2:b<=l.length:=hc _ (by simp);have e1:=ZT (evV:=evV) (d:=0) al h1 k0;have e2:=ZT (evV:=evV) al h2 (by omega);obtain⟨u,g1,g2⟩:=Q3f (DP.le ai) (a:=a.toNat) (b:=b.toNat) ha (by omega) (by omega);obtain⟨n,cap,e3⟩:=(Su ha).len;refine⟨u,?_,?_⟩
      .simp only[Q8,e3,e1,e2];rw[<-aC,<-e3];exact g1
      .simp only[SR,DR]
       grind
     .cases h
    .cases h
   split at h
   .exact key _ _ ha h
   .exact key _ _ ha.1 h
   .cases h
  .cases h
 .rename_i heq;rw[heq] at ha;simp only[SR] at ha;split at h
  .rename_i a b h1 h2;obtain⟨rfl,rfl⟩:=Jf h;have k0:a=0:=hc _ (by simp);have k1:b=0:=hc _ (by simp);subst k0;subst k1;have e1:=ZT (evV:=evV) (d:=0) al h1 (Int.le_refl _);have e2:=ZT (evV:=evV) (d:=0) al h2 (Int.le_refl _);refine⟨.slice none 0 0,?_,?_⟩
   .simp only[Q8,ha,e1,e2,YK];rfl
   .simp only[SR]
  .cases h
 .cases h
theorem Z4s (al:∀ x,SR P B pl tb (ev x) (evV x)) {neg:Bool}{x y:Operand}(aB:∀ d,OR P B pl tb U (pl d) (Q9 own d)) (h:gq kt raw (.ext (.eqNil 1 neg x y)) ev own=some (cs,v)) (hc:∀ c∈cs,c):QOk P B pl tb U (.ext (.eqNil 1 neg x y)) evV v:=by
 have ha:=al x;have hb:=al y;simp only[gq] at h;split at h
 .rename_i h1 h2;rw[h1] at ha;rw[h2] at hb;simp only[SR] at ha hb;obtain⟨rfl,rfl⟩:=Jf h;refine⟨.bool (!neg),?_,Vq _⟩;simp only[Q8,J5,ha,hb,Y3];cases neg<;>rfl
 .rename_i o h1 h2;rw[h1] at ha;rw[h2] at hb;simp only[SR] at ha hb;have ai:=aB o;split at h
  .rename_i ty k xs nl ho;rw[ho] at ai;obtain⟨rfl,rfl⟩:=Jf h;refine⟨.bool (bif neg then !nl else nl),?_,Vq _⟩;rcases ai with⟨rfl,_,h3⟩|⟨rfl,i,cap,c,t,h3,_⟩
   .simp only[Q8,J5,ha.1,h3,hb,Y3];cases neg<;>rfl
   .simp only[Q8,J5,ha.1,h3,hb,Y3];cases neg<;>rfl
  .cases h
 .rename_i o h1 h2;rw[h1] at ha;rw[h2] at hb;simp only[SR] at ha hb;have ai:=aB o;split at h
  .rename_i ty q k xs nl hole ho;rw[ho] at ai;obtain⟨rfl,rfl⟩:=Jf h;refine⟨.bool (bif neg then !nl else nl),?_,Vq _⟩;obtain⟨is,_,_,g2,_,_,g5⟩:=ai;obtain⟨e1,_⟩:=ha;rcases g2 with⟨_,h3,_⟩|⟨i,cap,c,t,js,h3,_⟩
   .obtain rfl:=g5.2 h3;simp only[Q8,J5,e1,h3,hb,Y3];cases neg<;>rfl
   .have hn:nl=false:=by
     simp_all
    subst hn;simp only[Q8,J5,e1,h3,hb,Y3];cases neg<;>rfl
  .cases h
 .rename_i k l h1 h2;rw[h1] at ha;rw[h2] at hb;simp only[SR] at ha hb;obtain⟨rfl,rfl⟩:=Jf h;have hl:=hc (l≠[]) (by simp);refine⟨.bool neg,?_,Vq _⟩;obtain⟨u,hu,hs⟩:=ha;obtain rfl:=(zR hu).1;rcases hs with⟨e,_⟩|⟨i,o,cap,c,e,wr,t,h3,_⟩
  .exact absurd e hl
  .simp only[Q8,J5,h3,hb,Y3];cases neg<;>rfl
 .cases h
theorem Q97 (al:∀ x,SR P B pl tb (ev x) (evV x)) {mk:MK}{z:Value}{ok:Bool}{x i:Operand}(_hle:B.Le U) (aB:∀ d,OR P B pl tb U (pl d) (Q9 own d)) (h:gq kt raw (.ext (.lookup mk z ok x i)) ev own=some (cs,v)):QOk P B pl tb U (.ext (.lookup mk z ok x i)) evV v:=by
 have ha:=al x;simp only[gq] at h;split at h
 .rename_i o h1;rw[h1] at ha;simp only[SR] at ha;have ai:=aB o;split at h
  .rename_i kk vk m ho;rw[ho] at ai;obtain⟨id,es,clock,h2,h3,h4⟩:=ai;split at h
   .rename_i bL;obtain⟨bL,hz⟩:=bL;split at h
    .rename_i key aL;have hk:=N7 aL (al i) Qt;have bG:=NN bL hk;have hall:=MR.keys bL h4.1;have qx:KV B vk vk.dflt z:=TK hz;have aA:U.mapAt id=some (es,clock,true):=by simp[Heap.mapAt,h3]
     have aJ:=MR.find bL hk qx h4.1
     have base:∀ u,(match Qh (evV i) es with
      |some e=>some (if ok then Value.tuple #[e.2.1,.bool true] else e.2.1,U)
      |none=>some (if ok then .tuple #[z,.bool false] else z,U))=some (u,U)->Q8 (.ext (.lookup mk z ok x i)) evV U=some (u,U):=λu hu=>by
      simp only[Q8,J5,bG,zt,ha.1,h2,aA,hall];exact hu
     cases ok with
     |true =>
      simp only[zt] at h;obtain⟨rfl,rfl⟩:=Jf h;rcases aJ with⟨e,k1,k2,k3⟩|⟨k1,k2,k3⟩
      .refine⟨.tuple #[e.2.1,.bool true],base _ (by rw[k1];rfl),?_⟩;simp only[SR];refine⟨[e.2.1,.bool true],rfl,?_⟩;simp only[SRs,SR];exact⟨_,_,rfl,W6 k3,_,_,rfl,by simp[KC,k2],rfl⟩
      .refine⟨.tuple #[z,.bool false],base _ (by rw[k1];rfl),?_⟩;simp only[SR];refine⟨[z,.bool false],rfl,?_⟩;simp only[SRs,SR];exact⟨_,_,rfl,by rw[k3];exact W6 qx,_,_,rfl,by simp[KC,k2],rfl⟩
     |false =>
      simp only[zm,if_false] at h;obtain⟨rfl,rfl⟩:=Jf h;rcases aJ with⟨e,k1,k2,k3⟩|⟨k1,k2,k3⟩
      .exact⟨e.2.1,base _ (by rw[k1];rfl),W6 k3⟩
      .exact⟨z,base _ (by rw[k1];rfl),by rw[k3];exact W6 qx⟩
    .cases h
   .cases h
  .rename_i ik l ho;rw[ho] at ai;obtain⟨id,es,clock,h2,h3,h4⟩:=ai;split at h
   .rename_i g_ n hi;have hi:=Jt hi (al i);split at h
    .rename_i hc;obtain⟨rfl,bL,rfl⟩:=hc;obtain rfl:=Q7c bL;split at h
     .rename_i f hf;obtain⟨rfl,rfl⟩:=Jf h;obtain⟨k,st,cg⟩:=h4.find hf;have aA:U.mapAt id=some (es,clock,true):=by simp[Heap.mapAt,h3]
      have bG:ZF (.int g_) (evV i)=true:=by rw[hi];simp[ZF]
      refine⟨.func (.func f) #[] #[],?_,?_⟩
      .simp only[Q8,J5,bG,zt,ha.1,h2,aA,h4.keys];rw[hi,cg];rfl
      .simp only[SR];exact⟨[],[],rfl,by simp[SRs],by simp[SRs]⟩
     .cases h
    .cases h
   .cases h
  .cases h
 .cases h
theorem Z14 (al:∀ x,SR P B pl tb (ev x) (evV x)) {x:Operand}(aB:∀ d,OR P B pl tb U (pl d) (Q9 own d)) (h:gq kt raw (.ext (.lenMap x)) ev own=some (cs,v)):QOk P B pl tb U (.ext (.lenMap x)) evV v:=by
 have ha:=al x;simp only[gq] at h;split at h
 .rename_i o h1;rw[h1] at ha;simp only[SR] at ha;have ai:=aB o;split at h
  .rename_i kk vk m ho;rw[ho] at ai;obtain⟨id,es,clock,h2,h3,h4⟩:=ai;obtain⟨rfl,rfl⟩:=Jf h;have aA:U.mapAt id=some (es,clock,true):=by simp[Heap.mapAt,h3]
   refine⟨.int .i64 es.length,by simp only[Q8,J5,ha.1,h2,aA],?_⟩;rw[h4.1.length];exact Kx _ _
  .cases h
 .cases h
theorem MR.at {kk vk:Kind}:∀ {m:List (kk.T×vk.T)}{es:List JO}{r:Nat}{e:JO},MR B kk vk m es->es[r]?=some e->∃ h:r<m.length,KV B kk m[r].1 e.1/\KV B vk m[r].2 e.2.1
 |[],es,r,e,h,he=>by simp only[MR] at h;subst h;simp at he
 |x::m,es,r,e,h,he=>by
  obtain⟨e',bJ,rfl,h1,h2,h3⟩:=h;cases r with
  |zero=>simp only[List.getElem?_cons_zero,xp] at he;subst he;exact⟨by simp,h1,h2⟩
  |succ r =>obtain⟨k1,k2,k3⟩:=MR.at h3 (by simpa using he);exact⟨by simpa using k1,k2,k3⟩
theorem HO:∀ {k:Kind},k.keyk=true->∀ {x:k.T}{cs:List Value},KC B k x cs->cs.all Zl=true
 |.pair a b,hk,x,cs,h=>by simp only[Kind.keyk,z0] at hk;obtain⟨c1,c2,rfl,h1,h2⟩:=h;rw[List.all_append,HO hk.1 h1,HO hk.2 h2];rfl
 |.i _,_,x,cs,h=>by simp only[KC] at h;subst h;rfl
 |.bo,_,x,cs,h=>by simp only[KC] at h;subst h;rfl
 |.st,_,x,cs,h=>by simp only[KC] at h;subst h;rfl
 |.list _,hk,_,_,_=>by cases hk
theorem Oj {k:Kind}(hk:k.keyk=true) {x:k.T}{v:Value}(h:KV B k x v):UI v=true:=by
 rcases h with⟨ho,h⟩|⟨ho,cs,rfl,h⟩
 .have:=HO hk h;rw[zP,z0] at this;have hp:=this.1;cases v<;>first|exact hp|cases hp
 .show cs.toArray.toList.all Zl=true;exact HO hk h
theorem Pa {es:List JO}{clock:Nat}(h:SOk es clock) {r r':Nat}{e e':JO}(h1:es[r]?=some e) (h2:es[r']?=some e') (he:e.2.2=e'.2.2):r=r':=by
 obtain⟨k1,rfl⟩:=zq.1 h1;obtain⟨k2,rfl⟩:=zq.1 h2;have:=h.1
 grind [List.pairwise_iff_getElem,Nat.lt_trichotomy]
theorem Q3y {es:List JO}{clock:Nat}(h:SOk es clock) {r:Nat}{e:JO}(h1:es[r]?=some e):es.find? (λe'=>e'.2.2==e.2.2)=some e:=by
 obtain⟨k1,rfl⟩:=zq.1 h1;rw[List.find?_eq_some_iff_getElem];refine⟨by simp,r,k1,rfl,λj hj=>?_⟩;have cM:j<es.length:=by omega
 simp only[Bool.not_eq_true',y0];intro he;have:=Pa h (z8 cM) h1 he;omega
theorem Z4r (al:∀ x,SR P B pl tb (ev x) (evV x)) (hle:B.Le U) (aB:∀ d,OR P B pl tb U (pl d) (Q9 own d)) {x:Operand}(h:gq kt raw (.ext (.entry x)) ev own=some (cs,v)) (hc:∀ c∈cs,c):QOk P B pl tb U (.ext (.entry x)) evV v:=by
 simp only[gq] at h;split at h
 .rename_i o f h1;split at h
  .rename_i kk vk m dn ho;split at h
   .rename_i ah;obtain⟨rfl,hk,hv⟩:=ah;obtain⟨rfl,rfl⟩:=Jf h;have uy:dn≠[]:=hc _ (by simp);have e1:=al x;rw[h1] at e1;simp only[SR] at e1;obtain⟨b,e2,e3⟩:=e1;have ai:=aB o;rw[ho] at ai;obtain⟨j,i,es,clock,wr,seen,h2,h3,h4,h5,h6⟩:=ai;rw[h2] at e2;obtain rfl:j=b:=by simpa using e2
    have bh:0<dn.length:=zW.2 uy;have dA:dn[dn.length-1]?=some (dn.getLastD 0):=by
     grind
    obtain⟨e,jO,me⟩:=h6.2 _ _ dA;have gi:seen.getLast?=some e.2.2:=by rw[List.getLast?_eq_getElem?,h6.1];exact me
    obtain⟨hr,k1,k2⟩:=MR.at h5.1 jO;have k2:=k2.kc hv;have aA:U.mapAt i=some (es,clock,wr):=by simp[Heap.mapAt,hle.2 _ _ h4]
    have cg:=Q3y h5.2 jO;refine⟨.tuple #[e.1,e.2.1],?_,?_⟩
    .simp only[Q8,J5,e3,h3,aA,gi,cg,zt];rw[z6 (Oj hk k1)]
    .simp only[SR,SRs]
     grind [List.getElem?_eq_getElem,W6]
   .cases h
  .cases h
 .cases h
theorem FN (al:∀ x,SR P B pl tb (ev x) (evV x)) (uz:∀ c,evV (.const c)=c) (hle:B.Le U) (aB:∀ d,OR P B pl tb U (pl d) (Q9 own d)) {o:VOp}(h:gq kt raw o ev own=some (cs,v)) (hc:∀ c∈cs,c):QOk P B pl tb U o evV v:=by
 cases o with
 |move x=>obtain⟨rfl,rfl⟩:=Jf h;exact⟨evV x,rfl,al x⟩
 |arith=>exact Z4v al h hc
 |div=>exact J22 al h hc
 |bits=>exact Z6i al h
 |shift=>exact Z48 al h hc
 |cmp=>exact J0n al h
 |eqB=>exact Z9t al h
 |un=>exact J53 al h hc
 |convI=>exact Z4f al h hc
 |build=>exact Z3k al h
 |load=>exact Z7q al hle aB h
 |fieldAddr=>exact Q0s al h
 |field=>exact Z4g al h
 |indexAddr=>exact Q1l al hle aB h hc
 |indexStr=>exact Q4k al h hc
 |slice=>exact Z4a al hle aB h hc
 |len=>exact J2r al aB h
 |max=>exact J0z al h
 |makeFunc=>exact Q4i al h
 |extract=>exact Q6v al h
 |nilCheck=>exact Q4w al h
 |ext x =>
  cases x with
  |eqNil k neg a b =>
   match k with
   |1=>exact Z4s al aB h hc
   |0=>cases h
   |(n+2)=>cases h
  |lookup=>exact Q97 al hle aB h
  |lenMap=>exact Z14 al aB h
  |entry a=>exact Z4r al hle aB h hc
  |_=>cases h
 |_=>cases h
end
end
end Go.V
namespace Go.V
open Go
theorem J5a {α:Type}{l:List α}(h:¬ l=[]) (b:Bool):(l.isEmpty&&b)=false:=by simp_all
theorem J1w {α:Type}{l:List α}(h:¬ l=[]):l.isEmpty=false:=by simp_all
theorem Vm {c vs:List Value}{o:Nat}(h:o+vs.length<=c.length):Wz c o vs=c.take o++vs++c.drop (o+vs.length):=by
 apply zT;intro k;rcases zo k o with hk|hk
 .rw[Ur vs c o k (.inl hk),x9,xH (by simp;omega),xu,z6 hk]
 .rcases zo k (o+vs.length) with aw|aw
  .have:=Fh vs c o (k-o) h (by omega)
   grind
  .rw[Ur vs c o k (.inr aw),xF (by simp;omega),zZ];congr 1;simp;omega
theorem Z0p (us c:List Value) {m p n off:Nat}(h1:off+us.length<=n) (h2:p+n<=m) (h3:m<=c.length) :
  (Wz c (p+off) us).take m=(c.take m).take p++Wz (((c.take m).drop p).take n) off us++(c.take m).drop (p+n):=by
 have l1:(((c.take m).drop p).take n).length=n:=by simp;omega
 have dT:∀ q,q<n->(((c.take m).drop p).take n)[q]?=c[p+q]?:=(by simp_all);generalize ((c.take m).drop p).take n=row at l1 dT;have l2:((c.take m).take p).length=p:=by simp;omega
 have l3:(Wz row off us).length=n:=by rw[Xa,l1]
 have g2:∀ q,q<p->((c.take m).take p)[q]?=c[q]?:=(by simp_all);generalize (c.take m).take p=pre at l2 g2;apply zT;intro j;rw[xu,x9];by_cases hj:j<m
 .rw[z6 hj];rcases zo j p with a1|a1
  .grind [Ur,List.getElem?_append_left]
  .rw[xF (by omega),l2];rcases zo j (p+n) with a2|a2
   .rw[xH (by omega)];rcases zo (j-p) off with a3|a3
    .grind [Ur]
    .rcases zo (j-p) (off+us.length) with a4|a4
     .have b1:=Fh us c (p+off) (j-(p+off)) (by omega) (by omega);have b2:=Fh us row off (j-(p+off)) (by omega) (by omega);rw[show p+off+(j-(p+off))=j by omega] at b1;rw[show off+(j-(p+off))=j-p by omega] at b2;rw[b1,b2]
     grind [Ur]
   .rw[Ur us c _ j (.inr (by omega)),xF (by omega),zZ,xu,l3,z6 (by omega)];congr 1;omega
 grind
theorem Heap.Le.push {B U:Heap}(h:B.Le U) (b:Blk):B.Le (U.push b) :=
 ⟨by have:=h.1;simp;omega,λi b' hb=>by rw[Heap.q0i _ _ (U.lt (h.2 i b' hb))];exact h.2 i b' hb⟩
theorem Heap.Le.upd {B U:Heap}(h:B.Le U) {i:Nat}(hi:B.get i=none) (b:Blk):B.Le (U.upd i b) :=
 ⟨by simpa using h.1,λj b' hb=>by
  have:j≠i:=(by grind);rw[Heap.q0b _ _ this];exact h.2 j b' hb⟩
theorem Heap.Le.kill {B U:Heap}(h:B.Le U) {i:Nat}(hi:B.get i=none):B.Le (U.kill i) :=
 ⟨by simpa using h.1,λj b' hb=>by
  have:j≠i:=(by grind);rw[Heap.q0d _ this];exact h.2 j b' hb⟩
theorem Heap.Le.fresh {B U:Heap}(h:B.Le U):B.get U.n=none:=B.wf _ h.1
section
variable {P:Program}{B F:Heap}{pl:Nat->Value}{tb:Nat->Option Bool}{s:St}{env:Env}{U:Heap}
theorem OR.q0r {p:Value}{b:OB}(h:OR P B pl tb U p b) (hl:b.live=true) {i:Nat}(hi:Oid p i):i<U.n:=by
 cases b with
 |dead=>cases hl
 |lst ty k xs nl =>
  rcases h with⟨_,_,rfl⟩|⟨_,i',cap,c,t,rfl,_,h3,_⟩
  .cases hi
  .obtain rfl:=osj hi;exact U.lt h3
 |cells l u=>obtain⟨i',c,e,t,rfl,h2,_⟩:=h;obtain rfl:=osj hi;exact U.lt h2
 |map kk vk m=>obtain⟨i',es,clock,rfl,h2,_⟩:=h;obtain rfl:=osj hi;exact U.lt h2
 |mapE kk vk m key n=>obtain⟨i',es,clock,r,e,rfl,h2,_⟩:=h;obtain rfl:=osj hi;exact U.lt h2
 |fm ik l=>obtain⟨i',es,clock,rfl,h2,_⟩:=h;obtain rfl:=osj hi;exact U.lt h2
 |iter kk vk m dn=>obtain⟨j,i',es,clock,wr,seen,rfl,h2,_⟩:=h;obtain rfl:=osj hi;exact U.lt h2
 |siter l pos=>obtain⟨j,s',rfl,h2,_⟩:=h;obtain rfl:=osj hi;exact U.lt h2
 |rmap kk vk m=>cases hl
 |lpf l q s=>obtain⟨rfl,_,h2⟩:=h;obtain rfl:=osj hi;exact U.lt (h2 hl)
 |deep ty q k xs nl hh =>obtain⟨is,hO,_,_,_,h4,_⟩:=h;obtain⟨b',cq⟩:=(hO i).1 hi;exact U.lt (h4 i b' cq)
 |stk l vals=>cases hl
theorem Gam.push (h:Gam P B F pl tb s env U) (d:Nat) (b:OB) (p:Value) (blk:Blk) (hp:oid p=some U.n) (hb:OR P B (ZR pl d p) tb (U.push blk) p b):Gam P B F (ZR pl d p) tb (s.make d b) env (U.push blk):=by
 refine h.make d b p (h.le.push blk) (λj i hj hl hi=>?_) hb (λi _ hi=>?_)
 .exact Heap.q0i _ _ ((h.obj j).q0r hl hi)
 .obtain rfl:=Q7s hp hi;exact⟨h.le.fresh,λj _ hl e=>by have:=(h.obj j).q0r hl e;omega⟩
theorem Rows.cellOk {k:Kind}{xs:List k.T}{cs:List Value}(h:Rows (KC B k) xs cs):cs.all Go.V.cellOk=true:=by
 induction h with
 |nil=>rfl
 |cons h _ ih=>rw[List.all_append,KC.cellOk h,ih];rfl
theorem Tr {pl:Nat->Value}:∀ {k:Kind}{off:Nat}{v:SV}{u:Value}{x y:k.T}{row:List Value},Z83 k off v x=some y->KC B k x row->SR P B pl tb v u->off<k.size->KC B k y (Wz row off [u])
 |.pair a b,off,v,u,x,y,row,h,hr,hv,ho=>by
  obtain⟨c1,c2,rfl,h1,h2⟩:=hr;have l1:=KC.length h1;have l2:=KC.length h2;simp only[Z83] at h;simp only[Wz];cases hb:Nat.blt off a.size with
  |true =>
   rw[hb] at h;simp only[ze,zi] at h;obtain⟨z,h3,rfl⟩:=h;have aU:off<a.size:=by simpa [zA] using hb
   have:=Tr h3 h1 hv aU;exact⟨c1.set off u,c2,by simp_all,this,h2⟩
  |false =>
   rw[hb] at h;simp only[zM,zi] at h;obtain⟨z,h3,rfl⟩:=h;have aU:¬ off<a.size:=by
    grind [Nat.blt_eq]
   simp only[Kind.size] at ho;have:=Tr h3 h2 hv (by omega);refine⟨c1,c2.set (off-a.size) u,?_,h1,this⟩;rw[List.set_append_right _ _ (by omega),l1]
 |.i ik,off,v,u,x,y,row,h,hr,hv,ho=>by
  have:=Qt (k:=.i ik) h (show SRs P B pl tb [v] [u] by simp only[SRs];exact⟨_,[],rfl,hv,rfl⟩);have hl:=KC.length hr;simp only[Kind.size] at hl ho;obtain⟨c,rfl⟩:=z_.1 hl;obtain rfl:off=0:=by omega
  exact this
 |.bo,off,v,u,x,y,row,h,hr,hv,ho=>by
  have:=Qt (k:=.bo) h (show SRs P B pl tb [v] [u] by simp only[SRs];exact⟨_,[],rfl,hv,rfl⟩);have hl:=KC.length hr;simp only[Kind.size] at hl ho;obtain⟨c,rfl⟩:=z_.1 hl;obtain rfl:off=0:=by omega
  exact this
 |.st,off,v,u,x,y,row,h,hr,hv,ho=>by
  have:=Qt (k:=.st) h (show SRs P B pl tb [v] [u] by simp only[SRs];exact⟨_,[],rfl,hv,rfl⟩);have hl:=KC.length hr;simp only[Kind.size] at hl ho;obtain⟨c,rfl⟩:=z_.1 hl;obtain rfl:off=0:=by omega
  exact this
 |.list k,off,v,u,x,y,row,h,hr,hv,ho=>by
  have:=Qt (k:=.list k) h (show SRs P B pl tb [v] [u] by simp only[SRs];exact⟨_,[],rfl,hv,rfl⟩);have hl:=KC.length hr;simp only[Kind.size] at hl ho;obtain⟨c,rfl⟩:=z_.1 hl;obtain rfl:off=0:=by omega
  exact this
theorem DU {mk:MK}{kk vk:Kind}(hk:gq.mkOk mk kk=true) {key:kk.T}{x:vk.T}{kv xv:Value}{clock:Nat}(aL:KV B kk key kv) (hx:KV B vk x xv):∀ {m:List (kk.T×vk.T)}{es:List JO},MR B kk vk m es->MR B kk vk (P3 kk m key x) (Qx kv xv clock es).1
 |[],es,h=>by simp only[MR] at h;subst h;exact⟨_,[],rfl,aL,hx,rfl⟩
 |m::ms,es,h=>by
  obtain⟨e,bJ,rfl,h2,h3,h4⟩:=h;have hq:=PH hk aL h2;simp only[Qx,P3,hq];cases gq.keq kk key m.1 with
  |true=>exact⟨_,bJ,rfl,aL,hx,h4⟩
  |false=>exact⟨e,_,rfl,h2,h3,DU hk aL hx h4⟩
theorem HI (k v:Value) (clock:Nat):∀ es:List JO,((Qx k v clock es).2=clock/\(Qx k v clock es).1.map (λe=>e.2.2)=es.map λe=>e.2.2)\/((Qx k v clock es).2=clock+1/\(Qx k v clock es).1.map (λe=>e.2.2)=(es.map λe=>e.2.2)++[clock])
 |[]=>.inr ⟨rfl,rfl⟩
 |e::es=>by
  simp only[Qx];split
  .exact .inl ⟨rfl,rfl⟩
  .rcases HI k v clock es with⟨h1,h2⟩|⟨h1,h2⟩
   .exact .inl ⟨h1,by simp[h2]⟩
   .exact .inr ⟨h1,by simp[h2]⟩
theorem SOk.put {es:List JO}{clock:Nat}(h:SOk es clock) {k v:Value}:SOk (Qx k v clock es).1 (Qx k v clock es).2:=by
 obtain⟨h1,h2⟩:=h;have mem:∀ (l:List JO) (x:Nat),x∈l.map (λe=>e.2.2)<->∃ e∈l,e.2.2=x:=λl x=>by simp
 rcases HI k v clock es with⟨e1,e2⟩|⟨e1,e2⟩
 .refine⟨by rw[e2];exact h1,λe he=>?_⟩;have:e.2.2∈es.map λe=>e.2.2:=by grind
  grind
 .refine⟨?_,λe he=>?_⟩
  .grind
  .have:e.2.2∈(es.map λe=>e.2.2)++[clock]:=by grind
   grind
theorem E6 {mk:MK}{kk vk:Kind}(hk:gq.mkOk mk kk=true) {key:kk.T}{kv:Value}(aL:KV B kk key kv):∀ {m:List (kk.T×vk.T)}{es:List JO},MR B kk vk m es->MR B kk vk (Q9d kk m key) (Uv kv es)
 |[],es,h=>by simp only[MR] at h;subst h;rfl
 |m::ms,es,h=>by
  obtain⟨e,bJ,rfl,h2,h3,h4⟩:=h;have hq:=PH hk aL h2;simp only[Uv,Q9d,hq];cases gq.keq kk key m.1 with
  |true=>exact h4
  |false=>exact⟨e,_,rfl,h2,h3,E6 hk aL h4⟩
theorem To (k:Value):∀ es:List JO,(Uv k es).Sublist es
 |[]=>.slnil
 |e::es=>by
  simp only[Uv];split
  .exact List.sublist_cons_self _ _
  .exact(To k es).cons_cons _
theorem SOk.del {es:List JO}{clock:Nat}(h:SOk es clock) {k:Value}:SOk (Uv k es) clock :=
 ⟨h.1.sublist ((To k es).map _),λe he=>h.2 e ((To k es).subset he)⟩
def Fr (T:Nat) (s s':St) (pl pl':Nat->Value) (U U':Heap):Prop :=
 ∀ q,q≠T->(Q9 s'.own q).live=(Q9 s.own q).live/\pl' q=pl q/\((Q9 s.own q).live=true->∀ i,Oid (pl q) i->U'.get i=U.get i)
theorem KA (s:St) (d:Nat) (b:OB) {q:Nat}(hq:q≠d):(Q9 (s.make d b).own q).live=(Q9 s.own q).live:=by simp only[St.make,St.kill,Qa,Vl,z7 hq,OB.q0o]
theorem Gam.makeF {s:St}{env:Env}{U U':Heap}{pl:Nat->Value}(h:Gam P B F pl tb s env U) (d:Nat) (b:OB) (p:Value) (hle:F.Le U') (ho:∀ j i,j≠d->(Q9 s.own j).live=true->Oid (pl j) i->U'.get i=U.get i)
  (hb:OR P B (ZR pl d p) tb U' p b) (hf:∀ i,b.live=true->Oid p i->F.get i=none/\∀ j,j≠d->(Q9 s.own j).live=true->¬ Oid (pl j) i):Gam P B F (ZR pl d p) tb (s.make d b) env U'/\Fr d s (s.make d b) pl (ZR pl d p) U U' :=
 ⟨h.make d b p hle ho hb hf,λq hq=>⟨KA s d b hq,by simp[ZR,hq],λhl i hi=>ho q i hq hl hi⟩⟩
theorem Gam.writeF {s:St}{env:Env}{U U':Heap}{pl:Nat->Value}(h:Gam P B F pl tb s env U) (d:Nat) (b:OB) (hle:F.Le U') (af:(Q9 s.own d).live=true)
  (cJ:∀ j i,j≠d->(Q9 s.own j).live=true->Oid (pl j) i->U'.get i=U.get i) (hb:OR P B pl tb U' (pl d) b):Gam P B F pl tb ⟨s.env,oset s.own d b,s.nx⟩ env U'/\Fr d s ⟨s.env,oset s.own d b,s.nx⟩ pl pl U U' :=
 ⟨h.write d b hle af cJ hb,λq hq=>⟨by simp only[Qa,z7 hq],rfl,λhl i hi=>cJ q i hq hl hi⟩⟩
theorem Gam.pushF {s:St}{env:Env}{U:Heap}{pl:Nat->Value}(h:Gam P B F pl tb s env U) (d:Nat) (b:OB) (p:Value) (blk:Blk) (hp:oid p=some U.n) (hb:OR P B (ZR pl d p) tb (U.push blk) p b):Gam P B F (ZR pl d p) tb (s.make d b) env (U.push blk)/\Fr d s (s.make d b) pl (ZR pl d p) U (U.push blk) :=
 ⟨h.push d b p blk hp hb,λq hq=>⟨KA s d b hq,by simp[ZR,hq],λhl i hi=>Heap.q0i _ _ ((h.obj q).q0r hl hi)⟩⟩
def NOk (P:Program) (B F:Heap) (tb:Nat->Option Bool) (o:VOp) (evV:Operand->Value) (env:Env) (U:Heap) (K:SV->St->Prop) (T:Nat) (s:St) (pl:Nat->Value):Prop :=
 ∃ u U' pl' v s',Q8 o evV U=some (u,U')/\K v s'/\(Gam P B F pl' tb s' env U'/\Fr T s s' pl pl' U U')/\SR P B pl' tb v u
theorem Xo (pl:Nat->Value) (d:Nat) (p:Value):ZR pl d p d=p:=by simp[ZR]
section
variable {C:Cx}{d:Nat}{ev:Operand->SV}{evV:Operand->Value}{K:SV->St->Prop}
theorem Q8x (al:∀ x,SR P B pl tb (ev x) (evV x)) (hG:Gam P B F pl tb s env U) {t:Nat}{z:List Value}(h:gn C d (.alloc t z) ev s K):NOk P B F tb (.alloc t z) evV env U K (Z1 d (.alloc t z) ev) s pl:=by
 have _hev:=al;simp only[gn] at h;refine⟨.pointer (some ⟨U.n,0,none⟩),_,ZR pl d (.pointer (some ⟨U.n,0,none⟩)),_,_,rfl,h,hG.pushF d _ _ _ rfl ?_,?_⟩
 .refine⟨U.n,z,_,_,rfl,Heap.q0a _ _,?_,(by simp_all)⟩;have hz:SRs P B (ZR pl d (.pointer (some ⟨U.n,0,none⟩))) tb (z.map cvp) (z.map id):=SRs.map λx _=>PN x
  rwa [List.map_id] at hz
 .simp only[SR,Xo];exact⟨_,rfl,rfl⟩
theorem Z62 (al:∀ x,SR P B pl tb (ev x) (evV x)) (hG:Gam P B F pl tb s env U) {t:Nat}{x:Operand}(h:gn C d (.box t x) ev s K):NOk P B F tb (.box t x) evV env U K (Z1 d (.box t x) ev) s pl:=by
 simp only[gn] at h;split at h
 .rename_i l hl;obtain⟨c,h1,h2,_⟩:=X0 hl (al x);refine⟨.pointer (some ⟨U.n,0,none⟩),U.push (.cells c ⟨c.length,t⟩ true true),ZR pl d (.pointer (some ⟨U.n,0,none⟩)),_,_,by simp only[Q8,h1],h,hG.pushF d _ _ _ rfl ?_,?_⟩
  .exact⟨U.n,c,_,_,rfl,Heap.q0a _ _,SRs.upd (Heap.Le.refl B) (λ_ _ h=>h) (λj hj=>by simp[ZR,hj]) _ _ h2,(by simp_all)⟩
  .simp only[SR,Xo];exact⟨_,rfl,rfl⟩
 .cases h
theorem R1 (al:∀ x,SR P B pl tb (ev x) (evV x)) {k:Kind}:∀ {ps:List (Nat×Operand)}{xs ys:List k.T}{c:List Value},Ou k ev ps xs=some ys->Rows (KC B k) xs c ->
  ys.length=xs.length/\∃ c',Gf c (ps.map λp=>(p.1*k.size,k.size,evV p.2))=some c'/\Rows (KC B k) ys c'
 |[],xs,ys,c,h,hr=>by obtain rfl:=osj h;exact⟨rfl,c,rfl,hr⟩
 |(j,x)::r,xs,ys,c,h,hr=>by
  simp only[Ou] at h;split at h
  .rename_i l hl;split at h
   .rename_i y hy;split at h
    .rename_i hj;obtain⟨vs,h1,h2,_⟩:=X0 hl (al x);have hk:=Qt hy h2;have hlen:=KC.length hk;have cu:=hr.length KC.q0f;have cM:(j+1)*k.size<=xs.length*k.size:=zk _ hj;rw[zF,xr] at cM;have a7:=hr.set KC.q0f hj hk;have e:Wz c (j*k.size) vs=c.take (j*k.size)++vs++c.drop (j*k.size+k.size):=by
      rw[Vm (by omega),hlen]
     rw[<-e] at a7;obtain⟨h3,c',h4,h5⟩:=R1 al h a7;refine⟨by rw[h3,zE],c',?_,h5⟩;simp only[zO,Gf,h1];simp_all
    .cases h
   .cases h
  .cases h
theorem GO (al:∀ x,SR P B pl tb (ev x) (evV x)) (hG:Gam P B F pl tb s env U) {e:El}{z:List Value}{n:Nat}{ps:List (Nat×Operand)}(h:gn C d (.buildSlice e z n ps) ev s K):NOk P B F tb (.buildSlice e z n ps) evV env U K (Z1 d (.buildSlice e z n ps) ev) s pl:=by
 simp only[gn] at h;split at h
 .rename_i k _;split at h
  .rename_i hc;obtain⟨aC,hz⟩:=hc;split at h
   .rename_i xs hx;have qy:KC B k k.dflt z:=WG hz;have dT:Rows (KC B k) (List.replicate n k.dflt) (TW n z):=by rw[KB];exact Rows.replicate qy n
    obtain⟨h3,c',h4,h5⟩:=R1 (B:=B) al hx dT;rw[xK] at h3;have cu:=h5.length KC.q0f;refine⟨.slice (some ⟨U.n,0,none⟩) n n,U.push (.cells c' e true true),ZR pl d (.slice (some ⟨U.n,0,none⟩) n n),_,_,?_,h,hG.pushF d _ _ _ rfl ?_,?_⟩
    .simp only[Q8];rw[<-aC,h4]
    .refine .inr ⟨rfl,U.n,n,c',true,by rw[h3],by omega,?_,by rw[cu,h3];exact z9 _,?_⟩
     .rw[Heap.q0a,aC]
     grind
    .simp only[SR,Xo];exact⟨trivial,_,_,_,rfl⟩
   .cases h
  .cases h
 .cases h
theorem Cn (al:∀ x,SR P B pl tb (ev x) (evV x)) (hG:Gam P B F pl tb s env U) {e:El}{bytes:Nat}{z:List Value}{l c:Operand}(h:gn C d (.makeSlice e bytes z l c) ev s K):NOk P B F tb (.makeSlice e bytes z l c) evV env U K (Z1 d (.makeSlice e bytes z l c) ev) s pl:=by
 simp only[gn] at h;split at h
 .rename_i k k1 a k2 b _ h1 h2;have e1:=Jt h1 (al l);have e2:=Jt h2 (al c);split at h
  .rename_i hc;obtain⟨aC,hz⟩:=hc;simp only[E0,Z23] at h;obtain⟨k3,k4,k5,k6,h⟩:=h;have qy:KC B k k.dflt z:=WG hz;have dT:Rows (KC B k) (List.replicate b.toNat k.dflt) (TW b.toNat z):=by rw[KB];exact Rows.replicate qy _
   have cu:=dT.length KC.q0f;rw[xK] at cu;have ht:=dT.take KC.q0f a.toNat;rw[List.take_replicate,xJ (by omega)] at ht;refine⟨.slice (some ⟨U.n,0,none⟩) a.toNat b.toNat,U.push (.cells (TW b.toNat z) e true true),ZR pl d (.slice (some ⟨U.n,0,none⟩) a.toNat b.toNat),_,_,?_,h,hG.pushF d _ _ _ rfl ?_,?_⟩
   .simp only[Q8,e1,e2];simp_all
   .refine .inr ⟨rfl,U.n,b.toNat,_,true,by rw[xK],by simp;omega,?_,by rw[cu];exact z9 _,?_⟩
    .rw[Heap.q0a,aC]
    .rw[xK];exact ht
   .simp only[SR,Xo];exact⟨trivial,_,_,_,rfl⟩
  .cases h
 .cases h
theorem Q3m (al:∀ x,SR P B pl tb (ev x) (evV x)) (hG:Gam P B F pl tb s env U) {e:El}{bytes:Nat}{x y:Operand}(h:gn C d (.append e bytes x y) ev s K):NOk P B F tb (.append e bytes x y) evV env U K (Z1 d (.append e bytes x y) ev) s pl:=by
 have ha:=al x;simp only[gn] at h;split at h
 .rename_i k _;split at h
  .rename_i ys hy;obtain⟨cs,ay,uA,az,ck,sk⟩:=(DJ hG.leB hG.obj hy (al y)).sl;have ak:cs.all cellOk=true:=ck.cellOk;have cu:=ck.length KC.q0f;split at h
   .rename_i hx;have hT:Z1 d (.append e bytes x y) ev=d:=by simp only[Z1,hx]
    rw[hT];rw[hx] at ha;simp only[SR] at ha;split at h
    .rename_i aC;simp only[E0,Z23] at h;obtain⟨h1,h⟩:=h;rw[aC] at az;have base:Q8 (.append e bytes x y) evV U=Wc e bytes U (.slice none 0 0) ys.length cs:=by
      simp only[Q8,sk] at az |-;simp only[az,ak,zt,ha]
     by_cases hm:ys=[]
     .subst hm;refine⟨.slice none 0 0,U,ZR pl d (.slice none 0 0),_,_,by rw[base];rfl,h,?_,?_⟩
      .refine hG.makeF d _ _ hG.le (λj i _ _ _=>rfl) (.inl ⟨rfl,rfl,rfl⟩) λi _ hi=>by cases hi
      .simp only[SR,Xo];exact⟨trivial,_,_,_,rfl⟩
     .have dH:ys.length≠0:=(by simp_all);refine⟨.slice (some ⟨U.n,0,none⟩) ys.length ys.length,U.push (.cells cs e true false),ZR pl d (.slice (some ⟨U.n,0,none⟩) ys.length ys.length),_,_,?_,h,hG.pushF d _ _ _ rfl ?_,?_⟩
      .rw[base];simp only[Wc];simp_all
      .refine .inr ⟨J1w hm,U.n,ys.length,cs,false,rfl,z9 _,?_,by omega,?_⟩
       .rw[Heap.q0a,aC]
       grind
      .simp only[SR,Xo];exact⟨trivial,_,_,_,rfl⟩
    .cases h
   .rename_i o hx;have hT:Z1 d (.append e bytes x y) ev=o:=by simp only[Z1,hx]
    rw[hT];rw[hx] at ha;simp only[SR] at ha;have ai:=hG.obj o;split at h
    .rename_i ty k' xs nl ho;rw[ho] at ai;have af:(Q9 s.own o).live=true:=by rw[ho];rfl
     split at h
     .rename_i aC;obtain⟨ig,aC⟩:=aC;split at h
      .rename_i cy fj;obtain rfl:=JP fj;obtain rfl:=JS fj;simp only[E0,Z23] at h;obtain⟨h1,h⟩:=h;rw[aC] at az;have base:Q8 (.append e bytes x y) evV U=Wc e bytes U (pl o) ys.length cs:=by
        simp only[Q8,sk] at az |-;simp only[az,ak,zt,ha.1]
       have he:e=⟨k'.size,ty⟩:=by simp_all
       rcases ai with⟨rfl,rfl,h3⟩|⟨rfl,i,cap,c,t,h3,h4,h5,h6,h7⟩
       .
        rw[h3] at base;by_cases hm:ys=[]
        .subst hm;refine⟨.slice none 0 0,U,ZR pl o (.slice none 0 0),_,_,by rw[base];rfl,h,?_,?_⟩
         .refine hG.makeF o _ _ hG.le (λj i _ _ _=>rfl) (.inl ⟨rfl,rfl,rfl⟩) λi _ hi=>by cases hi
         .simp only[SR,Xo];exact⟨trivial,_,_,_,rfl⟩
        .have dH:ys.length≠0:=(by grind);refine⟨.slice (some ⟨U.n,0,none⟩) ys.length ys.length,U.push (.cells cs e true false),ZR pl o (.slice (some ⟨U.n,0,none⟩) ys.length ys.length),_,_,?_,h,hG.pushF o _ _ _ rfl ?_,?_⟩
         .rw[base];simp only[Wc]
          grind
         .rw[xD];refine .inr ⟨J5a hm _,U.n,ys.length,cs,false,rfl,z9 _,?_,by omega,?_⟩
          .rw[Heap.q0a,he]
          grind
         .simp only[SR,Xo];exact⟨trivial,_,_,_,rfl⟩
       .rw[h3] at base;have k1:cy.length*k'.size<=cap*k'.size:=zk _ h4;have a8:F.get i=none:=hG.fresh o i af (by rw[h3];rfl);have cE:∀ j i',j≠o->(Q9 s.own j).live=true->Oid (pl j) i'->i'≠i:=λj i' hj hl hi e=>by
         subst e;exact hG.sep j o i' hj hl af hi (by rw[h3];rfl)
        have ah:e=e/\cy.length<=cap/\0+cy.length*e.sz<=c.length:=⟨rfl,h4,by rw[<-aC];omega⟩;simp only[Wc,h5] at base;rw[<-he,z6 ah] at base;by_cases hm:ys=[]
        .subst hm;simp only[List.length_nil,zt] at base;refine⟨_,U,ZR pl o (pl o),_,_,base,h,?_,?_⟩
         .refine hG.makeF o _ _ hG.le (λj i _ _ _=>rfl) (.inr ⟨rfl,i,cap,c,t,?_,?_,h5,h6,?_⟩) λi' _ hi=>?_
          .rw[h3];simp
          .simpa using h4
          .simpa using h7
          .rw[h3] at hi;obtain rfl:=osj hi
           grind
         .simp only[SR,Xo,h3];exact⟨trivial,_,_,_,rfl⟩
        .have dH:ys.length≠0:=(by grind);have iz:(ys.isEmpty&&false)=false:=by simp
         have lu:Rows (KC B k') (cy++ys) (c.take (cy.length*k'.size)++cs):=h7.append ck;have dQ:=lu.length KC.q0f;rw[z7 dH] at base;by_cases aK:cy.length+ys.length<=cap
         .have fL:(cy.length+ys.length)*k'.size<=cap*k'.size:=zk _ aK;have gW:cy.length*k'.size+ys.length*k'.size<=cap*k'.size:=by rw[<-zF];exact fL
          rw[z6 aK,z6 ⟨trivial,by rw[<-aC];omega⟩] at base;refine⟨_,_,ZR pl o (.slice (some ⟨i,0,none⟩) (cy.length+ys.length) cap),_,_,base,h,?_,?_⟩
          .refine hG.makeF o _ _ (hG.le.upd a8 _) (by grind [Heap.q0b]) (.inr ⟨iz,i,cap,Wz c (0+cy.length*e.sz) cs,t,by rw[zG],by rw[zG];exact aK,?_,?_,?_⟩) λi' _ hi=>?_
           .rw[Heap.q0c _ _ (U.lt h5),he]
           .rw[Xa];exact h6
           .have dz:0+cy.length*e.sz+cs.length<=c.length:=by rw[<-aC];omega
            rw[Vm dz,<-aC,zU,List.take_left' (by rw[dQ])];exact lu
           .obtain rfl:=osj hi
            grind
          .simp only[SR,Xo];exact⟨trivial,_,_,_,rfl⟩
         .rw[z7 aK,z6 (by simpa using h1)] at base;have eC:((c.drop 0).take (cy.length*e.sz)++cs)=c.take (cy.length*k'.size)++cs:=by rw[xB,aC]
          cases t with
          |true =>
           simp only[zt] at base;rw[eC] at base;refine⟨_,_,ZR pl o (.slice (some ⟨U.n,0,none⟩) (cy.length+ys.length) (cy.length+ys.length)),_,_,base,h,hG.pushF o _ _ _ rfl (.inr ⟨iz,U.n,cy.length+ys.length,c.take (cy.length*k'.size)++cs,false,by rw[zG],by grind,?_,?_,?_⟩),?_⟩
           .rw[Heap.q0a,he]
           .grind
           .grind
           .simp only[SR,Xo];exact⟨trivial,_,_,_,rfl⟩
          |false =>
           simp only[zm,if_false,zt] at base;rw[eC] at base;have hn:(U.kill i).n=U.n:=rfl;refine⟨_,_,ZR pl o (.slice (some ⟨U.n,0,none⟩) (cy.length+ys.length) (cy.length+ys.length)),_,_,base,h,?_,?_⟩
           .refine hG.makeF o _ _ ((hG.le.kill a8).push _) (λj i' hj hl hi=>?_) (.inr ⟨iz,U.n,cy.length+ys.length,c.take (cy.length*k'.size)++cs,false,by rw[zG],by grind,?_,?_,?_⟩) λi' _ hi=>?_
            .rw[Heap.q0i _ _ (by rw[hn];exact(hG.obj j).q0r hl hi)]
             grind [Heap.q0d]
            .rw[<-hn,Heap.q0a,he]
            .grind
            .grind
            .obtain rfl:=osj hi;exact⟨hG.le.fresh,λj _ hl e=>ya U.n ((hG.obj j).q0r hl e)⟩
           .simp only[SR,Xo];exact⟨trivial,_,_,_,rfl⟩
      .cases h
     .cases h
    .cases h
   .cases h
  .cases h
 .cases h
theorem Q7w (al:∀ x,SR P B pl tb (ev x) (evV x)) (hG:Gam P B F pl tb s env U) {size:Nat}{a x:Operand}(h:gn C d (.store size a x) ev s K):NOk P B F tb (.store size a x) evV env U K (Z1 d (.store size a x) ev) s pl:=by
 have ha:=al a;simp only[gn] at h;split at h
 .rename_i o off vs h1 h2;have hT:Z1 d (.store size a x) ev=o:=by simp only[Z1,h1]
  rw[hT];obtain⟨us,h3,h4,h5⟩:=X0 h2 (al x);rw[h1] at ha;simp only[SR] at ha;obtain⟨b,h6,h7⟩:=ha;have ai:=hG.obj o;split at h
  .rename_i l u ho;rw[ho] at ai;have af:(Q9 s.own o).live=true:=by rw[ho];rfl
   obtain⟨i,c,e,t,h8,h9,bW,gJ⟩:=ai;rw[h6] at h8;obtain rfl:=(by simpa using h8:b=i);split at h
   .rename_i hc;have a8:F.get b=none:=hG.fresh o b af (by rw[h6];rfl);have cE:∀ j i',j≠o->(Q9 s.own j).live=true->Oid (pl j) i'->i'≠b:=λj i' hj hl hi e=>by
     subst e;exact hG.sep j o i' hj hl af hi (by rw[h6];rfl)
    refine⟨undef,U.upd b (.cells (Wz c off us) e true t),pl,_,_,?_,h,hG.writeF o _ (hG.le.upd a8 _) af (by grind [Heap.q0b]) ?_,by simp[SR]⟩
    .simp only[Q8,h7,h3,h9];rw[z6 ⟨trivial,by rw[<-h4.length];exact hc.1,by rw[<-bW.length];exact hc.2,h5⟩]
    .exact⟨b,_,e,t,h6,Heap.q0c _ _ (U.lt h9),T9 bW h4,gJ⟩
   .cases h
  .cases h
 .rename_i o i off sz vs h1 h2;have hT:Z1 d (.store size a x) ev=o:=by simp only[Z1,h1]
  rw[hT];obtain⟨us,h3,h4,h5⟩:=X0 h2 (al x);rw[h1] at ha;simp only[SR] at ha;obtain⟨b,len,cap,h6,h7,h8,h9⟩:=ha;have ai:=hG.obj o;split at h
  .rename_i ty k xs nl ho;rw[ho] at ai;have af:(Q9 s.own o).live=true:=by rw[ho];rfl
   rcases ai with⟨_,_,k3⟩|⟨rfl,i',aq,c,t,k3,k4,k5,k6,k7⟩
   .rw[h6] at k3;cases k3
   .rw[h6] at k3;obtain⟨rfl,rfl,rfl⟩:=(by simpa using k3:b=i'/\len=xs.length/\cap=aq);have a8:F.get b=none:=hG.fresh o b af (by rw[h6];rfl);have cE:∀ j i',j≠o->(Q9 s.own j).live=true->Oid (pl j) i'->i'≠b:=λj i' hj hl hi e=>by
     subst e;exact hG.sep j o i' hj hl af hi (by rw[h6];rfl)
    have hi:i.toNat<xs.length:=by omega
    have aC:(i.toNat+1)*k.size<=xs.length*k.size:=zk _ hi;rw[zF,xr] at aC;have k8:=zk k.size k4
    have fin:∀ (y:k.T) (us:List Value) (dj:Nat),dj+us.length<=k.size->KC B k y (Wz (((c.take (xs.length*k.size)).drop (i.toNat*k.size)).take k.size) dj us) ->
      Gam P B F pl tb ⟨s.env,oset s.own o (.lst ty k (xs.set i.toNat y) false),s.nx⟩ env (U.upd b (.cells (Wz c (i.toNat*k.size+dj) us) ⟨k.size,ty⟩ true t))/\Fr o s ⟨s.env,oset s.own o (.lst ty k (xs.set i.toNat y) false),s.nx⟩ pl pl U (U.upd b (.cells (Wz c (i.toNat*k.size+dj) us) ⟨k.size,ty⟩ true t)):=by
     intro y us dj nL hk;refine hG.writeF o _ (hG.le.upd a8 _) af (by grind [Heap.q0b]) (.inr ⟨rfl,b,cap,Wz c (i.toNat*k.size+dj) us,t,by rw[h6];simp,by simpa using k4,Heap.q0c _ _ (U.lt k5),by rw[Xa];exact k6,?_⟩);have a7:=k7.set KC.q0f hi hk;rw[zE];rw[Z0p us c (m:=xs.length*k.size) (p:=i.toNat*k.size) (n:=k.size) (off:=dj) nL aC (by omega)];exact a7
    have dT:=k7.at KC.q0f hi;have dQ:=KC.length dT;split at h
    .rename_i hc;obtain⟨rfl,rfl,rfl⟩:=hc;split at h
     .rename_i y hy;have hk:=Qt hy h4;have hl:=KC.length hk;refine⟨undef,U.upd b (.cells (Wz c (i.toNat*k.size+0) us) ⟨k.size,ty⟩ true t),pl,_,_,?_,h,fin y us 0 (by omega) ?_,by simp[SR]⟩
      .simp only[Q8,h9,h3,k5]
       grind
      .rw[Vm (by omega),zU,yj,xD,List.drop_of_length_le (by omega),xC];exact hk
     .cases h
    .split at h
     .rename_i hc;obtain⟨rfl,so,rfl,aU⟩:=hc;split at h
      .rename_i y hy;obtain⟨v0,rfl⟩:∃ v0,vs=[v0]:=by
        cases vs with
        |nil=>cases so
        |cons a r=>cases r with
         |nil=>exact⟨a,rfl⟩
         |cons _ _=>simp at so
       obtain⟨u0,rfl,wk⟩:=h4.one;have hx:xs.getD i.toNat k.dflt=xs[i.toNat]:=by simp_all
       rw[hx] at hy;refine⟨undef,U.upd b (.cells (Wz c (i.toNat*k.size+off) [u0]) ⟨k.size,ty⟩ true t),pl,_,_,?_,h,(by grind [Tr]),by simp[SR]⟩;simp only[Q8,h9,h3,k5]
       grind
      .cases h
     .cases h
  .cases h
 .cases h
theorem L2 (al:∀ x,SR P B pl tb (ev x) (evV x)) (hG:Gam P B F pl tb s env U) {mk:MK}{m kx vx:Operand}(h:gn C d (.ext (.mapUpdate mk m kx vx)) ev s K):NOk P B F tb (.ext (.mapUpdate mk m kx vx)) evV env U K (Z1 d (.ext (.mapUpdate mk m kx vx)) ev) s pl:=by
 have ha:=al m;simp only[gn] at h;split at h
 .rename_i o h1;have hT:Z1 d (.ext (.mapUpdate mk m kx vx)) ev=o:=by simp only[Z1,h1]
  rw[hT];rw[h1] at ha;simp only[SR] at ha;have ai:=hG.obj o;split at h
  .rename_i kk vk l ho;rw[ho] at ai;have af:(Q9 s.own o).live=true:=by rw[ho];rfl
   obtain⟨id,es,clock,h2,h3,h4⟩:=ai;split at h
   .rename_i hc;have bL:=hc;split at h
    .rename_i key x aL hx;have hk:=N7 aL (al kx) Qt;have hv:=N7 hx (al vx) Qt;have a8:F.get id=none:=hG.fresh o id af (by rw[h2];rfl);have cE:∀ j i',j≠o->(Q9 s.own j).live=true->Oid (pl j) i'->i'≠id:=λj i' hj hl hi e=>by
      subst e;exact hG.sep j o i' hj hl af hi (by rw[h2];rfl)
     have aA:U.mapAt id=some (es,clock,true):=by simp[Heap.mapAt,h3]
     refine⟨undef,U.upd id (.obj (.map (Qx (evV kx) (evV vx) clock es).1 (Qx (evV kx) (evV vx) clock es).2) true),pl,_,_,?_,h,hG.writeF o _ (hG.le.upd a8 _) af (by grind [Heap.q0b]) ?_,by simp[SR]⟩
     .simp only[Q8,J5,ha.1,h2,aA];rw[z6 (by rw[NN bL hk,h4.1.keys bL];rfl)]
     .exact⟨id,_,_,h2,Heap.q0c _ _ (U.lt h3),DU bL hk hv h4.1,h4.2.put⟩
    .cases h
   .cases h
  .rename_i ik l ho;rw[ho] at ai;have af:(Q9 s.own o).live=true:=by rw[ho];rfl
   obtain⟨id,es,clock,h2,h3,h4⟩:=ai;split at h
   .rename_i g_ n f hi hf;split at h
    .rename_i hc;obtain⟨rfl,bL,dS⟩:=hc;obtain rfl:=Q7c bL;have hi:=Jt hi (al kx);have hv:=al vx;rw[hf] at hv;simp only[SR] at hv;obtain⟨u,w,hv,hu,hw⟩:=hv;simp only[SRs] at hu hw;subst hu hw;have a8:F.get id=none:=hG.fresh o id af (by rw[h2];rfl);have cE:∀ j i',j≠o->(Q9 s.own j).live=true->Oid (pl j) i'->i'≠id:=λj i' hj hl hi e=>by
      subst e;exact hG.sep j o i' hj hl af hi (by rw[h2];rfl)
     have aA:U.mapAt id=some (es,clock,true):=by simp[Heap.mapAt,h3]
     refine⟨undef,U.upd id (.obj (.map (Qx (evV kx) (evV vx) clock es).1 (Qx (evV kx) (evV vx) clock es).2) true),pl,_,_,?_,h,hG.writeF o _ (hG.le.upd a8 _) af (by grind [Heap.q0b]) ?_,by simp[SR]⟩
     .simp only[Q8,J5,ha.1,h2,aA];rw[z6 (by rw[hi,h4.keys];simp[ZF])]
     .refine⟨id,_,_,h2,Heap.q0c _ _ (U.lt h3),?_⟩;rw[hi,hv];exact h4.put dS
    .cases h
   .cases h
  .cases h
 .cases h
theorem Q3a (al:∀ x,SR P B pl tb (ev x) (evV x)) (hG:Gam P B F pl tb s env U) {mk:MK}{m kx:Operand}(h:gn C d (.ext (.delete mk m kx)) ev s K):NOk P B F tb (.ext (.delete mk m kx)) evV env U K (Z1 d (.ext (.delete mk m kx)) ev) s pl:=by
 have ha:=al m;simp only[gn] at h;split at h
 .rename_i o h1;have hT:Z1 d (.ext (.delete mk m kx)) ev=o:=by simp only[Z1,h1]
  rw[hT];rw[h1] at ha;simp only[SR] at ha;have ai:=hG.obj o;split at h
  .rename_i kk vk l ho;rw[ho] at ai;have af:(Q9 s.own o).live=true:=by rw[ho];rfl
   obtain⟨id,es,clock,h2,h3,h4⟩:=ai;split at h
   .rename_i bL;split at h
    .rename_i key aL;have hk:=N7 aL (al kx) Qt;have a8:F.get id=none:=hG.fresh o id af (by rw[h2];rfl);have cE:∀ j i',j≠o->(Q9 s.own j).live=true->Oid (pl j) i'->i'≠id:=λj i' hj hl hi e=>by
      subst e;exact hG.sep j o i' hj hl af hi (by rw[h2];rfl)
     have aA:U.mapAt id=some (es,clock,true):=by simp[Heap.mapAt,h3]
     refine⟨.tuple #[],U.upd id (.obj (.map (Uv (evV kx) es) clock) true),pl,_,_,?_,h,hG.writeF o _ (hG.le.upd a8 _) af (by grind [Heap.q0b]) ?_,by simp[SR]⟩
     .simp only[Q8,J5,ha.1,h2,aA];rw[z6 (by rw[NN bL hk,h4.1.keys bL];rfl)]
     .exact⟨id,_,_,h2,Heap.q0c _ _ (U.lt h3),E6 bL hk h4.1,h4.2.del⟩
    .cases h
   .cases h
  .cases h
 .cases h
theorem Q2v {mk:MK}{kk:Kind}(hk:gq.mkP mk kk=true) (x:kk.T):gq.keq kk x x=true:=by
 unfold gq.mkP at hk;split at hk
 .simp[gq.keq]
 .simp[gq.keq]
 .simp[gq.keq]
 .cases hk
theorem Ld:∀ {k:Kind}{l r:List MK},gq.mkAt k l=some r->∀ x:k.T,gq.keq k x x=true
 |.pair a b,l,r,hk,x=>by
  simp only[gq.mkAt] at hk;split at hk
  .rename_i q hq;simp only[gq.keq,Ld hq,Ld hk,Bool.and_self]
  .cases hk
 |.i _,m::l,r,hk,x|.bo,m::l,r,hk,x|.st,m::l,r,hk,x|.list _,m::l,r,hk,x=>by
  simp only[gq.mkAt] at hk
  grind [Q2v]
 |.i _,[],r,hk,x|.bo,[],r,hk,x|.st,[],r,hk,x|.list _,[],r,hk,x=>by cases hk
theorem Q6d {mk:MK}{kk:Kind}(hk:gq.mkOk mk kk=true) (x:kk.T):gq.keq kk x x=true:=by
 unfold gq.mkOk at hk;cases ho:kk.one with
 |true=>rw[ho] at hk;exact Q2v hk x
 |false =>
  rw[ho] at hk;simp only[zM] at hk;split at hk
  .grind [Ld]
  .cases hk
theorem Fa {k v:Value}(hk:XT k k=true) (clock:Nat):∀ es:List JO,Qh k (Qx k v clock es).1=some (k,v,match Qh k es with|some e=>e.2.2|none=>clock)
 |[]=>by simp[Qx,Qh,hk]
 |e::es=>by
  simp only[Qx,Qh];cases he:XT k e.1 with
  |true=>simp[Qh,hk]
  |false =>simp only[zm,if_false,Qh,he];exact Fa hk clock es
theorem EV {k v:Value}{clock:Nat}:∀ {es:List JO}{e:JO},Qh k es=some e->∃ j:Nat,es[j]?=some e/\Qx k v clock es=(es.set j (k,v,e.2.2),clock)
 |[],e,h=>by cases h
 |a::es,e,h=>by
  simp only[Qh] at h;split at h
  .rename_i he;obtain rfl:=osj h;exact⟨0,rfl,by simp[Qx,he]⟩
  .rename_i he;obtain⟨j,h1,h2⟩:=EV (v:=v) (clock:=clock) h;exact⟨j+1,by simpa using h1,by simp[Qx,he,h2]⟩
theorem Sw (al:∀ x,SR P B pl tb (ev x) (evV x)) (hG:Gam P B F pl tb s env U) {mk:MK}{z:Value}{m kx:Operand}(h:gn C d (.ext (.mapEntry mk z m kx)) ev s K):∃ u U' v s' T kv aX i es c,T=Z1 d (.ext (.mapEntry mk z m kx)) ev/\Q8 (.ext (.mapEntry mk z m kx)) evV U=some (u,U')/\K v s'/\(Gam P B F pl tb s' env U'/\Fr T s s' pl pl U U')/\SR P B pl tb v u /\
  (Q9 s'.own T).live=true/\pl T=.map (some i)/\U.get i=some (.obj (.map es c) true)/\U'.get i=some (.obj (.map (Qx kv aX c es).1 (Qx kv aX c es).2) true)/\ZF mk kv=true/\es.all (λe=>ZF mk e.1)=true/\aX=(match Qh kv es with|some e=>e.2.1|none=>z):=by
 have ha:=al m;simp only[gn] at h;split at h
 .rename_i o h1;have hT:Z1 d (.ext (.mapEntry mk z m kx)) ev=o:=by simp only[Z1,h1]
  rw[h1] at ha;simp only[SR] at ha;have ai:=hG.obj o;split at h
  .rename_i kk vk l ho;rw[ho] at ai;have af:(Q9 s.own o).live=true:=by rw[ho];rfl
   obtain⟨id,es,clock,h2,h3,h4⟩:=ai;split at h
   .rename_i hc;obtain⟨bL,uB⟩:=hc;split at h
    .rename_i key aL;have hk:=N7 aL (al kx) Qt;have hz:KV B vk vk.dflt z:=TK uB;have a8:F.get id=none:=hG.fresh o id af (by rw[h2];rfl);have cE:∀ j i',j≠o->(Q9 s.own j).live=true->Oid (pl j) i'->i'≠id:=λj i' hj hl hi e=>by
      subst e;exact hG.sep j o i' hj hl af hi (by rw[h2];rfl)
     have aA:U.mapAt id=some (es,clock,true):=by simp[Heap.mapAt,h3]
     have sq:XT (evV kx) (evV kx)=true:=by rw[PH bL hk hk];exact Q6d bL key
     obtain⟨aX,n,hold,fK⟩:∃ (aX:Value) (n:Nat),KV B vk (gq.aget kk l key vk.dflt) aX/\Q8 (.ext (.mapEntry mk z m kx)) evV U=some (.tuple #[aX,.int .i64 n],U.upd id (.obj (.map (Qx (evV kx) aX clock es).1 (Qx (evV kx) aX clock es).2) true))/\Qh (evV kx) (Qx (evV kx) aX clock es).1=some (evV kx,aX,n)/\aX=(match Qh (evV kx) es with|some e=>e.2.1|none=>z):=by
      rcases MR.find bL hk hz h4.1 with⟨e,k1,_,k3⟩|⟨k1,_,k3⟩
      .refine⟨e.2.1,e.2.2,k3,?_,?_,by rw[k1]⟩
       .simp only[Q8,J5,ha.1,h2,aA];rw[z6 (by rw[NN bL hk,h4.1.keys bL];rfl),k1]
       .rw[Fa sq,k1]
      .refine⟨z,clock,by rw[k3];exact hz,?_,?_,by rw[k1]⟩
       .simp only[Q8,J5,ha.1,h2,aA];rw[z6 (by rw[NN bL hk,h4.1.keys bL];rfl),k1]
       .rw[Fa sq,k1]
     obtain⟨fK,cg,nM⟩:=fK;obtain⟨r,hr,_⟩:=EV (v:=aX) (clock:=clock) cg;refine⟨_,_,_,_,o,evV kx,aX,id,es,clock,hT.symm,fK,h n,hG.writeF o _ (hG.le.upd a8 _) af (by grind [Heap.q0b]) ?_,?_,by simp[Qa,OB.live],h2,h3,Heap.q0c _ _ (U.lt h3),NN bL hk,h4.1.keys bL,nM⟩
     .exact⟨id,_,_,r,_,h2,Heap.q0c _ _ (U.lt h3),⟨DU bL hk hold h4.1,h4.2.put⟩,hr,hk,cg,rfl,mk,bL⟩
     .simp only[SR,SRs];exact⟨_,rfl,_,_,rfl,W6 hold,_,_,rfl,by simp[KC],rfl⟩
    .cases h
   .cases h
  .cases h
 .cases h
theorem Ev (al:∀ x,SR P B pl tb (ev x) (evV x)) (hG:Gam P B F pl tb s env U) {mk:MK}{z:Value}{m kx:Operand}(h:gn C d (.ext (.mapEntry mk z m kx)) ev s K):NOk P B F tb (.ext (.mapEntry mk z m kx)) evV env U K (Z1 d (.ext (.mapEntry mk z m kx)) ev) s pl:=by obtain⟨u,U',v,s',T,kv,aX,i,es,c,rfl,h1,h2,h3,h4,_⟩:=Sw al hG h;exact⟨u,U',pl,v,s',h1,h2,h3,h4⟩
theorem TJ (al:∀ x,SR P B pl tb (ev x) (evV x)) (hG:Gam P B F pl tb s env U) {m st vx:Operand}(h:gn C d (.ext (.entryStore m st vx)) ev s K):NOk P B F tb (.ext (.entryStore m st vx)) evV env U K (Z1 d (.ext (.entryStore m st vx)) ev) s pl:=by
 have ha:=al m;simp only[gn] at h;split at h
 .rename_i o h1;have hT:Z1 d (.ext (.entryStore m st vx)) ev=o:=by simp only[Z1,h1]
  rw[hT];rw[h1] at ha;simp only[SR] at ha;have ai:=hG.obj o;split at h
  .rename_i kk vk l key n ho;rw[ho] at ai;have af:(Q9 s.own o).live=true:=by rw[ho];rfl
   obtain⟨id,es,clock,r,e,h2,h3,h4,h5,h6,h7,h8,mk,bL⟩:=ai;split at h
   .rename_i n' x a9 hx;obtain⟨rfl,h⟩:=h;have uC:=Jt a9 (al st);have hv:=N7 hx (al vx) Qt;have a8:F.get id=none:=hG.fresh o id af (by rw[h2];rfl);have cE:∀ j i',j≠o->(Q9 s.own j).live=true->Oid (pl j) i'->i'≠id:=λj i' hj hl hi e=>by
     subst e;exact hG.sep j o i' hj hl af hi (by rw[h2];rfl)
    have aA:U.mapAt id=some (es,clock,true):=by simp[Heap.mapAt,h3]
    obtain⟨q,hq,bj⟩:=EV (v:=evV vx) (clock:=clock) h7;obtain rfl:q=r:=Pa h4.2 hq h5 rfl;have jk:es.findIdx? (λa=>(a.2.2:Int)==n')=some q:=by
     obtain⟨uD,heq⟩:=zq.1 hq;rw[List.findIdx?_eq_some_iff_getElem];refine⟨uD,by rw[heq,h8];simp,λj hj=>?_⟩;have cM:j<es.length:=by omega
     cases hb:((es[j].2.2:Int)==n') with
     |false=>simp
     |true =>
      have:es[j].2.2=e.2.2:=by have:=eq_of_beq hb;omega
      have:=Pa h4.2 (z8 cM) hq this;omega
    refine⟨undef,U.upd id (.obj (.map (es.set q (e.1,evV vx,e.2.2)) clock) true),pl,_,_,?_,h,hG.writeF o _ (hG.le.upd a8 _) af (by grind [Heap.q0b]) ?_,by simp[SR]⟩
    .simp only[Q8,J5,ha.1,h2,uC,aA,jk,hq]
    .refine⟨id,_,_,h2,Heap.q0c _ _ (U.lt h3),?_⟩;have e1:=congrArg (λx:List JO×Nat=>x.1) bj;have e2:=congrArg (λx:List JO×Nat=>x.2) bj;simp only at e1 e2;have k1:=DU (clock:=clock) bL h6 hv h4.1;have k2:=h4.2.put (k:=e.1) (v:=evV vx);rw[e1] at k1 k2;rw[e2] at k2;exact⟨k1,k2⟩
   .cases h
  .cases h
 .cases h
end
theorem Q9t (hG:Gam P B F pl tb s env U) (d:Nat) (ik:IntKind):Gam P B F (ZR pl d (.map (some U.n))) tb (s.make d (.fm ik [])) env (U.push (.obj (.map [] 0) true))/\SR P B (ZR pl d (.map (some U.n))) tb (.map d) (.map (some U.n)):=by refine⟨hG.push d _ _ _ rfl ⟨U.n,[],0,rfl,Heap.q0a _ _,rfl⟩,?_⟩;simp only[SR,Xo];exact⟨trivial,_,rfl⟩
theorem Q7x (hG:Gam P B F pl tb s env U) (d:Nat) (kk vk:Kind):Gam P B F (ZR pl d (.map (some U.n))) tb (s.make d (.map kk vk [])) env (U.push (.obj (.map [] 0) true))/\SR P B (ZR pl d (.map (some U.n))) tb (.map d) (.map (some U.n)):=by refine⟨hG.push d _ _ _ rfl ⟨U.n,[],0,rfl,Heap.q0a _ _,rfl,List.nodup_nil,λ_ h=>by cases h⟩,?_⟩;simp only[SR,Xo];exact⟨trivial,_,rfl⟩
end
end Go.V
namespace Go.V
open Go
def Z0e (ρ1 ρ2:Plc):Prop:=∀ i p2,ρ2 i=some p2->∃ p1,ρ1 i=some p1/\p2.blk=p1.blk/\p2.shift=p1.shift/\p2.ext=p1.ext/\p2.esz=p1.esz/\(p2.tight=true->p1.tight=true)
theorem VRel.loose {ρ1 ρ2:Plc}{n:Nat}(hl:Z0e ρ1 ρ2) {v c:Value}(h:VRel ρ1 n v c):VRel ρ2 n v c:=by
 induction h with
 |poison c=>exact .poison c
 |bool b=>exact .bool b
 |int k x=>exact .int k x
 |string s=>exact .string s
 |nilPtr=>exact .nilPtr
 |nilSl=>exact .nilSl
 |nilMap=>exact .nilMap
 |nilFunc=>exact .nilFunc
 |nilIface=>exact .nilIface
 |glob g o s=>exact .glob g o s
 |ptr i o a hi h =>refine .ptr i o a hi λp hp=>?_;obtain⟨p1,h1,h2,h3,_⟩:=hl i p hp;rw[h2,h3];exact h p1 h1
 |sl i o len cap a aq hi h =>refine .sl i o len cap a aq hi λp hp=>?_;obtain⟨p1,h1,h2,h3,h4,h5,h6⟩:=hl i p hp;obtain⟨k1,k2,k3⟩:=h p1 h1;rw[h2,h3,h4,h5];exact⟨k1,λht=>k2 (h6 ht),k3⟩
 |slx i o len cap a hi h =>refine .slx i o len cap a hi λp hp=>?_;obtain⟨p1,h1,h2,h3,h4,h5,h6⟩:=hl i p hp;rw[h2,h3,h4,h5];exact h p1 h1
 |map i r hi h =>refine .map i r hi λp hp=>?_;obtain⟨p1,h1,h2,_⟩:=hl i p hp;rw[h2];exact h p1 h1
 |yield i r hi h =>refine .yield i r hi λp hp=>?_;obtain⟨p1,h1,h2,_⟩:=hl i p hp;rw[h2];exact h p1 h1
 |iface t v c _ ih=>exact .iface t v c ih
 |func fn fs gs cs ds hf hc _ _ l7 l8=>exact .func fn fs gs cs ds hf hc l7 l8
 |agg cs ds hc _ ih=>exact .agg cs ds hc ih
 |tuple cs ds hc _ ih=>exact .tuple cs ds hc ih
theorem LRel.loose {ρ1 ρ2:Plc}{n:Nat}(hl:Z0e ρ1 ρ2) {v c:List Value}(h:LRel ρ1 n v c):LRel ρ2 n v c:=⟨h.1,λi a b h1 h2=>(h.2 i a b h1 h2).loose hl⟩
theorem ORel.loose {ρ1 ρ2:Plc}{n:Nat}(hl:Z0e ρ1 ρ2) {o:VObj}{O:Obj}(h:ORel ρ1 n o O):ORel ρ2 n o O:=by
 cases o with
 |map es clock =>obtain⟨entries,h1,h2,h3⟩:=h;exact⟨entries,h1,h2,λk kv hk=>let ⟨e,he,h4,h5,hv⟩:=h3 k kv hk;⟨e,he,h4,h5,hv.loose hl⟩⟩
 |iter m since seen last=>obtain⟨rm,h1,h2⟩:=h;exact⟨rm,h1,h2.loose hl⟩
 |lp env r st pend=>exact⟨h.1,h.2.loose hl⟩
 |siter s pos=>exact h
inductive Weak (n0:Nat->Prop):Value->Value->Prop
 |refl (v:Value):Weak n0 v v
 |sl (i len cap:Nat) (hi:n0 i) (hc:len<=cap):Weak n0 (.slice (some ⟨i,0,none⟩) len cap) (.slice (some ⟨i,0,none⟩) len len)
 |agg (cs ds:List Value) (hc:cs.length=ds.length) (h:∀ (i:Nat) (a b:Value),cs[i]?=some a->ds[i]?=some b->Weak n0 a b):Weak n0 (.agg cs.toArray) (.agg ds.toArray)
 |tuple (cs ds:List Value) (hc:cs.length=ds.length) (h:∀ (i:Nat) (a b:Value),cs[i]?=some a->ds[i]?=some b->Weak n0 a b):Weak n0 (.tuple cs.toArray) (.tuple ds.toArray)
theorem Weak.rel {ρ:Plc}{n:Nat}{n0:Nat->Prop}(hρ:∀ i p,n0 i->ρ i=some p->p.tight=false) {v v':Value}(h:Weak n0 v v'):∀ {c:Value},VRel ρ n v c->VRel ρ n v' c:=by
 induction h with
 |refl v=>exactλh=>h
 |sl i len cap hi hc =>
  intro c h;cases h with
  |sl _ _ _ _ a aq cf h =>
   refine .sl _ _ _ _ _ _ cf λp hp=>?_;obtain⟨k1,k2,k6|⟨o',k3,k4,k5⟩⟩:=h p hp
   .omega
   refine⟨by omega,(by grind),.inr ⟨o',k3,k4,?_⟩⟩;rcases k5 with k5|k5
   .exact .inl k5
   .exact .inr ⟨k5.1,k5.1⟩
 |agg cs ds hc h ih =>
  intro c hr;cases hr with
  |agg _ es dg hr =>
   refine .agg _ _ (by simpa [hc] using dg) λi h1 h2=>?_;have l1:i<cs.length:=by simpa [hc] using h1
   have l2:i<ds.length:=by simpa using h1
   have:=ih i cs[i] ds[i] (z8 l1) (z8 l2) (hr i (by simpa using l1) h2);simpa using this
 |tuple cs ds hc h ih =>
  intro c hr;cases hr with
  |tuple _ es dg hr =>
   refine .tuple _ _ (by simpa [hc] using dg) λi h1 h2=>?_;have l1:i<cs.length:=by simpa [hc] using h1
   have l2:i<ds.length:=by simpa using h1
   have:=ih i cs[i] ds[i] (z8 l1) (z8 l2) (hr i (by simpa using l1) h2);simpa using this
theorem DropTo.trans {σ0 σ1 σ2 σ3:Heap}{v1 v2 v3:Value}(h:DropTo σ0 v1 σ1 v2 σ2) (k:DropTo σ0 v2 σ2 v3 σ3):DropTo σ0 v1 σ1 v3 σ3:=by intro ρ0 w0 ρ w c fM hE hH hv;obtain⟨ρ',o6,gj,bZ⟩:=h ρ0 w0 ρ w c fM hE hH hv;exact k ρ0 w0 ρ' w c fM bZ gj o6
theorem DropTo.weaken {σ0 σ1 σ2:Heap}{v v':Value}(S:Nat->Bool) (hS:∀ i,S i=true->σ0.n<=i) (hn:σ2.n=σ1.n) (h0:σ0.n<=σ1.n) (h1:∀ i,S i=false->σ2.get i=σ1.get i)
  (h2:∀ i,S i=true->∃ c e wr t m,σ1.get i=some (.cells c e wr t)/\σ2.get i=some (.cells (c.take m) e wr false)) (hv:Weak (λi=>S i=true) v v'):DropTo σ0 v σ1 v' σ2:=by
 intro ρ0 w0 ρ w c fM hE hH eu;let ρ':Plc:=λi=>if S i=false then ρ i else (ρ i).map λp=>{p with tight:=false}
 have hl:Z0e ρ ρ':=λi p2 hp=>by
  change (if S i=false then ρ i else (ρ i).map λp=>{p with tight:=false})=some p2 at hp;by_cases hi:S i=false
  .simp_all
  .rw[z7 hi,zi] at hp
   grind
 have dZ:∀ i p2,ρ' i=some p2->∃ p1,ρ i=some p1/\p2.blk=p1.blk/\p2.ext=p1.ext:=λi p2 hp=>by obtain⟨p1,k1,k2,k3,k4,_⟩:=hl i p2 hp;exact⟨p1,k1,k2,k4⟩
 have gS:∀ i b,σ2.get i=some b->∃ b1,σ1.get i=some b1/\b.wr=b1.wr:=λi b hb=>by
  by_cases hi:S i=false
  .simp_all
  .obtain⟨c,e,wr,t,m,k1,k2⟩:=h2 i (by simpa using hi);rw[k2] at hb;obtain rfl:=osj hb;exact⟨_,k1,rfl⟩
 have hX:Ext ρ0 σ0 w0 ρ' σ2 w:=by
  refine⟨hE.os,hE.tape,hE.output,hE.size,hE.keep,?_,by omega,λi hi p hp=>?_⟩
  .rintro B hB ⟨i,p,b,hp,hb,hw,rfl⟩;obtain⟨p1,k1,k2,_⟩:=dZ i p hp;obtain⟨b1,k7,k8⟩:=gS i b hb;exact hE.wr _ hB ⟨i,p1,b1,k1,k7,by rw[<-k8];exact hw,k2.symm⟩
  .have:S i=false:=by
    grind
   simp only[ρ',this,zt] at hp;exact hE.pl i hi p hp
 refine⟨ρ',?_,fM.ext ⟨λi b hb=>?_,λi hi=>?_,λi p hp=>?_,λi j p q b cT hp hq hb hw hx=>?_⟩ hX,hX⟩
 .rw[hn];refine hv.rel (λi p hi hp=>?_) (eu.loose hl)
  grind
 .by_cases hi:S i=false
  .rw[h1 i hi] at hb;obtain⟨p,hp,hB⟩:=hH.live i b hb;refine⟨p,by simp only[ρ',hi,zt];exact hp,?_⟩;rw[hn];cases b with
   |cells c e wr t =>obtain⟨k1,k2,k3,k4,k5,k6⟩:=hB;exact⟨k1,k2,k3,k4,λk v hk=>let ⟨u,a1,a2⟩:=k5 k v hk;⟨u,a1,a2.loose hl⟩,k6⟩
   |obj o wr =>obtain⟨k1,O,k2,k3⟩:=hB;exact⟨k1,O,k2,k3.loose hl⟩
  .obtain⟨c,e,wr,t,m,k1,k2⟩:=h2 i (by simpa using hi);rw[k2] at hb;obtain rfl:=osj hb;obtain⟨p,hp,hB⟩:=hH.live i _ k1;obtain⟨a1,a2,a3,a4,a5,a6⟩:=hB;refine⟨{p with tight:=false},by simp[ρ',hi,hp],a1,rfl,by simp;omega,a4,λk v hk=>?_,(by simp_all)⟩;rw[xu] at hk;split at hk
   .obtain⟨u,b1,b2⟩:=a5 k v hk;rw[hn];exact⟨u,b1,b2.loose hl⟩
   .cases hk
 .have hd:σ1.get i=none:=by
   grind
  have:=hH.dead i hd;simp only[ρ',this];split<;>rfl
 .obtain⟨p1,k1,k2,_⟩:=dZ i p hp;rw[k2];exact hH.lt i p1 k1
 .obtain⟨p1,k1,k2,k3⟩:=dZ i p hp;obtain⟨q1,k4,k5,k6⟩:=dZ j q hq;obtain⟨b1,k7,k8⟩:=gS i b hb;rw[k2,k5];exact hH.sep i j p1 q1 b1 cT k1 k4 k7 (by rw[<-k8];exact hw) (by rw[<-k6];exact hx)
def mkP (U:Heap) (v:Value) (is:List Nat):Value:=.tuple (v::is.map λi=>match U.get i with|some b=>J15 i b|none=>.bool true).toArray
theorem Q5s (U:Heap) (v:Value) (is:List Nat):phd (mkP U v is)=v:=rfl
theorem Q7r (i:Nat) (c:List Value) (e:El) (wr t:Bool):J1u (J15 i (.cells c e wr t))=some (i,.cells c e true t):=rfl
theorem Q27 {U:Heap}:∀ {is:List Nat},(∀ i∈is,∃ c e t,U.get i=some (.cells c e true t))->∀ j,RI (Z1p (is.map λi=>match U.get i with|some b=>J15 i b|none=>.bool true)) j=if j∈is then U.get j else none
 |[],_,j=>by simp[Z1p,RI]
 |i::is,h,j=>by
  obtain⟨c,e,t,hc⟩:=h i zn;have ih:=Q27 (U:=U) (is:=is) (by simp_all) j;simp only[zO,hc,Z1p,Q7r,RI]
  grind
theorem I3 {U:Heap}{v:Value}{is:List Nat}(h:∀ i∈is,∃ c e t,U.get i=some (.cells c e true t)) (j:Nat):(W4 (mkP U v is)).get j=if j∈is then U.get j else none:=Q27 h j
theorem KO.imp {H H':Heap}:∀ {k:Kind}{q:Option Nat}{x:k.T}{cs:List Value}{is:List Nat},KO H q k x cs is->(∀ i∈is,H'.get i=H.get i)->KO H' q k x cs is
 |.i _,_,_,_,_,h,_|.bo,_,_,_,_,h,_|.st,_,_,_,_,h,_=>by simp only[KO] at h |-;exact h
 |.list k,q,l,cs,is,h,g=>by
  simp only[KO] at h |-;rcases h with h|⟨i,cap,c,e,t,js,h1,rfl,h3,h4,h5,h6,h7,h8⟩
  .exact .inl h
  .refine .inr ⟨i,cap,c,e,t,js,h1,rfl,h3,by rw[g i zn];exact h4,h5,h6,h7,?_⟩;have key:∀ {xs:List k.T}{cs:List Value}{js:List Nat},RowsO (λx c is=>KO H none k x c is) xs cs js->(∀ i∈js,H'.get i=H.get i)->RowsO (λx c is=>KO H' none k x c is) xs cs js:=λh=>by
    induction h with
    |nil=>exactλ_=>.nil
    |cons h _ ih=>exactλg=>.cons (KO.imp (k:=k) h (by simp_all)) (by simp_all)
   simp_all
 |.pair a b,_,x,cs,is,h,g=>by simp only[KO] at h |-;obtain⟨c1,c2,i1,i2,h1,rfl,h3,h4⟩:=h;exact⟨c1,c2,i1,i2,h1,rfl,h3.imp (by simp_all),h4.imp (by simp_all)⟩
theorem KO.cells {H:Heap}:∀ {k:Kind}{q:Option Nat}{x:k.T}{cs:List Value}{is:List Nat},KO H q k x cs is->∀ i∈is,∃ c e t,H.get i=some (.cells c e true t)
 |.i _,_,_,_,_,h,i,hi|.bo,_,_,_,_,h,i,hi|.st,_,_,_,_,h,i,hi=>by simp only[KO] at h;rw[h.2] at hi;cases hi
 |.list k,q,l,cs,is,h,i,hi=>by
  simp only[KO] at h;rcases h with⟨_,_,rfl⟩|⟨i',cap,c,e,t,js,h1,rfl,h3,h4,h5,h6,h7,h8⟩
  .cases hi
  .rcases zN.1 hi with rfl|hi
   .exact⟨_,_,_,h4⟩
   .have key:∀ {xs:List k.T}{cs:List Value}{js:List Nat},RowsO (λx c is=>KO H none k x c is) xs cs js->∀ i∈js,∃ c e t,H.get i=some (.cells c e true t):=λh=>by
     induction h with
     |nil=>exactλi hi=>by cases hi
     |cons h _ ih=>exactλi hi=>(xd.1 hi).elim (KO.cells (k:=k) h i) (ih i)
    exact key h8 i hi
 |.pair a b,_,x,cs,is,h,i,hi=>by simp only[KO] at h;obtain⟨c1,c2,i1,i2,h1,rfl,h3,h4⟩:=h;exact(xd.1 hi).elim (h3.cells i) (h4.cells i)
theorem KO.weak {H:Heap}:∀ {k:Kind}{q:Option Nat}{x:k.T}{cs:List Value}{is:List Nat},KO H q k x cs is->KO H none k x cs is
 |.i _,_,_,_,_,h|.bo,_,_,_,_,h|.st,_,_,_,_,h=>by simp only[KO] at h |-;exact h
 |.list k,q,l,cs,is,h=>by
  simp only[KO] at h |-
  grind
 |.pair a b,_,x,cs,is,h=>by simp only[KO] at h |-;exact h
theorem KO.q0f {H:Heap}{q:Option Nat}{k:Kind}:∀ (x:k.T) (c:List Value) (is:List Nat),KO H q k x c is->c.length=k.size:=λ_ _ _ h=>KC.length h.kc
theorem KC.ko {H:Heap}:∀ {k:Kind}{q:Option Nat}{x:k.T}{cs:List Value},k.flat=true->KC H k x cs->KO H q k x cs []
 |.i _,_,_,_,_,h|.bo,_,_,_,_,h|.st,_,_,_,_,h=>by simp only[KC] at h;simp only[KO];exact⟨h,trivial⟩
 |.list _,_,_,_,f,_=>by cases f
 |.pair a b,_,x,cs,f,h=>by simp only[Kind.flat,z0] at f;obtain⟨c1,c2,rfl,h1,h2⟩:=h;simp only[KO];exact⟨c1,c2,[],[],rfl,rfl,h1.ko f.1,h2.ko f.2⟩
section
variable {α:Type}{R R':α->List Value->List Nat->Prop}{sz:Nat}
theorem RowsH.imp:∀ {xs:List α}{h:Option Nat}{j:Nat}{cs:List Value}{is:List Nat},RowsH R sz h j xs cs is->(∀ x c js,R x c js->(∀ i∈js,i∈is)->R' x c js)->RowsH R' sz h j xs cs is
 |[],_,_,_,_,h,_=>h
 |x::xs,hh,j,cs,is,h,g=>by
  obtain⟨c,cs',i1,i2,rfl,rfl,h1,h2⟩:=h;refine⟨c,cs',i1,i2,rfl,rfl,?_,h2.imp (by simp_all)⟩
  grind
theorem RowsH.hole:∀ {xs:List α}{h h':Option Nat}{j j':Nat}{cs:List Value}{is:List Nat},RowsH R sz h j xs cs is->(∀ m,h=some (j+m)<->h'=some (j'+m))->RowsH R sz h' j' xs cs is
 |[],_,_,_,_,_,_,h,_=>h
 |x::xs,h,h',j,j',cs,is,hr,g=>by
  obtain⟨c,cs',i1,i2,rfl,rfl,h1,h2⟩:=hr;refine⟨c,cs',i1,i2,rfl,rfl,?_,h2.hole λm=>?_⟩
  .have:=g 0;simp_all
  .have:=g (1+m)
   grind
theorem RowsH.length (hR:∀ x c is,R x c is->c.length=sz):∀ {xs:List α}{h:Option Nat}{j:Nat}{cs:List Value}{is:List Nat},RowsH R sz h j xs cs is->cs.length=xs.length*sz
 |[],_,_,_,_,h=>by rw[h.1];simp
 |x::xs,_,j,cs,is,h=>by
  obtain⟨c,cs',i1,i2,rfl,rfl,h1,h2⟩:=h;have hc:c.length=sz:=by
   grind
  rw[zG,hc,h2.length hR,zV,zF,xr,w5]
theorem RowsH.rowsO (g:∀ x c js,R x c js->R' x c js):∀ {xs:List α}{j:Nat}{cs:List Value}{is:List Nat},RowsH R sz none j xs cs is->RowsO R' xs cs is
 |[],_,_,_,h=>by obtain⟨rfl,rfl⟩:=h;exact .nil
 |x::xs,j,cs,is,h=>by obtain⟨c,cs',i1,i2,rfl,rfl,h1,h2⟩:=h;rw[z7 (by simp)] at h1;exact .cons (g _ _ _ h1) (h2.rowsO g)
theorem RowsH.append:∀ {xs ys:List α}{j j':Nat}{cs ds:List Value}{is js:List Nat},RowsH R sz none j xs cs is->RowsH R sz none j' ys ds js->RowsH R sz none j (xs++ys) (cs++ds) (is++js)
 |[],ys,j,j',cs,ds,is,js,h,h'=>by obtain⟨rfl,rfl⟩:=h;exact h'.hole λm=>by simp
 |x::xs,ys,j,j',cs,ds,is,js,h,h'=>by obtain⟨c,cs',i1,i2,rfl,rfl,h1,h2⟩:=h;exact⟨c,cs'++ds,i1,i2++js,by rw[x9],by rw[x9],h1,h2.append h'⟩
theorem RowsH.replicate {x:α}{c:List Value}(h:R x c []):∀ (n j:Nat),RowsH R sz none j (List.replicate n x) (List.replicate n c).flatten []
 |0,_=>⟨rfl,rfl⟩
 |n+1,j=>⟨c,_,[],[],rfl,rfl,by rw[z7 (by simp)];exact h,RowsH.replicate h n (j+1)⟩
theorem RowsH.take (hR:∀ x c is,R x c is->c.length=sz):∀ {xs:List α}{j:Nat}{cs:List Value},RowsH R sz none j xs cs []->∀ n,RowsH R sz none j (xs.take n) (cs.take (n*sz)) []
 |[],j,cs,h,n=>by obtain⟨rfl,_⟩:=h;simp[RowsH]
 |x::xs,j,cs,h,0=>by simp[RowsH]
 |x::xs,j,cs,h,n+1=>by
  obtain⟨c,cs',i1,i2,rfl,e,h1,h2⟩:=h;obtain⟨rfl,rfl⟩:=List.append_eq_nil_iff.1 e.symm;have hc:c.length=sz:=by grind
  refine⟨c,cs'.take (n*sz),[],[],?_,rfl,h1,h2.take hR n⟩;rw[zF,xr,w5,List.take_append,hc,zI (by omega),Nat.add_sub_cancel_left]
theorem RowsH.set (hR:∀ x c is,R x c is->c.length=sz):∀ {xs:List α}{h h':Option Nat}{j i:Nat}{cs:List Value}{is:List Nat}{x:α}{c':List Value}{inew:List Nat},
  RowsH R sz h j xs cs is->(hi:i<xs.length)->(∀ m,m≠i->(h=some (j+m)<->h'=some (j+m)))->c'.length=sz->(if h'=some (j+i) then inew=[] else R x c' inew) ->
  ∃ eR ix eS,is=eR++ix++eS/\RowsH R sz h' j (xs.set i x) (cs.take (i*sz)++c'++cs.drop (i*sz+sz)) (eR++inew++eS)/\(if h=some (j+i) then ix=[] else R xs[i] ((cs.drop (i*sz)).take sz) ix)
 |[],_,_,_,_,_,_,_,_,_,_,hi,_,_,_=>by simp at hi
 |y::ys,h,h',j,0,cs,is,x,c',inew,hr,hi,g,hl,hn=>by
  obtain⟨c,cs',i1,i2,rfl,rfl,h1,h2⟩:=hr;have hc:c.length=sz:=by
   grind
  have ht:RowsH R sz h' (j+1) ys cs' i2:=h2.hole λm=>by
   have:=g (m+1) (by omega)
   grind
  refine⟨[],i1,i2,rfl,?_,?_⟩
  .rw[List.set_cons_zero];refine⟨c',cs',inew,i2,?_,rfl,?_,ht⟩
   .simp_all
   simp_all
  simp_all
 |y::ys,h,h',j,i+1,cs,is,x,c',inew,hr,hi,g,hl,hn=>by
  obtain⟨c,cs',i1,i2,rfl,rfl,h1,h2⟩:=hr;have hc:c.length=sz:=by
   grind
  obtain⟨eR,ix,eS,rfl,k1,k2⟩:=RowsH.set hR h2 (i:=i) (h':=h') (x:=x) (c':=c') (inew:=inew) (by simpa using hi) (λm hm=>by
   have:=g (m+1) (by omega)
   grind) hl (by grind)
  have e0:(i+1)*sz=sz+i*sz:=by grind
  refine⟨i1++eR,ix,eS,by simp[x9],?_,?_⟩
  .rw[List.set_cons_succ];refine⟨c,_,i1,eR++inew++eS,?_,by simp[x9],?_,k1⟩
   .have e1:(c++cs').take ((i+1)*sz)=c++cs'.take (i*sz):=by
     grind
    have e2:(c++cs').drop ((i+1)*sz+sz)=cs'.drop (i*sz+sz):=by rw[e0,List.drop_append,hc,List.drop_of_length_le (by omega),xD];congr 1;omega
    rw[e1,e2];simp[x9]
   .have:=g 0 (by omega);simp_all
  .rw[show j+(i+1)=j+1+i by omega];have e3:(c++cs').drop ((i+1)*sz)=cs'.drop (i*sz):=by
    rw[e0,List.drop_append,hc,List.drop_of_length_le (by omega),xD];congr 1;omega
   rw[e3];exact k2
end
theorem DO.imp {H H':Heap}{ty:Nat}{q:Option Nat}{k:Kind}{xs:List k.T}{h:Option Nat}{v:Value}{is:List Nat}(hd:DO H ty q k xs h v is) (g:∀ i∈is,H'.get i=H.get i):DO H' ty q k xs h v is:=by
 rcases hd with hd|⟨i,cap,c,t,js,h1,rfl,h3,h4,h5,h6⟩
 .exact .inl hd
 .exact .inr ⟨i,cap,c,t,js,h1,rfl,h3,by rw[g i zn];exact h4,h5,h6.imp (by grind [KO.imp,List.mem_cons_of_mem])⟩
theorem RowsH.cells {H:Heap}{q:Option Nat}{k:Kind}{sz:Nat}:∀ {xs:List k.T}{h:Option Nat}{j:Nat}{cs:List Value}{is:List Nat},RowsH (KO H q k) sz h j xs cs is->∀ i∈is,∃ c e t,H.get i=some (.cells c e true t)
 |[],_,_,_,_,h,i,hi=>by rw[h.2] at hi;cases hi
 |x::xs,_,j,cs,is,h,i,hi=>by
  obtain⟨c,cs',i1,i2,rfl,rfl,h1,h2⟩:=h;rcases xd.1 hi with hi|hi
  .grind [KO.cells]
  .exact h2.cells i hi
theorem DO.cells {H:Heap}{ty:Nat}{q:Option Nat}{k:Kind}{xs:List k.T}{h:Option Nat}{v:Value}{is:List Nat}(hd:DO H ty q k xs h v is):∀ i∈is,∃ c e t,H.get i=some (.cells c e true t):=by
 rcases hd with⟨_,_,rfl⟩|⟨i,cap,c,t,js,h1,rfl,h3,h4,h5,h6⟩
 .exact λi hi=>by cases hi
 .exact λj hj=>(zN.1 hj).elim (by simp_all) (h6.cells j)
theorem DP.open {U:Heap}{p:Value}{ty:Nat}{q:Option Nat}{k:Kind}{xs:List k.T}{nl:Bool}{h:Option Nat}(hd:DP U p ty q k xs nl h) :
  ∃ is,is.Nodup/\DO U ty q k xs h (phd p) is/\(∀ i,Oid p i<->i∈is)/\(nl=true<->phd p=.slice none 0 0):=by
 obtain⟨is,hO,h1,h2,h3,h4,h5⟩:=hd;refine⟨is,h1,h2.imp λi hi=>?_,λi=>(hO i).trans (h3 i),h5⟩
 grind
theorem DP.close {U:Heap}{v:Value}{ty:Nat}{q:Option Nat}{k:Kind}{xs:List k.T}{nl:Bool}{h:Option Nat}{is:List Nat}(hn:is.Nodup) (hd:DO U ty q k xs h v is) (iz:nl=true<->v=.slice none 0 0) :
  DP U (mkP U v is) ty q k xs nl h:=by
 have hc:=hd.cells;refine⟨is,λ_=>Iff.rfl,hn,hd.imp λi hi=>by rw[I3 hc,z6 hi],λi=>?_,λi b hb=>?_,iz⟩
 .rw[I3 hc]
  grind
 grind [I3]
theorem EX {U:Heap}{v:Value}{is:List Nat}(hc:∀ i∈is,∃ c e t,U.get i=some (.cells c e true t)) (i:Nat):Oid (mkP U v is) i<->i∈is:=by
 show (∃ b,(W4 (mkP U v is)).get i=some b)<->_;rw[I3 hc]
 grind
end Go.V