/- The types and the functions of the seat, by name. Printed by gen_tab.py. -/
import Derived.Test.YthebhlkdppmefaaGreatVmStFun
import Derived.Test.YthebhlkdppmefaaGreatChecked
set_option linter.unusedVariables false
namespace Go.Proofs.YthebhlkdppmefaaGreat
def d6g:List (Nat×Ty×Nat×Nat) :=
 [(2,(.int .i64),0,0),
  (3,(.int .i64),0,0),
  (4, .bool,0,0),
  (5,(.int .u8),0,0),
  (9, .str,0,0),
  (12,(.int .u64),0,0),
  (22,(.slice (.int .u8)),1,5),
  (25,(.st .sig),0,0),
  (26,(.slice (.st .premise)),88,88),
  (27,(.slice (.st .expr)),40,29),
  (29,(.st .expr),0,0),
  (30,(.slice (.st .prog)),80,32),
  (32,(.st .prog),0,0),
  (34,(.st .triple),0,0),
  (39,(.slice (.int .i64)),8,2),
  (48, .ptr,0,0),
  (72,(.slice (.slice .bool)),24,77),
  (77,(.slice .bool),1,4),
  (84,(.int .u64),0,0),
  (86,(.st .l00Src),0,0),
  (88,(.st .premise),0,0),
  (91,(.st .l06Gen),0,0),
  (111,(.slice (.slice (.slice .bool))),24,72),
  (125,(.st .l01Gen),0,0),
  (127,(.int .u64),0,0)]
def g6j:List (Nat×Ty) :=
 [(48,(.st .l00Src)),(57,(.st .prog)),(58,(.st .expr)),(63,(.st .triple)),(89,(.st .l06Gen)),(124,(.st .l01Gen)),(150,(.int .u8))]
def f4h:List (Nat×Ty×Ty):=[]
abbrev c0f:Nat:=2
abbrev g3f:Nat:=4
abbrev h0h:Nat:=22
abbrev g3g:Nat:=72
abbrev i1f:Nat:=77
noncomputable abbrev prog:Program:=Tryz.prog
theorem e8r(c:Nat→List Arg→Option (Vc×List TV))(wr own:List Nat)(oc:Nat→List Arg→Option (Vc×List TV))(mk:Nat→Option g8c)(cl:Nat→Option c4d)(ro:List Nat)(tk:Nat→List Bool)(sk:Nat→Option SK)(sc:Nat→List Arg→List (List TV)→Option (Vc×List TV×List (List TV)))(nc:Nat→List Arg→Option (Vc×List TV)):((d6g.all fun r=>c5h prog (Env.mk d6g g6j c wr own oc mk cl ro tk sk sc f4h nc) r.1 r.2.1 r.2.2.1 r.2.2.2)&&f4h.all fun r=>g8r prog (Env.mk d6g g6j c wr own oc mk cl ro tk sk sc f4h nc) r.1 r.2.1 r.2.2)=true:=by kernel_rfl
theorem d6c:prog.follows .mixedOrders=true:=Checked.mixed Tryz.checked
def a0j(f:Func):Code:=match f.body with
 | some c=>c
 | none => .skip
abbrev b9n:Nat:=3
noncomputable abbrev a9v:Func:=Tryz.f3
theorem d4m:prog.funcs[b9n]?=some a9v:=Tryz.func3
theorem f0p:a9v.body=some (a0j a9v):=by kernel_rfl
abbrev d3x:Nat:=4
noncomputable abbrev b4w:Func:=Tryz.f4
theorem e3i:prog.funcs[d3x]?=some b4w:=Tryz.func4
theorem g0i:b4w.body=some (a0j b4w):=by kernel_rfl
abbrev c8r:Nat:=5
noncomputable abbrev b1d:Func:=Tryz.f5
theorem d6z:prog.funcs[c8r]?=some b1d:=Tryz.func5
theorem f2b:b1d.body=some (a0j b1d):=by kernel_rfl
abbrev c2g:Nat:=6
noncomputable abbrev a7m:Func:=Tryz.f6
theorem c9h:prog.funcs[c2g]?=some a7m:=Tryz.func6
theorem e3s:a7m.body=some (a0j a7m):=by kernel_rfl
abbrev c0p:Nat:=7
noncomputable abbrev a6t:Func:=Tryz.f7
theorem c7u:prog.funcs[c0p]?=some a6t:=Tryz.func7
theorem e2d:a6t.body=some (a0j a6t):=by kernel_rfl
abbrev b8m:Nat:=8
noncomputable abbrev a5v:Func:=Tryz.f8
theorem c4w:prog.funcs[b8m]?=some a5v:=Tryz.func8
theorem d7g:a5v.body=some (a0j a5v):=by kernel_rfl
abbrev d0r:Nat:=9
noncomputable abbrev b2g:Func:=Tryz.f9
theorem d9q:prog.funcs[d0r]?=some b2g:=Tryz.func9
theorem f6e:b2g.body=some (a0j b2g):=by kernel_rfl
abbrev c8q:Nat:=10
noncomputable abbrev b1c:Func:=Tryz.f10
theorem d6y:prog.funcs[c8q]?=some b1c:=Tryz.func10
theorem f2a:b1c.body=some (a0j b1c):=by kernel_rfl
abbrev c2f:Nat:=11
noncomputable abbrev a7k:Func:=Tryz.f11
theorem c9g:prog.funcs[c2f]?=some a7k:=Tryz.func11
theorem e3q:a7k.body=some (a0j a7k):=by kernel_rfl
abbrev c6e:Nat:=12
noncomputable abbrev a9w:Func:=Tryz.f12
theorem d4n:prog.funcs[c6e]?=some a9w:=Tryz.func12
theorem f0q:a9w.body=some (a0j a9w):=by kernel_rfl
abbrev c3m:Nat:=13
noncomputable abbrev g8m:Func:=Tryz.f13
theorem g3w:prog.funcs[c3m]?=some g8m:=Tryz.func13
abbrev c4t:Nat:=14
noncomputable abbrev a8y:Func:=Tryz.f14
theorem d2h:prog.funcs[c4t]?=some a8y:=Tryz.func14
theorem e6z:a8y.body=some (a0j a8y):=by kernel_rfl
abbrev b6v:Nat:=15
noncomputable abbrev a5g:Func:=Tryz.f15
theorem c3z:prog.funcs[b6v]?=some a5g:=Tryz.func15
theorem d5s:a5g.body=some (a0j a5g):=by kernel_rfl
abbrev c8t:Nat:=16
noncomputable abbrev b1h:Func:=Tryz.f16
theorem d7b:prog.funcs[c8t]?=some b1h:=Tryz.func16
theorem f2f:b1h.body=some (a0j b1h):=by kernel_rfl
abbrev d1d:Nat:=17
noncomputable abbrev b3c:Func:=Tryz.f17
theorem e0g:prog.funcs[d1d]?=some b3c:=Tryz.func17
theorem f7a:b3c.body=some (a0j b3c):=by kernel_rfl
abbrev c2l:Nat:=18
noncomputable abbrev a7r:Func:=Tryz.f18
theorem c9m:prog.funcs[c2l]?=some a7r:=Tryz.func18
theorem e3x:a7r.body=some (a0j a7r):=by kernel_rfl
abbrev d8y:Nat:=19
noncomputable abbrev b7p:Func:=Tryz.f19
theorem e9j:prog.funcs[d8y]?=some b7p:=Tryz.func19
theorem g4g:b7p.body=some (a0j b7p):=by kernel_rfl
abbrev d1f:Nat:=20
noncomputable abbrev b3f:Func:=Tryz.f20
theorem e0i:prog.funcs[d1f]?=some b3f:=Tryz.func20
theorem f7d:b3f.body=some (a0j b3f):=by kernel_rfl
abbrev c3t:Nat:=21
noncomputable abbrev b3d:Func:=Tryz.f21
theorem c1a:prog.funcs[c3t]?=some b3d:=Tryz.func21
theorem f7b:b3d.body=some (a0j b3d):=by kernel_rfl
abbrev c8v:Nat:=22
noncomputable abbrev b1j:Func:=Tryz.f22
theorem d7d:prog.funcs[c8v]?=some b1j:=Tryz.func22
theorem f2h:b1j.body=some (a0j b1j):=by kernel_rfl
abbrev c3q:Nat:=23
noncomputable abbrev b2w:Func:=Tryz.f23
theorem c0x:prog.funcs[c3q]?=some b2w:=Tryz.func23
theorem f6u:b2w.body=some (a0j b2w):=by kernel_rfl
abbrev c6h:Nat:=24
noncomputable abbrev a9z:Func:=Tryz.f24
theorem d4q:prog.funcs[c6h]?=some a9z:=Tryz.func24
theorem f0t:a9z.body=some (a0j a9z):=by kernel_rfl
abbrev d8v:Nat:=25
noncomputable abbrev b7m:Func:=Tryz.f25
theorem e9g:prog.funcs[d8v]?=some b7m:=Tryz.func25
theorem g4d:b7m.body=some (a0j b7m):=by kernel_rfl
abbrev d4c:Nat:=26
noncomputable abbrev b5c:Func:=Tryz.f26
theorem e3n:prog.funcs[d4c]?=some b5c:=Tryz.func26
theorem g0o:b5c.body=some (a0j b5c):=by kernel_rfl
abbrev d1c:Nat:=27
noncomputable abbrev b3a:Func:=Tryz.f27
theorem e0f:prog.funcs[d1c]?=some b3a:=Tryz.func27
theorem f6y:b3a.body=some (a0j b3a):=by kernel_rfl
abbrev b9m:Nat:=28
noncomputable abbrev a6c:Func:=Tryz.f28
theorem c6o:prog.funcs[b9m]?=some a6c:=Tryz.func28
theorem d9j:a6c.body=some (a0j a6c):=by kernel_rfl
abbrev c2h:Nat:=29
noncomputable abbrev a7n:Func:=Tryz.f29
theorem c9i:prog.funcs[c2h]?=some a7n:=Tryz.func29
theorem e3t:a7n.body=some (a0j a7n):=by kernel_rfl
abbrev c4q:Nat:=30
noncomputable abbrev a8v:Func:=Tryz.f30
theorem d2e:prog.funcs[c4q]?=some a8v:=Tryz.func30
theorem e6w:a8v.body=some (a0j a8v):=by kernel_rfl
abbrev d3u:Nat:=31
noncomputable abbrev b4s:Func:=Tryz.f31
theorem e3f:prog.funcs[d3u]?=some b4s:=Tryz.func31
theorem g0e:b4s.body=some (a0j b4s):=by kernel_rfl
abbrev c2j:Nat:=32
noncomputable abbrev a7p:Func:=Tryz.f32
theorem c9k:prog.funcs[c2j]?=some a7p:=Tryz.func32
theorem e3v:a7p.body=some (a0j a7p):=by kernel_rfl
abbrev b8n:Nat:=33
noncomputable abbrev a6d:Func:=Tryz.f33
theorem c0r:prog.funcs[b8n]?=some a6d:=Tryz.func33
theorem d4r:a6d.body=some (a0j a6d):=by kernel_rfl
abbrev c8n:Nat:=34
noncomputable abbrev b7i:Func:=Tryz.f34
theorem c5l:prog.funcs[c8n]?=some b7i:=Tryz.func34
theorem g3z:b7i.body=some (a0j b7i):=by kernel_rfl
abbrev d0s:Nat:=35
noncomputable abbrev b2h:Func:=Tryz.f35
theorem d9r:prog.funcs[d0s]?=some b2h:=Tryz.func35
theorem f6f:b2h.body=some (a0j b2h):=by kernel_rfl
abbrev b0t:Nat:=36
noncomputable abbrev a4a:Func:=Tryz.f36
theorem b7g:prog.funcs[b0t]?=some a4a:=Tryz.func36
theorem c7w:a4a.body=some (a0j a4a):=by kernel_rfl
abbrev d0t:Nat:=37
noncomputable abbrev b2i:Func:=Tryz.f37
theorem d9s:prog.funcs[d0t]?=some b2i:=Tryz.func37
theorem f6g:b2i.body=some (a0j b2i):=by kernel_rfl
abbrev a9i:Nat:=38
noncomputable abbrev a5a:Func:=Tryz.f38
theorem c1q:prog.funcs[a9i]?=some a5a:=Tryz.func38
theorem d3l:a5a.body=some (a0j a5a):=by kernel_rfl
abbrev c6a:Nat:=39
noncomputable abbrev a9r:Func:=Tryz.f39
theorem d4i:prog.funcs[c6a]?=some a9r:=Tryz.func39
theorem f0l:a9r.body=some (a0j a9r):=by kernel_rfl
abbrev b6l:Nat:=40
noncomputable abbrev a7l:Func:=Tryz.f40
theorem b4a:prog.funcs[b6l]?=some a7l:=Tryz.func40
theorem e3r:a7l.body=some (a0j a7l):=by kernel_rfl
abbrev c8l:Nat:=41
noncomputable abbrev b0y:Func:=Tryz.f41
theorem d6v:prog.funcs[c8l]?=some b0y:=Tryz.func41
theorem f1w:b0y.body=some (a0j b0y):=by kernel_rfl
abbrev c6c:Nat:=42
noncomputable abbrev a9t:Func:=Tryz.f42
theorem d4k:prog.funcs[c6c]?=some a9t:=Tryz.func42
theorem f0n:a9t.body=some (a0j a9t):=by kernel_rfl
abbrev d0u:Nat:=43
noncomputable abbrev b2j:Func:=Tryz.f43
theorem d9t:prog.funcs[d0u]?=some b2j:=Tryz.func43
theorem f6h:b2j.body=some (a0j b2j):=by kernel_rfl
abbrev d0v:Nat:=44
noncomputable abbrev b2o:Func:=Tryz.f44
theorem d9y:prog.funcs[d0v]?=some b2o:=Tryz.func44
theorem f6m:b2o.body=some (a0j b2o):=by kernel_rfl
abbrev d8x:Nat:=45
noncomputable abbrev b7o:Func:=Tryz.f45
theorem e9i:prog.funcs[d8x]?=some b7o:=Tryz.func45
theorem g4f:b7o.body=some (a0j b7o):=by kernel_rfl
abbrev b6n:Nat:=46
noncomputable abbrev a7w:Func:=Tryz.f46
theorem b4c:prog.funcs[b6n]?=some a7w:=Tryz.func46
theorem e4c:a7w.body=some (a0j a7w):=by kernel_rfl
abbrev c2o:Nat:=47
noncomputable abbrev a7v:Func:=Tryz.f47
theorem c9p:prog.funcs[c2o]?=some a7v:=Tryz.func47
theorem e4b:a7v.body=some (a0j a7v):=by kernel_rfl
abbrev c2k:Nat:=48
noncomputable abbrev a7q:Func:=Tryz.f48
theorem c9l:prog.funcs[c2k]?=some a7q:=Tryz.func48
theorem e3w:a7q.body=some (a0j a7q):=by kernel_rfl
abbrev d0x:Nat:=49
noncomputable abbrev b2t:Func:=Tryz.f49
theorem e0a:prog.funcs[d0x]?=some b2t:=Tryz.func49
theorem f6r:b2t.body=some (a0j b2t):=by kernel_rfl
abbrev b8o:Nat:=50
noncomputable abbrev a6f:Func:=Tryz.f50
theorem c0w:prog.funcs[b8o]?=some a6f:=Tryz.func50
theorem d4s:a6f.body=some (a0j a6f):=by kernel_rfl
abbrev c2n:Nat:=51
noncomputable abbrev a7u:Func:=Tryz.f51
theorem c9o:prog.funcs[c2n]?=some a7u:=Tryz.func51
theorem e4a:a7u.body=some (a0j a7u):=by kernel_rfl
abbrev c8s:Nat:=52
noncomputable abbrev b1e:Func:=Tryz.f52
theorem d7a:prog.funcs[c8s]?=some b1e:=Tryz.func52
theorem f2c:b1e.body=some (a0j b1e):=by kernel_rfl
abbrev c6g:Nat:=53
noncomputable abbrev a9y:Func:=Tryz.f53
theorem d4p:prog.funcs[c6g]?=some a9y:=Tryz.func53
theorem f0s:a9y.body=some (a0j a9y):=by kernel_rfl
abbrev d3z:Nat:=54
noncomputable abbrev b4y:Func:=Tryz.f54
theorem e3k:prog.funcs[d3z]?=some b4y:=Tryz.func54
theorem g0k:b4y.body=some (a0j b4y):=by kernel_rfl
abbrev d1e:Nat:=55
noncomputable abbrev b3e:Func:=Tryz.f55
theorem e0h:prog.funcs[d1e]?=some b3e:=Tryz.func55
theorem f7c:b3e.body=some (a0j b3e):=by kernel_rfl
abbrev d4a:Nat:=56
noncomputable abbrev b4z:Func:=Tryz.f56
theorem e3l:prog.funcs[d4a]?=some b4z:=Tryz.func56
theorem g0l:b4z.body=some (a0j b4z):=by kernel_rfl
abbrev c8w:Nat:=57
noncomputable abbrev b1k:Func:=Tryz.f57
theorem d7e:prog.funcs[c8w]?=some b1k:=Tryz.func57
theorem f2i:b1k.body=some (a0j b1k):=by kernel_rfl
abbrev c3p:Nat:=58
noncomputable abbrev b2s:Func:=Tryz.f58
theorem c0v:prog.funcs[c3p]?=some b2s:=Tryz.func58
theorem f6q:b2s.body=some (a0j b2s):=by kernel_rfl
abbrev c5q:Nat:=59
noncomputable abbrev b5a:Func:=Tryz.f59
theorem c2z:prog.funcs[c5q]?=some b5a:=Tryz.func59
theorem g0m:b5a.body=some (a0j b5a):=by kernel_rfl
abbrev d4d:Nat:=60
noncomputable abbrev b5d:Func:=Tryz.f60
theorem e3o:prog.funcs[d4d]?=some b5d:=Tryz.func60
theorem g0p:b5d.body=some (a0j b5d):=by kernel_rfl
abbrev d0z:Nat:=61
noncomputable abbrev b2v:Func:=Tryz.f61
theorem e0c:prog.funcs[d0z]?=some b2v:=Tryz.func61
theorem f6t:b2v.body=some (a0j b2v):=by kernel_rfl
abbrev d4b:Nat:=62
noncomputable abbrev b5b:Func:=Tryz.f62
theorem e3m:prog.funcs[d4b]?=some b5b:=Tryz.func62
theorem g0n:b5b.body=some (a0j b5b):=by kernel_rfl
abbrev c3n:Nat:=63
noncomputable abbrev b2q:Func:=Tryz.f63
theorem c0t:prog.funcs[c3n]?=some b2q:=Tryz.func63
theorem f6o:b2q.body=some (a0j b2q):=by kernel_rfl
abbrev c1m:Nat:=64
noncomputable abbrev b1f:Func:=Tryz.f64
theorem b9b:prog.funcs[c1m]?=some b1f:=Tryz.func64
theorem f2d:b1f.body=some (a0j b1f):=by kernel_rfl
abbrev c3o:Nat:=65
noncomputable abbrev b2r:Func:=Tryz.f65
theorem c0u:prog.funcs[c3o]?=some b2r:=Tryz.func65
theorem f6p:b2r.body=some (a0j b2r):=by kernel_rfl
abbrev c6d:Nat:=66
noncomputable abbrev a9u:Func:=Tryz.f66
theorem d4l:prog.funcs[c6d]?=some a9u:=Tryz.func66
theorem f0o:a9u.body=some (a0j a9u):=by kernel_rfl
abbrev c6b:Nat:=67
noncomputable abbrev a9s:Func:=Tryz.f67
theorem d4j:prog.funcs[c6b]?=some a9s:=Tryz.func67
theorem f0m:a9s.body=some (a0j a9s):=by kernel_rfl
abbrev b4l:Nat:=68
noncomputable abbrev a5b:Func:=Tryz.f68
theorem c1r:prog.funcs[b4l]?=some a5b:=Tryz.func68
theorem d3m:a5b.body=some (a0j a5b):=by kernel_rfl
abbrev c1l:Nat:=69
noncomputable abbrev b1a:Func:=Tryz.f69
theorem b9a:prog.funcs[c1l]?=some b1a:=Tryz.func69
theorem f1y:b1a.body=some (a0j b1a):=by kernel_rfl
abbrev d3s:Nat:=70
noncomputable abbrev b4q:Func:=Tryz.f70
theorem e3d:prog.funcs[d3s]?=some b4q:=Tryz.func70
theorem g0c:b4q.body=some (a0j b4q):=by kernel_rfl
abbrev c8p:Nat:=71
noncomputable abbrev b7k:Func:=Tryz.f71
theorem c5m:prog.funcs[c8p]?=some b7k:=Tryz.func71
theorem g4b:b7k.body=some (a0j b7k):=by kernel_rfl
abbrev c4r:Nat:=72
noncomputable abbrev a8w:Func:=Tryz.f72
theorem d2f:prog.funcs[c4r]?=some a8w:=Tryz.func72
theorem e6x:a8w.body=some (a0j a8w):=by kernel_rfl
abbrev c3i:Nat:=73
noncomputable abbrev b2k:Func:=Tryz.f73
theorem d9u:prog.funcs[c3i]?=some b2k:=Tryz.func73
theorem f6i:b2k.body=some (a0j b2k):=by kernel_rfl
abbrev d3r:Nat:=74
noncomputable abbrev b4p:Func:=Tryz.f74
theorem e3c:prog.funcs[d3r]?=some b4p:=Tryz.func74
theorem g0b:b4p.body=some (a0j b4p):=by kernel_rfl
abbrev c8m:Nat:=75
noncomputable abbrev b0z:Func:=Tryz.f75
theorem d6w:prog.funcs[c8m]?=some b0z:=Tryz.func75
theorem f1x:b0z.body=some (a0j b0z):=by kernel_rfl
abbrev c3j:Nat:=76
noncomputable abbrev b2l:Func:=Tryz.f76
theorem d9v:prog.funcs[c3j]?=some b2l:=Tryz.func76
theorem f6j:b2l.body=some (a0j b2l):=by kernel_rfl
abbrev c3k:Nat:=77
noncomputable abbrev b2m:Func:=Tryz.f77
theorem d9w:prog.funcs[c3k]?=some b2m:=Tryz.func77
theorem f6k:b2m.body=some (a0j b2m):=by kernel_rfl
abbrev c3l:Nat:=78
noncomputable abbrev b2n:Func:=Tryz.f78
theorem d9x:prog.funcs[c3l]?=some b2n:=Tryz.func78
theorem f6l:b2n.body=some (a0j b2n):=by kernel_rfl
abbrev b3y:Nat:=79
noncomputable abbrev a4t:Func:=Tryz.f79
theorem c0s:prog.funcs[b3y]?=some a4t:=Tryz.func79
theorem d2i:a4t.body=some (a0j a4t):=by kernel_rfl
abbrev d3w:Nat:=80
noncomputable abbrev b4v:Func:=Tryz.f80
theorem e3h:prog.funcs[d3w]?=some b4v:=Tryz.func80
theorem g0h:b4v.body=some (a0j b4v):=by kernel_rfl
abbrev c2i:Nat:=81
noncomputable abbrev a7o:Func:=Tryz.f81
theorem c9j:prog.funcs[c2i]?=some a7o:=Tryz.func81
theorem e3u:a7o.body=some (a0j a7o):=by kernel_rfl
abbrev d8t:Nat:=82
noncomputable abbrev b7j:Func:=Tryz.f82
theorem e9e:prog.funcs[d8t]?=some b7j:=Tryz.func82
theorem g4a:b7j.body=some (a0j b7j):=by kernel_rfl
abbrev c3r:Nat:=83
noncomputable abbrev b2y:Func:=Tryz.f83
theorem c0y:prog.funcs[c3r]?=some b2y:=Tryz.func83
theorem f6w:b2y.body=some (a0j b2y):=by kernel_rfl
abbrev c1n:Nat:=84
noncomputable abbrev b1g:Func:=Tryz.f84
theorem b9c:prog.funcs[c1n]?=some b1g:=Tryz.func84
theorem f2e:b1g.body=some (a0j b1g):=by kernel_rfl
abbrev c3s:Nat:=85
noncomputable abbrev b3b:Func:=Tryz.f85
theorem c0z:prog.funcs[c3s]?=some b3b:=Tryz.func85
theorem f6z:b3b.body=some (a0j b3b):=by kernel_rfl
abbrev d4e:Nat:=86
noncomputable abbrev b5f:Func:=Tryz.f86
theorem e3p:prog.funcs[d4e]?=some b5f:=Tryz.func86
theorem g0r:b5f.body=some (a0j b5f):=by kernel_rfl
abbrev d8w:Nat:=87
noncomputable abbrev b7n:Func:=Tryz.f87
theorem e9h:prog.funcs[d8w]?=some b7n:=Tryz.func87
theorem g4e:b7n.body=some (a0j b7n):=by kernel_rfl
abbrev c8u:Nat:=88
noncomputable abbrev b1i:Func:=Tryz.f88
theorem d7c:prog.funcs[c8u]?=some b1i:=Tryz.func88
theorem f2g:b1i.body=some (a0j b1i):=by kernel_rfl
abbrev c4s:Nat:=89
noncomputable abbrev a8x:Func:=Tryz.f89
theorem d2g:prog.funcs[c4s]?=some a8x:=Tryz.func89
theorem e6y:a8x.body=some (a0j a8x):=by kernel_rfl
abbrev b6m:Nat:=90
noncomputable abbrev a7s:Func:=Tryz.f90
theorem b4b:prog.funcs[b6m]?=some a7s:=Tryz.func90
theorem e3y:a7s.body=some (a0j a7s):=by kernel_rfl
abbrev c6f:Nat:=91
noncomputable abbrev a9x:Func:=Tryz.f91
theorem d4o:prog.funcs[c6f]?=some a9x:=Tryz.func91
theorem f0r:a9x.body=some (a0j a9x):=by kernel_rfl
abbrev b4f:Nat:=92
noncomputable abbrev a6u:Func:=Tryz.f92
theorem b1w:prog.funcs[b4f]?=some a6u:=Tryz.func92
theorem e2e:a6u.body=some (a0j a6u):=by kernel_rfl
abbrev d8u:Nat:=93
noncomputable abbrev b7l:Func:=Tryz.f93
theorem e9f:prog.funcs[d8u]?=some b7l:=Tryz.func93
theorem g4c:b7l.body=some (a0j b7l):=by kernel_rfl
abbrev d3y:Nat:=94
noncomputable abbrev b4x:Func:=Tryz.f94
theorem e3j:prog.funcs[d3y]?=some b4x:=Tryz.func94
theorem g0j:b4x.body=some (a0j b4x):=by kernel_rfl
abbrev d0w:Nat:=95
noncomputable abbrev b2p:Func:=Tryz.f95
theorem d9z:prog.funcs[d0w]?=some b2p:=Tryz.func95
theorem f6n:b2p.body=some (a0j b2p):=by kernel_rfl
abbrev b9o:Nat:=96
noncomputable abbrev a6e:Func:=Tryz.f96
theorem c6p:prog.funcs[b9o]?=some a6e:=Tryz.func96
theorem d9k:a6e.body=some (a0j a6e):=by kernel_rfl
abbrev c8o:Nat:=97
noncomputable abbrev b1b:Func:=Tryz.f97
theorem d6x:prog.funcs[c8o]?=some b1b:=Tryz.func97
theorem f1z:b1b.body=some (a0j b1b):=by kernel_rfl
abbrev d3t:Nat:=98
noncomputable abbrev b4r:Func:=Tryz.f98
theorem e3e:prog.funcs[d3t]?=some b4r:=Tryz.func98
theorem g0d:b4r.body=some (a0j b4r):=by kernel_rfl
abbrev c5p:Nat:=99
noncomputable abbrev b4u:Func:=Tryz.f99
theorem c2y:prog.funcs[c5p]?=some b4u:=Tryz.func99
theorem g0g:b4u.body=some (a0j b4u):=by kernel_rfl
abbrev b7b:Nat:=100
noncomputable abbrev a8u:Func:=Tryz.f100
theorem d2d:prog.funcs[b7b]?=some a8u:=Tryz.func100
theorem e6v:a8u.body=some (a0j a8u):=by kernel_rfl
abbrev e2p:Nat:=101
noncomputable abbrev c0g:Func:=Tryz.f101
theorem f1u:prog.funcs[e2p]?=some c0g:=Tryz.func101
theorem g8h:c0g.body=some (a0j c0g):=by kernel_rfl
abbrev e2q:Nat:=102
noncomputable abbrev c0h:Func:=Tryz.f102
theorem f1v:prog.funcs[e2q]?=some c0h:=Tryz.func102
theorem g8i:c0h.body=some (a0j c0h):=by kernel_rfl
abbrev d1a:Nat:=103
noncomputable abbrev b2x:Func:=Tryz.f103
theorem e0d:prog.funcs[d1a]?=some b2x:=Tryz.func103
theorem f6v:b2x.body=some (a0j b2x):=by kernel_rfl
abbrev d0y:Nat:=104
noncomputable abbrev b2u:Func:=Tryz.f104
theorem e0b:prog.funcs[d0y]?=some b2u:=Tryz.func104
theorem f6s:b2u.body=some (a0j b2u):=by kernel_rfl
abbrev d1b:Nat:=105
noncomputable abbrev b2z:Func:=Tryz.f105
theorem e0e:prog.funcs[d1b]?=some b2z:=Tryz.func105
theorem f6x:b2z.body=some (a0j b2z):=by kernel_rfl
abbrev c5r:Nat:=106
noncomputable abbrev b5e:Func:=Tryz.f106
theorem c3a:prog.funcs[c5r]?=some b5e:=Tryz.func106
theorem g0q:b5e.body=some (a0j b5e):=by kernel_rfl
abbrev c2m:Nat:=107
noncomputable abbrev a7t:Func:=Tryz.f107
theorem c9n:prog.funcs[c2m]?=some a7t:=Tryz.func107
theorem e3z:a7t.body=some (a0j a7t):=by kernel_rfl
abbrev d3v:Nat:=108
noncomputable abbrev b4t:Func:=Tryz.f108
theorem e3g:prog.funcs[d3v]?=some b4t:=Tryz.func108
theorem g0f:b4t.body=some (a0j b4t):=by kernel_rfl
end Go.Proofs.YthebhlkdppmefaaGreat
