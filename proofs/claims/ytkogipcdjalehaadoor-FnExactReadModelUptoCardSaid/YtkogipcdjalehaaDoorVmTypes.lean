/- The data types of the program as Lean types; tables of their fields and cells. Printed by gen_types.py. -/
import Derived.KernelRfl
import GoSem.Claim
set_option linter.unusedVariables false
set_option linter.unusedSimpArgs false
namespace Go.Proofs.YtkogipcdjalehaaDoor
def gInts : List Nat := [0]
inductive D where
 | int (k : IntKind) (n : Int)
 | bool (b : Bool)
 | str (s : List UInt8)
 | slice (n : Nat) (xs : List D)
 | agg (xs : List D)
 | hole
def mvD {α : Type} (n : Nat) (f : α → D) : Option (List α) → D
 | none => .hole
 | some l => .slice n (l.map f)
inductive SName where
 | sig
 | expr
 | oExpr
 | word
 | automaton
 | pair
 | equation
 | proofStep
 | claim
 | proof
 | model
 | costs
 | prog
 | world
 | spot
 | flow
 | triple
 | premise
 | derivation
 | reader
 | deriver
 | remover
 | l00Src
 | l01Reader
 | l02Maker
 | l04Search
 | l07Finder
 | l07Duty
 deriving DecidableEq
inductive Ty where
 | int (k : IntKind)
 | bool
 | str
 | slice (t : Ty)
 | st (s : SName)
 | mv (t : Ty)
 deriving DecidableEq
structure GSig where
 tests : Int
 actions : Int
structure GExpr where
 kind : Int
 num : Int
 kids : List (GExpr)
structure GOExpr where
 kind : Int
 num : Int
 kids : Option (List (GExpr))
structure GWord where
 atoms : List (Int)
 acts : List (Int)
structure GAutomaton where
 sig : GSig
 accept : List (List (Bool))
 next : List (List (List (Int)))
structure GPair where
 left : GExpr
 right : GExpr
structure GEquation where
 left : GExpr
 right : GExpr
structure GProofStep where
 use : Int
 back : Bool
 path : List (Int)
 tests : List (GExpr)
 acts : List (GExpr)
structure GClaim where
 left : GExpr
 right : GExpr
 rule : Int
 ref : Int
 steps : List (GProofStep)
structure GProof where
 sig : GSig
 claims : List (GClaim)
structure GModel where
 sig : GSig
 points : Int
 tests : List (List (Bool))
 acts : List (List (List (Bool)))
structure GCosts where
 sig : GSig
 points : Int
 tests : List (List (Bool))
 acts : List (List (List (Int)))
structure GProg where
 kind : Int
 num : Int
 cond : GExpr
 kids : List (GProg)
structure GWorld where
 atoms : List (Int)
 acts : List (List (Int))
structure GSpot where
 kind : Int
 num : Int
 cond : GExpr
 to : Int
 els : Int
structure GFlow where
 start : Int
 spots : List (GSpot)
structure GTriple where
 pre : GExpr
 prog : GProg
 post : GExpr
structure GPremise where
 pre : GExpr
 act : Int
 post : GExpr
structure GDerivation where
 rule : Int
 says : GTriple
 kids : List (GDerivation)
structure GReader where
 text : List UInt8
 pos : Int
structure GDeriver where
 g : GSig
 list : List (GPremise)
structure GRemover where
 large : Bool
structure GL00Src where
 code : List (Int)
 pos : Int
 seed : Int
structure GL01Reader where
 text : List UInt8
 pos : Int
 deep : Int
 bad : Bool
structure GL02Maker where
 s : List (List (GExpr))
 a : List (GExpr)
 bad : Bool
structure GL04Search where
 list : List (GExpr)
 frm : List (Int)
 by_ : List (GProofStep)
 far : List (Int)
structure GL07Finder where
 g : GSig
 list : List (GPremise)
 left : Int
 bad : Bool
structure GL07Duty where
 g : GSig
 list : List (GPremise)
 invariants : List (GExpr)
 bad : Bool
@[reducible] def SName.den : SName → Type
 | .sig => GSig
 | .expr => GExpr
 | .oExpr => GOExpr
 | .word => GWord
 | .automaton => GAutomaton
 | .pair => GPair
 | .equation => GEquation
 | .proofStep => GProofStep
 | .claim => GClaim
 | .proof => GProof
 | .model => GModel
 | .costs => GCosts
 | .prog => GProg
 | .world => GWorld
 | .spot => GSpot
 | .flow => GFlow
 | .triple => GTriple
 | .premise => GPremise
 | .derivation => GDerivation
 | .reader => GReader
 | .deriver => GDeriver
 | .remover => GRemover
 | .l00Src => GL00Src
 | .l01Reader => GL01Reader
 | .l02Maker => GL02Maker
 | .l04Search => GL04Search
 | .l07Finder => GL07Finder
 | .l07Duty => GL07Duty
@[reducible] def Ty.den : Ty → Type
 | .int _ => Int
 | .bool => Bool
 | .str => List UInt8
 | .slice t => List t.den
 | .st s => s.den
 | .mv t => Option (List t.den)
structure TV where
 τ : Ty
 x : τ.den
def TV.as (τ : Ty) (v : TV) : Option τ.den := if h : v.τ = τ then some (h ▸ v.x) else none
theorem TV.as_some {τ : Ty} {v : TV} {x : τ.den} (h : v.as τ = some x) : v = ⟨τ, x⟩ := by
 unfold TV.as at h
 split at h
 ·rename_i e
  subst e
  cases v
  simp at h
  subst h
  rfl
 ·cases h
@[simp] theorem TV.as_mk (τ : Ty) (x : τ.den) : TV.as τ ⟨τ, x⟩ = some x := by simp [TV.as]
def SName.fields : (s : SName) → s.den → List TV
 | .sig, x => [⟨.int .i64, x.tests⟩, ⟨.int .i64, x.actions⟩]
 | .expr, x => [⟨.int .i64, x.kind⟩, ⟨.int .i64, x.num⟩, ⟨.slice (.st .expr), x.kids⟩]
 | .oExpr, x => [⟨.int .i64, x.kind⟩, ⟨.int .i64, x.num⟩, ⟨.mv (.st .expr), x.kids⟩]
 | .word, x => [⟨.slice (.int .i64), x.atoms⟩, ⟨.slice (.int .i64), x.acts⟩]
 | .automaton, x => [⟨.st .sig, x.sig⟩, ⟨.slice (.slice (.bool)), x.accept⟩, ⟨.slice (.slice (.slice (.int .i64))), x.next⟩]
 | .pair, x => [⟨.st .expr, x.left⟩, ⟨.st .expr, x.right⟩]
 | .equation, x => [⟨.st .expr, x.left⟩, ⟨.st .expr, x.right⟩]
 | .proofStep, x => [⟨.int .i64, x.use⟩, ⟨.bool, x.back⟩, ⟨.slice (.int .i64), x.path⟩, ⟨.slice (.st .expr), x.tests⟩, ⟨.slice (.st .expr), x.acts⟩]
 | .claim, x => [⟨.st .expr, x.left⟩, ⟨.st .expr, x.right⟩, ⟨.int .i64, x.rule⟩, ⟨.int .i64, x.ref⟩, ⟨.slice (.st .proofStep), x.steps⟩]
 | .proof, x => [⟨.st .sig, x.sig⟩, ⟨.slice (.st .claim), x.claims⟩]
 | .model, x => [⟨.st .sig, x.sig⟩, ⟨.int .i64, x.points⟩, ⟨.slice (.slice (.bool)), x.tests⟩, ⟨.slice (.slice (.slice (.bool))), x.acts⟩]
 | .costs, x => [⟨.st .sig, x.sig⟩, ⟨.int .i64, x.points⟩, ⟨.slice (.slice (.bool)), x.tests⟩, ⟨.slice (.slice (.slice (.int .i64))), x.acts⟩]
 | .prog, x => [⟨.int .i64, x.kind⟩, ⟨.int .i64, x.num⟩, ⟨.st .expr, x.cond⟩, ⟨.slice (.st .prog), x.kids⟩]
 | .world, x => [⟨.slice (.int .i64), x.atoms⟩, ⟨.slice (.slice (.int .i64)), x.acts⟩]
 | .spot, x => [⟨.int .i64, x.kind⟩, ⟨.int .i64, x.num⟩, ⟨.st .expr, x.cond⟩, ⟨.int .i64, x.to⟩, ⟨.int .i64, x.els⟩]
 | .flow, x => [⟨.int .i64, x.start⟩, ⟨.slice (.st .spot), x.spots⟩]
 | .triple, x => [⟨.st .expr, x.pre⟩, ⟨.st .prog, x.prog⟩, ⟨.st .expr, x.post⟩]
 | .premise, x => [⟨.st .expr, x.pre⟩, ⟨.int .i64, x.act⟩, ⟨.st .expr, x.post⟩]
 | .derivation, x => [⟨.int .i64, x.rule⟩, ⟨.st .triple, x.says⟩, ⟨.slice (.st .derivation), x.kids⟩]
 | .reader, x => [⟨.str, x.text⟩, ⟨.int .i64, x.pos⟩]
 | .deriver, x => [⟨.st .sig, x.g⟩, ⟨.slice (.st .premise), x.list⟩]
 | .remover, x => [⟨.bool, x.large⟩]
 | .l00Src, x => [⟨.slice (.int .u8), x.code⟩, ⟨.int .i64, x.pos⟩, ⟨.int .u64, x.seed⟩]
 | .l01Reader, x => [⟨.str, x.text⟩, ⟨.int .i64, x.pos⟩, ⟨.int .i64, x.deep⟩, ⟨.bool, x.bad⟩]
 | .l02Maker, x => [⟨.slice (.slice (.st .expr)), x.s⟩, ⟨.slice (.st .expr), x.a⟩, ⟨.bool, x.bad⟩]
 | .l04Search, x => [⟨.slice (.st .expr), x.list⟩, ⟨.slice (.int .i64), x.frm⟩, ⟨.slice (.st .proofStep), x.by_⟩, ⟨.slice (.int .i64), x.far⟩]
 | .l07Finder, x => [⟨.st .sig, x.g⟩, ⟨.slice (.st .premise), x.list⟩, ⟨.int .i64, x.left⟩, ⟨.bool, x.bad⟩]
 | .l07Duty, x => [⟨.st .sig, x.g⟩, ⟨.slice (.st .premise), x.list⟩, ⟨.slice (.st .expr), x.invariants⟩, ⟨.bool, x.bad⟩]
def SName.cells : (s : SName) → s.den → List TV
 | .sig, x => [⟨.int .i64, x.tests⟩, ⟨.int .i64, x.actions⟩]
 | .expr, x => [⟨.int .i64, x.kind⟩, ⟨.int .i64, x.num⟩, ⟨.slice (.st .expr), x.kids⟩]
 | .oExpr, x => [⟨.int .i64, x.kind⟩, ⟨.int .i64, x.num⟩, ⟨.mv (.st .expr), x.kids⟩]
 | .word, x => [⟨.slice (.int .i64), x.atoms⟩, ⟨.slice (.int .i64), x.acts⟩]
 | .automaton, x => [⟨.int .i64, x.sig.tests⟩, ⟨.int .i64, x.sig.actions⟩, ⟨.slice (.slice (.bool)), x.accept⟩, ⟨.slice (.slice (.slice (.int .i64))), x.next⟩]
 | .pair, x => [⟨.int .i64, x.left.kind⟩, ⟨.int .i64, x.left.num⟩, ⟨.slice (.st .expr), x.left.kids⟩, ⟨.int .i64, x.right.kind⟩, ⟨.int .i64, x.right.num⟩, ⟨.slice (.st .expr), x.right.kids⟩]
 | .equation, x => [⟨.int .i64, x.left.kind⟩, ⟨.int .i64, x.left.num⟩, ⟨.slice (.st .expr), x.left.kids⟩, ⟨.int .i64, x.right.kind⟩, ⟨.int .i64, x.right.num⟩, ⟨.slice (.st .expr), x.right.kids⟩]
 | .proofStep, x => [⟨.int .i64, x.use⟩, ⟨.bool, x.back⟩, ⟨.slice (.int .i64), x.path⟩, ⟨.slice (.st .expr), x.tests⟩, ⟨.slice (.st .expr), x.acts⟩]
 | .claim, x => [⟨.int .i64, x.left.kind⟩, ⟨.int .i64, x.left.num⟩, ⟨.slice (.st .expr), x.left.kids⟩, ⟨.int .i64, x.right.kind⟩, ⟨.int .i64, x.right.num⟩, ⟨.slice (.st .expr), x.right.kids⟩, ⟨.int .i64, x.rule⟩, ⟨.int .i64, x.ref⟩, ⟨.slice (.st .proofStep), x.steps⟩]
 | .proof, x => [⟨.int .i64, x.sig.tests⟩, ⟨.int .i64, x.sig.actions⟩, ⟨.slice (.st .claim), x.claims⟩]
 | .model, x => [⟨.int .i64, x.sig.tests⟩, ⟨.int .i64, x.sig.actions⟩, ⟨.int .i64, x.points⟩, ⟨.slice (.slice (.bool)), x.tests⟩, ⟨.slice (.slice (.slice (.bool))), x.acts⟩]
 | .costs, x => [⟨.int .i64, x.sig.tests⟩, ⟨.int .i64, x.sig.actions⟩, ⟨.int .i64, x.points⟩, ⟨.slice (.slice (.bool)), x.tests⟩, ⟨.slice (.slice (.slice (.int .i64))), x.acts⟩]
 | .prog, x => [⟨.int .i64, x.kind⟩, ⟨.int .i64, x.num⟩, ⟨.int .i64, x.cond.kind⟩, ⟨.int .i64, x.cond.num⟩, ⟨.slice (.st .expr), x.cond.kids⟩, ⟨.slice (.st .prog), x.kids⟩]
 | .world, x => [⟨.slice (.int .i64), x.atoms⟩, ⟨.slice (.slice (.int .i64)), x.acts⟩]
 | .spot, x => [⟨.int .i64, x.kind⟩, ⟨.int .i64, x.num⟩, ⟨.int .i64, x.cond.kind⟩, ⟨.int .i64, x.cond.num⟩, ⟨.slice (.st .expr), x.cond.kids⟩, ⟨.int .i64, x.to⟩, ⟨.int .i64, x.els⟩]
 | .flow, x => [⟨.int .i64, x.start⟩, ⟨.slice (.st .spot), x.spots⟩]
 | .triple, x => [⟨.int .i64, x.pre.kind⟩, ⟨.int .i64, x.pre.num⟩, ⟨.slice (.st .expr), x.pre.kids⟩, ⟨.int .i64, x.prog.kind⟩, ⟨.int .i64, x.prog.num⟩, ⟨.int .i64, x.prog.cond.kind⟩, ⟨.int .i64, x.prog.cond.num⟩, ⟨.slice (.st .expr), x.prog.cond.kids⟩, ⟨.slice (.st .prog), x.prog.kids⟩, ⟨.int .i64, x.post.kind⟩, ⟨.int .i64, x.post.num⟩, ⟨.slice (.st .expr), x.post.kids⟩]
 | .premise, x => [⟨.int .i64, x.pre.kind⟩, ⟨.int .i64, x.pre.num⟩, ⟨.slice (.st .expr), x.pre.kids⟩, ⟨.int .i64, x.act⟩, ⟨.int .i64, x.post.kind⟩, ⟨.int .i64, x.post.num⟩, ⟨.slice (.st .expr), x.post.kids⟩]
 | .derivation, x => [⟨.int .i64, x.rule⟩, ⟨.int .i64, x.says.pre.kind⟩, ⟨.int .i64, x.says.pre.num⟩, ⟨.slice (.st .expr), x.says.pre.kids⟩, ⟨.int .i64, x.says.prog.kind⟩, ⟨.int .i64, x.says.prog.num⟩, ⟨.int .i64, x.says.prog.cond.kind⟩, ⟨.int .i64, x.says.prog.cond.num⟩, ⟨.slice (.st .expr), x.says.prog.cond.kids⟩, ⟨.slice (.st .prog), x.says.prog.kids⟩, ⟨.int .i64, x.says.post.kind⟩, ⟨.int .i64, x.says.post.num⟩, ⟨.slice (.st .expr), x.says.post.kids⟩, ⟨.slice (.st .derivation), x.kids⟩]
 | .reader, x => [⟨.str, x.text⟩, ⟨.int .i64, x.pos⟩]
 | .deriver, x => [⟨.int .i64, x.g.tests⟩, ⟨.int .i64, x.g.actions⟩, ⟨.slice (.st .premise), x.list⟩]
 | .remover, x => [⟨.bool, x.large⟩]
 | .l00Src, x => [⟨.slice (.int .u8), x.code⟩, ⟨.int .i64, x.pos⟩, ⟨.int .u64, x.seed⟩]
 | .l01Reader, x => [⟨.str, x.text⟩, ⟨.int .i64, x.pos⟩, ⟨.int .i64, x.deep⟩, ⟨.bool, x.bad⟩]
 | .l02Maker, x => [⟨.slice (.slice (.st .expr)), x.s⟩, ⟨.slice (.st .expr), x.a⟩, ⟨.bool, x.bad⟩]
 | .l04Search, x => [⟨.slice (.st .expr), x.list⟩, ⟨.slice (.int .i64), x.frm⟩, ⟨.slice (.st .proofStep), x.by_⟩, ⟨.slice (.int .i64), x.far⟩]
 | .l07Finder, x => [⟨.int .i64, x.g.tests⟩, ⟨.int .i64, x.g.actions⟩, ⟨.slice (.st .premise), x.list⟩, ⟨.int .i64, x.left⟩, ⟨.bool, x.bad⟩]
 | .l07Duty, x => [⟨.int .i64, x.g.tests⟩, ⟨.int .i64, x.g.actions⟩, ⟨.slice (.st .premise), x.list⟩, ⟨.slice (.st .expr), x.invariants⟩, ⟨.bool, x.bad⟩]
def SName.size : SName → Nat
 | .sig => 2
 | .expr => 3
 | .oExpr => 3
 | .word => 2
 | .automaton => 4
 | .pair => 6
 | .equation => 6
 | .proofStep => 5
 | .claim => 9
 | .proof => 3
 | .model => 5
 | .costs => 5
 | .prog => 6
 | .world => 2
 | .spot => 7
 | .flow => 2
 | .triple => 12
 | .premise => 7
 | .derivation => 14
 | .reader => 2
 | .deriver => 3
 | .remover => 1
 | .l00Src => 3
 | .l01Reader => 4
 | .l02Maker => 3
 | .l04Search => 4
 | .l07Finder => 5
 | .l07Duty => 5
def SName.ctys : SName → List Ty
 | .sig => [.int .i64, .int .i64]
 | .expr => [.int .i64, .int .i64, .slice (.st .expr)]
 | .oExpr => [.int .i64, .int .i64, .mv (.st .expr)]
 | .word => [.slice (.int .i64), .slice (.int .i64)]
 | .automaton => [.int .i64, .int .i64, .slice (.slice (.bool)), .slice (.slice (.slice (.int .i64)))]
 | .pair => [.int .i64, .int .i64, .slice (.st .expr), .int .i64, .int .i64, .slice (.st .expr)]
 | .equation => [.int .i64, .int .i64, .slice (.st .expr), .int .i64, .int .i64, .slice (.st .expr)]
 | .proofStep => [.int .i64, .bool, .slice (.int .i64), .slice (.st .expr), .slice (.st .expr)]
 | .claim => [.int .i64, .int .i64, .slice (.st .expr), .int .i64, .int .i64, .slice (.st .expr), .int .i64, .int .i64, .slice (.st .proofStep)]
 | .proof => [.int .i64, .int .i64, .slice (.st .claim)]
 | .model => [.int .i64, .int .i64, .int .i64, .slice (.slice (.bool)), .slice (.slice (.slice (.bool)))]
 | .costs => [.int .i64, .int .i64, .int .i64, .slice (.slice (.bool)), .slice (.slice (.slice (.int .i64)))]
 | .prog => [.int .i64, .int .i64, .int .i64, .int .i64, .slice (.st .expr), .slice (.st .prog)]
 | .world => [.slice (.int .i64), .slice (.slice (.int .i64))]
 | .spot => [.int .i64, .int .i64, .int .i64, .int .i64, .slice (.st .expr), .int .i64, .int .i64]
 | .flow => [.int .i64, .slice (.st .spot)]
 | .triple => [.int .i64, .int .i64, .slice (.st .expr), .int .i64, .int .i64, .int .i64, .int .i64, .slice (.st .expr), .slice (.st .prog), .int .i64, .int .i64, .slice (.st .expr)]
 | .premise => [.int .i64, .int .i64, .slice (.st .expr), .int .i64, .int .i64, .int .i64, .slice (.st .expr)]
 | .derivation => [.int .i64, .int .i64, .int .i64, .slice (.st .expr), .int .i64, .int .i64, .int .i64, .int .i64, .slice (.st .expr), .slice (.st .prog), .int .i64, .int .i64, .slice (.st .expr), .slice (.st .derivation)]
 | .reader => [.str, .int .i64]
 | .deriver => [.int .i64, .int .i64, .slice (.st .premise)]
 | .remover => [.bool]
 | .l00Src => [.slice (.int .u8), .int .i64, .int .u64]
 | .l01Reader => [.str, .int .i64, .int .i64, .bool]
 | .l02Maker => [.slice (.slice (.st .expr)), .slice (.st .expr), .bool]
 | .l04Search => [.slice (.st .expr), .slice (.int .i64), .slice (.st .proofStep), .slice (.int .i64)]
 | .l07Finder => [.int .i64, .int .i64, .slice (.st .premise), .int .i64, .bool]
 | .l07Duty => [.int .i64, .int .i64, .slice (.st .premise), .slice (.st .expr), .bool]
def SName.ftys : SName → List Ty
 | .sig => [.int .i64, .int .i64]
 | .expr => [.int .i64, .int .i64, .slice (.st .expr)]
 | .oExpr => [.int .i64, .int .i64, .mv (.st .expr)]
 | .word => [.slice (.int .i64), .slice (.int .i64)]
 | .automaton => [.st .sig, .slice (.slice (.bool)), .slice (.slice (.slice (.int .i64)))]
 | .pair => [.st .expr, .st .expr]
 | .equation => [.st .expr, .st .expr]
 | .proofStep => [.int .i64, .bool, .slice (.int .i64), .slice (.st .expr), .slice (.st .expr)]
 | .claim => [.st .expr, .st .expr, .int .i64, .int .i64, .slice (.st .proofStep)]
 | .proof => [.st .sig, .slice (.st .claim)]
 | .model => [.st .sig, .int .i64, .slice (.slice (.bool)), .slice (.slice (.slice (.bool)))]
 | .costs => [.st .sig, .int .i64, .slice (.slice (.bool)), .slice (.slice (.slice (.int .i64)))]
 | .prog => [.int .i64, .int .i64, .st .expr, .slice (.st .prog)]
 | .world => [.slice (.int .i64), .slice (.slice (.int .i64))]
 | .spot => [.int .i64, .int .i64, .st .expr, .int .i64, .int .i64]
 | .flow => [.int .i64, .slice (.st .spot)]
 | .triple => [.st .expr, .st .prog, .st .expr]
 | .premise => [.st .expr, .int .i64, .st .expr]
 | .derivation => [.int .i64, .st .triple, .slice (.st .derivation)]
 | .reader => [.str, .int .i64]
 | .deriver => [.st .sig, .slice (.st .premise)]
 | .remover => [.bool]
 | .l00Src => [.slice (.int .u8), .int .i64, .int .u64]
 | .l01Reader => [.str, .int .i64, .int .i64, .bool]
 | .l02Maker => [.slice (.slice (.st .expr)), .slice (.st .expr), .bool]
 | .l04Search => [.slice (.st .expr), .slice (.int .i64), .slice (.st .proofStep), .slice (.int .i64)]
 | .l07Finder => [.st .sig, .slice (.st .premise), .int .i64, .bool]
 | .l07Duty => [.st .sig, .slice (.st .premise), .slice (.st .expr), .bool]
def SName.ofCells : (s : SName) → List TV → Option s.den
 | .sig, [a0, a1] => (a0.as (.int .i64)).bind fun b0 => (a1.as (.int .i64)).bind fun b1 => some (GSig.mk b0 b1)
 | .expr, [a0, a1, a2] => (a0.as (.int .i64)).bind fun b0 => (a1.as (.int .i64)).bind fun b1 => (a2.as (.slice (.st .expr))).bind fun b2 => some (GExpr.mk b0 b1 b2)
 | .oExpr, [a0, a1, a2] => (a0.as (.int .i64)).bind fun b0 => (a1.as (.int .i64)).bind fun b1 => (a2.as (.mv (.st .expr))).bind fun b2 => some (GOExpr.mk b0 b1 b2)
 | .word, [a0, a1] => (a0.as (.slice (.int .i64))).bind fun b0 => (a1.as (.slice (.int .i64))).bind fun b1 => some (GWord.mk b0 b1)
 | .automaton, [a0, a1, a2, a3] => (a0.as (.int .i64)).bind fun b0 => (a1.as (.int .i64)).bind fun b1 => (a2.as (.slice (.slice (.bool)))).bind fun b2 => (a3.as (.slice (.slice (.slice (.int .i64))))).bind fun b3 => some (GAutomaton.mk (GSig.mk b0 b1) b2 b3)
 | .pair, [a0, a1, a2, a3, a4, a5] => (a0.as (.int .i64)).bind fun b0 => (a1.as (.int .i64)).bind fun b1 => (a2.as (.slice (.st .expr))).bind fun b2 => (a3.as (.int .i64)).bind fun b3 => (a4.as (.int .i64)).bind fun b4 => (a5.as (.slice (.st .expr))).bind fun b5 => some (GPair.mk (GExpr.mk b0 b1 b2) (GExpr.mk b3 b4 b5))
 | .equation, [a0, a1, a2, a3, a4, a5] => (a0.as (.int .i64)).bind fun b0 => (a1.as (.int .i64)).bind fun b1 => (a2.as (.slice (.st .expr))).bind fun b2 => (a3.as (.int .i64)).bind fun b3 => (a4.as (.int .i64)).bind fun b4 => (a5.as (.slice (.st .expr))).bind fun b5 => some (GEquation.mk (GExpr.mk b0 b1 b2) (GExpr.mk b3 b4 b5))
 | .proofStep, [a0, a1, a2, a3, a4] => (a0.as (.int .i64)).bind fun b0 => (a1.as (.bool)).bind fun b1 => (a2.as (.slice (.int .i64))).bind fun b2 => (a3.as (.slice (.st .expr))).bind fun b3 => (a4.as (.slice (.st .expr))).bind fun b4 => some (GProofStep.mk b0 b1 b2 b3 b4)
 | .claim, [a0, a1, a2, a3, a4, a5, a6, a7, a8] => (a0.as (.int .i64)).bind fun b0 => (a1.as (.int .i64)).bind fun b1 => (a2.as (.slice (.st .expr))).bind fun b2 => (a3.as (.int .i64)).bind fun b3 => (a4.as (.int .i64)).bind fun b4 => (a5.as (.slice (.st .expr))).bind fun b5 => (a6.as (.int .i64)).bind fun b6 => (a7.as (.int .i64)).bind fun b7 => (a8.as (.slice (.st .proofStep))).bind fun b8 => some (GClaim.mk (GExpr.mk b0 b1 b2) (GExpr.mk b3 b4 b5) b6 b7 b8)
 | .proof, [a0, a1, a2] => (a0.as (.int .i64)).bind fun b0 => (a1.as (.int .i64)).bind fun b1 => (a2.as (.slice (.st .claim))).bind fun b2 => some (GProof.mk (GSig.mk b0 b1) b2)
 | .model, [a0, a1, a2, a3, a4] => (a0.as (.int .i64)).bind fun b0 => (a1.as (.int .i64)).bind fun b1 => (a2.as (.int .i64)).bind fun b2 => (a3.as (.slice (.slice (.bool)))).bind fun b3 => (a4.as (.slice (.slice (.slice (.bool))))).bind fun b4 => some (GModel.mk (GSig.mk b0 b1) b2 b3 b4)
 | .costs, [a0, a1, a2, a3, a4] => (a0.as (.int .i64)).bind fun b0 => (a1.as (.int .i64)).bind fun b1 => (a2.as (.int .i64)).bind fun b2 => (a3.as (.slice (.slice (.bool)))).bind fun b3 => (a4.as (.slice (.slice (.slice (.int .i64))))).bind fun b4 => some (GCosts.mk (GSig.mk b0 b1) b2 b3 b4)
 | .prog, [a0, a1, a2, a3, a4, a5] => (a0.as (.int .i64)).bind fun b0 => (a1.as (.int .i64)).bind fun b1 => (a2.as (.int .i64)).bind fun b2 => (a3.as (.int .i64)).bind fun b3 => (a4.as (.slice (.st .expr))).bind fun b4 => (a5.as (.slice (.st .prog))).bind fun b5 => some (GProg.mk b0 b1 (GExpr.mk b2 b3 b4) b5)
 | .world, [a0, a1] => (a0.as (.slice (.int .i64))).bind fun b0 => (a1.as (.slice (.slice (.int .i64)))).bind fun b1 => some (GWorld.mk b0 b1)
 | .spot, [a0, a1, a2, a3, a4, a5, a6] => (a0.as (.int .i64)).bind fun b0 => (a1.as (.int .i64)).bind fun b1 => (a2.as (.int .i64)).bind fun b2 => (a3.as (.int .i64)).bind fun b3 => (a4.as (.slice (.st .expr))).bind fun b4 => (a5.as (.int .i64)).bind fun b5 => (a6.as (.int .i64)).bind fun b6 => some (GSpot.mk b0 b1 (GExpr.mk b2 b3 b4) b5 b6)
 | .flow, [a0, a1] => (a0.as (.int .i64)).bind fun b0 => (a1.as (.slice (.st .spot))).bind fun b1 => some (GFlow.mk b0 b1)
 | .triple, [a0, a1, a2, a3, a4, a5, a6, a7, a8, a9, a10, a11] => (a0.as (.int .i64)).bind fun b0 => (a1.as (.int .i64)).bind fun b1 => (a2.as (.slice (.st .expr))).bind fun b2 => (a3.as (.int .i64)).bind fun b3 => (a4.as (.int .i64)).bind fun b4 => (a5.as (.int .i64)).bind fun b5 => (a6.as (.int .i64)).bind fun b6 => (a7.as (.slice (.st .expr))).bind fun b7 => (a8.as (.slice (.st .prog))).bind fun b8 => (a9.as (.int .i64)).bind fun b9 => (a10.as (.int .i64)).bind fun b10 => (a11.as (.slice (.st .expr))).bind fun b11 => some (GTriple.mk (GExpr.mk b0 b1 b2) (GProg.mk b3 b4 (GExpr.mk b5 b6 b7) b8) (GExpr.mk b9 b10 b11))
 | .premise, [a0, a1, a2, a3, a4, a5, a6] => (a0.as (.int .i64)).bind fun b0 => (a1.as (.int .i64)).bind fun b1 => (a2.as (.slice (.st .expr))).bind fun b2 => (a3.as (.int .i64)).bind fun b3 => (a4.as (.int .i64)).bind fun b4 => (a5.as (.int .i64)).bind fun b5 => (a6.as (.slice (.st .expr))).bind fun b6 => some (GPremise.mk (GExpr.mk b0 b1 b2) b3 (GExpr.mk b4 b5 b6))
 | .derivation, [a0, a1, a2, a3, a4, a5, a6, a7, a8, a9, a10, a11, a12, a13] => (a0.as (.int .i64)).bind fun b0 => (a1.as (.int .i64)).bind fun b1 => (a2.as (.int .i64)).bind fun b2 => (a3.as (.slice (.st .expr))).bind fun b3 => (a4.as (.int .i64)).bind fun b4 => (a5.as (.int .i64)).bind fun b5 => (a6.as (.int .i64)).bind fun b6 => (a7.as (.int .i64)).bind fun b7 => (a8.as (.slice (.st .expr))).bind fun b8 => (a9.as (.slice (.st .prog))).bind fun b9 => (a10.as (.int .i64)).bind fun b10 => (a11.as (.int .i64)).bind fun b11 => (a12.as (.slice (.st .expr))).bind fun b12 => (a13.as (.slice (.st .derivation))).bind fun b13 => some (GDerivation.mk b0 (GTriple.mk (GExpr.mk b1 b2 b3) (GProg.mk b4 b5 (GExpr.mk b6 b7 b8) b9) (GExpr.mk b10 b11 b12)) b13)
 | .reader, [a0, a1] => (a0.as (.str)).bind fun b0 => (a1.as (.int .i64)).bind fun b1 => some (GReader.mk b0 b1)
 | .deriver, [a0, a1, a2] => (a0.as (.int .i64)).bind fun b0 => (a1.as (.int .i64)).bind fun b1 => (a2.as (.slice (.st .premise))).bind fun b2 => some (GDeriver.mk (GSig.mk b0 b1) b2)
 | .remover, [a0] => (a0.as (.bool)).bind fun b0 => some (GRemover.mk b0)
 | .l00Src, [a0, a1, a2] => (a0.as (.slice (.int .u8))).bind fun b0 => (a1.as (.int .i64)).bind fun b1 => (a2.as (.int .u64)).bind fun b2 => some (GL00Src.mk b0 b1 b2)
 | .l01Reader, [a0, a1, a2, a3] => (a0.as (.str)).bind fun b0 => (a1.as (.int .i64)).bind fun b1 => (a2.as (.int .i64)).bind fun b2 => (a3.as (.bool)).bind fun b3 => some (GL01Reader.mk b0 b1 b2 b3)
 | .l02Maker, [a0, a1, a2] => (a0.as (.slice (.slice (.st .expr)))).bind fun b0 => (a1.as (.slice (.st .expr))).bind fun b1 => (a2.as (.bool)).bind fun b2 => some (GL02Maker.mk b0 b1 b2)
 | .l04Search, [a0, a1, a2, a3] => (a0.as (.slice (.st .expr))).bind fun b0 => (a1.as (.slice (.int .i64))).bind fun b1 => (a2.as (.slice (.st .proofStep))).bind fun b2 => (a3.as (.slice (.int .i64))).bind fun b3 => some (GL04Search.mk b0 b1 b2 b3)
 | .l07Finder, [a0, a1, a2, a3, a4] => (a0.as (.int .i64)).bind fun b0 => (a1.as (.int .i64)).bind fun b1 => (a2.as (.slice (.st .premise))).bind fun b2 => (a3.as (.int .i64)).bind fun b3 => (a4.as (.bool)).bind fun b4 => some (GL07Finder.mk (GSig.mk b0 b1) b2 b3 b4)
 | .l07Duty, [a0, a1, a2, a3, a4] => (a0.as (.int .i64)).bind fun b0 => (a1.as (.int .i64)).bind fun b1 => (a2.as (.slice (.st .premise))).bind fun b2 => (a3.as (.slice (.st .expr))).bind fun b3 => (a4.as (.bool)).bind fun b4 => some (GL07Duty.mk (GSig.mk b0 b1) b2 b3 b4)
 | _, _ => none
theorem SName.ofCells_some : ∀ {s : SName} {l : List TV} {x : s.den}, s.ofCells l = some x → s.cells x = l := by
 intro s l x h
 cases s
 case sig =>
  match l, h with
  | [a0, a1], h =>
   simp only [SName.ofCells, Option.bind_eq_some_iff, Option.some.injEq] at h
   obtain ⟨b0, h0, ⟨b1, h1, rfl⟩⟩ := h
   have e0 := TV.as_some h0; have e1 := TV.as_some h1
   subst e0 e1
   rfl
 case expr =>
  match l, h with
  | [a0, a1, a2], h =>
   simp only [SName.ofCells, Option.bind_eq_some_iff, Option.some.injEq] at h
   obtain ⟨b0, h0, ⟨b1, h1, ⟨b2, h2, rfl⟩⟩⟩ := h
   have e0 := TV.as_some h0; have e1 := TV.as_some h1; have e2 := TV.as_some h2
   subst e0 e1 e2
   rfl
 case oExpr =>
  match l, h with
  | [a0, a1, a2], h =>
   simp only [SName.ofCells, Option.bind_eq_some_iff, Option.some.injEq] at h
   obtain ⟨b0, h0, ⟨b1, h1, ⟨b2, h2, rfl⟩⟩⟩ := h
   have e0 := TV.as_some h0; have e1 := TV.as_some h1; have e2 := TV.as_some h2
   subst e0 e1 e2
   rfl
 case word =>
  match l, h with
  | [a0, a1], h =>
   simp only [SName.ofCells, Option.bind_eq_some_iff, Option.some.injEq] at h
   obtain ⟨b0, h0, ⟨b1, h1, rfl⟩⟩ := h
   have e0 := TV.as_some h0; have e1 := TV.as_some h1
   subst e0 e1
   rfl
 case automaton =>
  match l, h with
  | [a0, a1, a2, a3], h =>
   simp only [SName.ofCells, Option.bind_eq_some_iff, Option.some.injEq] at h
   obtain ⟨b0, h0, ⟨b1, h1, ⟨b2, h2, ⟨b3, h3, rfl⟩⟩⟩⟩ := h
   have e0 := TV.as_some h0; have e1 := TV.as_some h1; have e2 := TV.as_some h2; have e3 := TV.as_some h3
   subst e0 e1 e2 e3
   rfl
 case pair =>
  match l, h with
  | [a0, a1, a2, a3, a4, a5], h =>
   simp only [SName.ofCells, Option.bind_eq_some_iff, Option.some.injEq] at h
   obtain ⟨b0, h0, ⟨b1, h1, ⟨b2, h2, ⟨b3, h3, ⟨b4, h4, ⟨b5, h5, rfl⟩⟩⟩⟩⟩⟩ := h
   have e0 := TV.as_some h0; have e1 := TV.as_some h1; have e2 := TV.as_some h2; have e3 := TV.as_some h3; have e4 := TV.as_some h4; have e5 := TV.as_some h5
   subst e0 e1 e2 e3 e4 e5
   rfl
 case equation =>
  match l, h with
  | [a0, a1, a2, a3, a4, a5], h =>
   simp only [SName.ofCells, Option.bind_eq_some_iff, Option.some.injEq] at h
   obtain ⟨b0, h0, ⟨b1, h1, ⟨b2, h2, ⟨b3, h3, ⟨b4, h4, ⟨b5, h5, rfl⟩⟩⟩⟩⟩⟩ := h
   have e0 := TV.as_some h0; have e1 := TV.as_some h1; have e2 := TV.as_some h2; have e3 := TV.as_some h3; have e4 := TV.as_some h4; have e5 := TV.as_some h5
   subst e0 e1 e2 e3 e4 e5
   rfl
 case proofStep =>
  match l, h with
  | [a0, a1, a2, a3, a4], h =>
   simp only [SName.ofCells, Option.bind_eq_some_iff, Option.some.injEq] at h
   obtain ⟨b0, h0, ⟨b1, h1, ⟨b2, h2, ⟨b3, h3, ⟨b4, h4, rfl⟩⟩⟩⟩⟩ := h
   have e0 := TV.as_some h0; have e1 := TV.as_some h1; have e2 := TV.as_some h2; have e3 := TV.as_some h3; have e4 := TV.as_some h4
   subst e0 e1 e2 e3 e4
   rfl
 case claim =>
  match l, h with
  | [a0, a1, a2, a3, a4, a5, a6, a7, a8], h =>
   simp only [SName.ofCells, Option.bind_eq_some_iff, Option.some.injEq] at h
   obtain ⟨b0, h0, ⟨b1, h1, ⟨b2, h2, ⟨b3, h3, ⟨b4, h4, ⟨b5, h5, ⟨b6, h6, ⟨b7, h7, ⟨b8, h8, rfl⟩⟩⟩⟩⟩⟩⟩⟩⟩ := h
   have e0 := TV.as_some h0; have e1 := TV.as_some h1; have e2 := TV.as_some h2; have e3 := TV.as_some h3; have e4 := TV.as_some h4; have e5 := TV.as_some h5; have e6 := TV.as_some h6; have e7 := TV.as_some h7; have e8 := TV.as_some h8
   subst e0 e1 e2 e3 e4 e5 e6 e7 e8
   rfl
 case proof =>
  match l, h with
  | [a0, a1, a2], h =>
   simp only [SName.ofCells, Option.bind_eq_some_iff, Option.some.injEq] at h
   obtain ⟨b0, h0, ⟨b1, h1, ⟨b2, h2, rfl⟩⟩⟩ := h
   have e0 := TV.as_some h0; have e1 := TV.as_some h1; have e2 := TV.as_some h2
   subst e0 e1 e2
   rfl
 case model =>
  match l, h with
  | [a0, a1, a2, a3, a4], h =>
   simp only [SName.ofCells, Option.bind_eq_some_iff, Option.some.injEq] at h
   obtain ⟨b0, h0, ⟨b1, h1, ⟨b2, h2, ⟨b3, h3, ⟨b4, h4, rfl⟩⟩⟩⟩⟩ := h
   have e0 := TV.as_some h0; have e1 := TV.as_some h1; have e2 := TV.as_some h2; have e3 := TV.as_some h3; have e4 := TV.as_some h4
   subst e0 e1 e2 e3 e4
   rfl
 case costs =>
  match l, h with
  | [a0, a1, a2, a3, a4], h =>
   simp only [SName.ofCells, Option.bind_eq_some_iff, Option.some.injEq] at h
   obtain ⟨b0, h0, ⟨b1, h1, ⟨b2, h2, ⟨b3, h3, ⟨b4, h4, rfl⟩⟩⟩⟩⟩ := h
   have e0 := TV.as_some h0; have e1 := TV.as_some h1; have e2 := TV.as_some h2; have e3 := TV.as_some h3; have e4 := TV.as_some h4
   subst e0 e1 e2 e3 e4
   rfl
 case prog =>
  match l, h with
  | [a0, a1, a2, a3, a4, a5], h =>
   simp only [SName.ofCells, Option.bind_eq_some_iff, Option.some.injEq] at h
   obtain ⟨b0, h0, ⟨b1, h1, ⟨b2, h2, ⟨b3, h3, ⟨b4, h4, ⟨b5, h5, rfl⟩⟩⟩⟩⟩⟩ := h
   have e0 := TV.as_some h0; have e1 := TV.as_some h1; have e2 := TV.as_some h2; have e3 := TV.as_some h3; have e4 := TV.as_some h4; have e5 := TV.as_some h5
   subst e0 e1 e2 e3 e4 e5
   rfl
 case world =>
  match l, h with
  | [a0, a1], h =>
   simp only [SName.ofCells, Option.bind_eq_some_iff, Option.some.injEq] at h
   obtain ⟨b0, h0, ⟨b1, h1, rfl⟩⟩ := h
   have e0 := TV.as_some h0; have e1 := TV.as_some h1
   subst e0 e1
   rfl
 case spot =>
  match l, h with
  | [a0, a1, a2, a3, a4, a5, a6], h =>
   simp only [SName.ofCells, Option.bind_eq_some_iff, Option.some.injEq] at h
   obtain ⟨b0, h0, ⟨b1, h1, ⟨b2, h2, ⟨b3, h3, ⟨b4, h4, ⟨b5, h5, ⟨b6, h6, rfl⟩⟩⟩⟩⟩⟩⟩ := h
   have e0 := TV.as_some h0; have e1 := TV.as_some h1; have e2 := TV.as_some h2; have e3 := TV.as_some h3; have e4 := TV.as_some h4; have e5 := TV.as_some h5; have e6 := TV.as_some h6
   subst e0 e1 e2 e3 e4 e5 e6
   rfl
 case flow =>
  match l, h with
  | [a0, a1], h =>
   simp only [SName.ofCells, Option.bind_eq_some_iff, Option.some.injEq] at h
   obtain ⟨b0, h0, ⟨b1, h1, rfl⟩⟩ := h
   have e0 := TV.as_some h0; have e1 := TV.as_some h1
   subst e0 e1
   rfl
 case triple =>
  match l, h with
  | [a0, a1, a2, a3, a4, a5, a6, a7, a8, a9, a10, a11], h =>
   simp only [SName.ofCells, Option.bind_eq_some_iff, Option.some.injEq] at h
   obtain ⟨b0, h0, ⟨b1, h1, ⟨b2, h2, ⟨b3, h3, ⟨b4, h4, ⟨b5, h5, ⟨b6, h6, ⟨b7, h7, ⟨b8, h8, ⟨b9, h9, ⟨b10, h10, ⟨b11, h11, rfl⟩⟩⟩⟩⟩⟩⟩⟩⟩⟩⟩⟩ := h
   have e0 := TV.as_some h0; have e1 := TV.as_some h1; have e2 := TV.as_some h2; have e3 := TV.as_some h3; have e4 := TV.as_some h4; have e5 := TV.as_some h5; have e6 := TV.as_some h6; have e7 := TV.as_some h7; have e8 := TV.as_some h8; have e9 := TV.as_some h9; have e10 := TV.as_some h10; have e11 := TV.as_some h11
   subst e0 e1 e2 e3 e4 e5 e6 e7 e8 e9 e10 e11
   rfl
 case premise =>
  match l, h with
  | [a0, a1, a2, a3, a4, a5, a6], h =>
   simp only [SName.ofCells, Option.bind_eq_some_iff, Option.some.injEq] at h
   obtain ⟨b0, h0, ⟨b1, h1, ⟨b2, h2, ⟨b3, h3, ⟨b4, h4, ⟨b5, h5, ⟨b6, h6, rfl⟩⟩⟩⟩⟩⟩⟩ := h
   have e0 := TV.as_some h0; have e1 := TV.as_some h1; have e2 := TV.as_some h2; have e3 := TV.as_some h3; have e4 := TV.as_some h4; have e5 := TV.as_some h5; have e6 := TV.as_some h6
   subst e0 e1 e2 e3 e4 e5 e6
   rfl
 case derivation =>
  match l, h with
  | [a0, a1, a2, a3, a4, a5, a6, a7, a8, a9, a10, a11, a12, a13], h =>
   simp only [SName.ofCells, Option.bind_eq_some_iff, Option.some.injEq] at h
   obtain ⟨b0, h0, ⟨b1, h1, ⟨b2, h2, ⟨b3, h3, ⟨b4, h4, ⟨b5, h5, ⟨b6, h6, ⟨b7, h7, ⟨b8, h8, ⟨b9, h9, ⟨b10, h10, ⟨b11, h11, ⟨b12, h12, ⟨b13, h13, rfl⟩⟩⟩⟩⟩⟩⟩⟩⟩⟩⟩⟩⟩⟩ := h
   have e0 := TV.as_some h0; have e1 := TV.as_some h1; have e2 := TV.as_some h2; have e3 := TV.as_some h3; have e4 := TV.as_some h4; have e5 := TV.as_some h5; have e6 := TV.as_some h6; have e7 := TV.as_some h7; have e8 := TV.as_some h8; have e9 := TV.as_some h9; have e10 := TV.as_some h10; have e11 := TV.as_some h11; have e12 := TV.as_some h12; have e13 := TV.as_some h13
   subst e0 e1 e2 e3 e4 e5 e6 e7 e8 e9 e10 e11 e12 e13
   rfl
 case reader =>
  match l, h with
  | [a0, a1], h =>
   simp only [SName.ofCells, Option.bind_eq_some_iff, Option.some.injEq] at h
   obtain ⟨b0, h0, ⟨b1, h1, rfl⟩⟩ := h
   have e0 := TV.as_some h0; have e1 := TV.as_some h1
   subst e0 e1
   rfl
 case deriver =>
  match l, h with
  | [a0, a1, a2], h =>
   simp only [SName.ofCells, Option.bind_eq_some_iff, Option.some.injEq] at h
   obtain ⟨b0, h0, ⟨b1, h1, ⟨b2, h2, rfl⟩⟩⟩ := h
   have e0 := TV.as_some h0; have e1 := TV.as_some h1; have e2 := TV.as_some h2
   subst e0 e1 e2
   rfl
 case remover =>
  match l, h with
  | [a0], h =>
   simp only [SName.ofCells, Option.bind_eq_some_iff, Option.some.injEq] at h
   obtain ⟨b0, h0, rfl⟩ := h
   have e0 := TV.as_some h0
   subst e0
   rfl
 case l00Src =>
  match l, h with
  | [a0, a1, a2], h =>
   simp only [SName.ofCells, Option.bind_eq_some_iff, Option.some.injEq] at h
   obtain ⟨b0, h0, ⟨b1, h1, ⟨b2, h2, rfl⟩⟩⟩ := h
   have e0 := TV.as_some h0; have e1 := TV.as_some h1; have e2 := TV.as_some h2
   subst e0 e1 e2
   rfl
 case l01Reader =>
  match l, h with
  | [a0, a1, a2, a3], h =>
   simp only [SName.ofCells, Option.bind_eq_some_iff, Option.some.injEq] at h
   obtain ⟨b0, h0, ⟨b1, h1, ⟨b2, h2, ⟨b3, h3, rfl⟩⟩⟩⟩ := h
   have e0 := TV.as_some h0; have e1 := TV.as_some h1; have e2 := TV.as_some h2; have e3 := TV.as_some h3
   subst e0 e1 e2 e3
   rfl
 case l02Maker =>
  match l, h with
  | [a0, a1, a2], h =>
   simp only [SName.ofCells, Option.bind_eq_some_iff, Option.some.injEq] at h
   obtain ⟨b0, h0, ⟨b1, h1, ⟨b2, h2, rfl⟩⟩⟩ := h
   have e0 := TV.as_some h0; have e1 := TV.as_some h1; have e2 := TV.as_some h2
   subst e0 e1 e2
   rfl
 case l04Search =>
  match l, h with
  | [a0, a1, a2, a3], h =>
   simp only [SName.ofCells, Option.bind_eq_some_iff, Option.some.injEq] at h
   obtain ⟨b0, h0, ⟨b1, h1, ⟨b2, h2, ⟨b3, h3, rfl⟩⟩⟩⟩ := h
   have e0 := TV.as_some h0; have e1 := TV.as_some h1; have e2 := TV.as_some h2; have e3 := TV.as_some h3
   subst e0 e1 e2 e3
   rfl
 case l07Finder =>
  match l, h with
  | [a0, a1, a2, a3, a4], h =>
   simp only [SName.ofCells, Option.bind_eq_some_iff, Option.some.injEq] at h
   obtain ⟨b0, h0, ⟨b1, h1, ⟨b2, h2, ⟨b3, h3, ⟨b4, h4, rfl⟩⟩⟩⟩⟩ := h
   have e0 := TV.as_some h0; have e1 := TV.as_some h1; have e2 := TV.as_some h2; have e3 := TV.as_some h3; have e4 := TV.as_some h4
   subst e0 e1 e2 e3 e4
   rfl
 case l07Duty =>
  match l, h with
  | [a0, a1, a2, a3, a4], h =>
   simp only [SName.ofCells, Option.bind_eq_some_iff, Option.some.injEq] at h
   obtain ⟨b0, h0, ⟨b1, h1, ⟨b2, h2, ⟨b3, h3, ⟨b4, h4, rfl⟩⟩⟩⟩⟩ := h
   have e0 := TV.as_some h0; have e1 := TV.as_some h1; have e2 := TV.as_some h2; have e3 := TV.as_some h3; have e4 := TV.as_some h4
   subst e0 e1 e2 e3 e4
   rfl
theorem SName.cells_length (s : SName) (x : s.den) : (s.cells x).length = s.size := by cases s <;> rfl
theorem SName.cells_tys (s : SName) (x : s.den) : (s.cells x).map TV.τ = s.ctys := by cases s <;> rfl
theorem SName.fields_tys (s : SName) (x : s.den) : (s.fields x).map TV.τ = s.ftys := by cases s <;> rfl
def Ty.size : Ty → Nat
 | .st s => s.size
 | _ => 1
def TV.cells (v : TV) : List TV :=
 match v with
 | ⟨.st s, x⟩ => s.cells x
 | v => [v]
theorem SName.cells_fields (s : SName) (x : s.den) : s.cells x = (s.fields x).flatMap TV.cells := by cases s <;> rfl
def GSig.toD (x : GSig) : D := .agg [.int .i64 x.tests, .int .i64 x.actions]
mutual
def GExpr.toD : GExpr → D
 | ⟨kind, num, kids⟩ => .agg [.int .i64 kind, .int .i64 num, .slice 3 (GExpr.toDs kids)]
def GExpr.toDs : List GExpr → List D
 | [] => []
 | e :: r => e.toD :: GExpr.toDs r
end
theorem GExpr.toDs_eq : ∀ l, GExpr.toDs l = l.map GExpr.toD
 | [] => rfl
 | _ :: r => congrArg _ (GExpr.toDs_eq r)
def GOExpr.toD (x : GOExpr) : D := .agg [.int .i64 x.kind, .int .i64 x.num, mvD 3 (fun y => GExpr.toD y) x.kids]
def GWord.toD (x : GWord) : D := .agg [.slice 1 (x.atoms.map fun y => .int .i64 y), .slice 1 (x.acts.map fun y => .int .i64 y)]
def GAutomaton.toD (x : GAutomaton) : D := .agg [.int .i64 x.sig.tests, .int .i64 x.sig.actions, .slice 1 (x.accept.map fun y => .slice 1 (y.map fun y => .bool y)), .slice 1 (x.next.map fun y => .slice 1 (y.map fun y => .slice 1 (y.map fun y => .int .i64 y)))]
def GPair.toD (x : GPair) : D := .agg [.int .i64 x.left.kind, .int .i64 x.left.num, .slice 3 (x.left.kids.map fun y => GExpr.toD y), .int .i64 x.right.kind, .int .i64 x.right.num, .slice 3 (x.right.kids.map fun y => GExpr.toD y)]
def GEquation.toD (x : GEquation) : D := .agg [.int .i64 x.left.kind, .int .i64 x.left.num, .slice 3 (x.left.kids.map fun y => GExpr.toD y), .int .i64 x.right.kind, .int .i64 x.right.num, .slice 3 (x.right.kids.map fun y => GExpr.toD y)]
def GProofStep.toD (x : GProofStep) : D := .agg [.int .i64 x.use, .bool x.back, .slice 1 (x.path.map fun y => .int .i64 y), .slice 3 (x.tests.map fun y => GExpr.toD y), .slice 3 (x.acts.map fun y => GExpr.toD y)]
def GClaim.toD (x : GClaim) : D := .agg [.int .i64 x.left.kind, .int .i64 x.left.num, .slice 3 (x.left.kids.map fun y => GExpr.toD y), .int .i64 x.right.kind, .int .i64 x.right.num, .slice 3 (x.right.kids.map fun y => GExpr.toD y), .int .i64 x.rule, .int .i64 x.ref, .slice 5 (x.steps.map fun y => GProofStep.toD y)]
def GProof.toD (x : GProof) : D := .agg [.int .i64 x.sig.tests, .int .i64 x.sig.actions, .slice 9 (x.claims.map fun y => GClaim.toD y)]
def GModel.toD (x : GModel) : D := .agg [.int .i64 x.sig.tests, .int .i64 x.sig.actions, .int .i64 x.points, .slice 1 (x.tests.map fun y => .slice 1 (y.map fun y => .bool y)), .slice 1 (x.acts.map fun y => .slice 1 (y.map fun y => .slice 1 (y.map fun y => .bool y)))]
def GCosts.toD (x : GCosts) : D := .agg [.int .i64 x.sig.tests, .int .i64 x.sig.actions, .int .i64 x.points, .slice 1 (x.tests.map fun y => .slice 1 (y.map fun y => .bool y)), .slice 1 (x.acts.map fun y => .slice 1 (y.map fun y => .slice 1 (y.map fun y => .int .i64 y)))]
mutual
def GProg.toD : GProg → D
 | ⟨kind, num, cond, kids⟩ => .agg [.int .i64 kind, .int .i64 num, .int .i64 cond.kind, .int .i64 cond.num, .slice 3 (cond.kids.map fun y => GExpr.toD y), .slice 6 (GProg.toDs kids)]
def GProg.toDs : List GProg → List D
 | [] => []
 | e :: r => e.toD :: GProg.toDs r
end
theorem GProg.toDs_eq : ∀ l, GProg.toDs l = l.map GProg.toD
 | [] => rfl
 | _ :: r => congrArg _ (GProg.toDs_eq r)
def GWorld.toD (x : GWorld) : D := .agg [.slice 1 (x.atoms.map fun y => .int .i64 y), .slice 1 (x.acts.map fun y => .slice 1 (y.map fun y => .int .i64 y))]
def GSpot.toD (x : GSpot) : D := .agg [.int .i64 x.kind, .int .i64 x.num, .int .i64 x.cond.kind, .int .i64 x.cond.num, .slice 3 (x.cond.kids.map fun y => GExpr.toD y), .int .i64 x.to, .int .i64 x.els]
def GFlow.toD (x : GFlow) : D := .agg [.int .i64 x.start, .slice 7 (x.spots.map fun y => GSpot.toD y)]
def GTriple.toD (x : GTriple) : D := .agg [.int .i64 x.pre.kind, .int .i64 x.pre.num, .slice 3 (x.pre.kids.map fun y => GExpr.toD y), .int .i64 x.prog.kind, .int .i64 x.prog.num, .int .i64 x.prog.cond.kind, .int .i64 x.prog.cond.num, .slice 3 (x.prog.cond.kids.map fun y => GExpr.toD y), .slice 6 (x.prog.kids.map fun y => GProg.toD y), .int .i64 x.post.kind, .int .i64 x.post.num, .slice 3 (x.post.kids.map fun y => GExpr.toD y)]
def GPremise.toD (x : GPremise) : D := .agg [.int .i64 x.pre.kind, .int .i64 x.pre.num, .slice 3 (x.pre.kids.map fun y => GExpr.toD y), .int .i64 x.act, .int .i64 x.post.kind, .int .i64 x.post.num, .slice 3 (x.post.kids.map fun y => GExpr.toD y)]
mutual
def GDerivation.toD : GDerivation → D
 | ⟨rule, says, kids⟩ => .agg [.int .i64 rule, .int .i64 says.pre.kind, .int .i64 says.pre.num, .slice 3 (says.pre.kids.map fun y => GExpr.toD y), .int .i64 says.prog.kind, .int .i64 says.prog.num, .int .i64 says.prog.cond.kind, .int .i64 says.prog.cond.num, .slice 3 (says.prog.cond.kids.map fun y => GExpr.toD y), .slice 6 (says.prog.kids.map fun y => GProg.toD y), .int .i64 says.post.kind, .int .i64 says.post.num, .slice 3 (says.post.kids.map fun y => GExpr.toD y), .slice 14 (GDerivation.toDs kids)]
def GDerivation.toDs : List GDerivation → List D
 | [] => []
 | e :: r => e.toD :: GDerivation.toDs r
end
theorem GDerivation.toDs_eq : ∀ l, GDerivation.toDs l = l.map GDerivation.toD
 | [] => rfl
 | _ :: r => congrArg _ (GDerivation.toDs_eq r)
def GReader.toD (x : GReader) : D := .agg [.str x.text, .int .i64 x.pos]
def GDeriver.toD (x : GDeriver) : D := .agg [.int .i64 x.g.tests, .int .i64 x.g.actions, .slice 7 (x.list.map fun y => GPremise.toD y)]
def GRemover.toD (x : GRemover) : D := .agg [.bool x.large]
def GL00Src.toD (x : GL00Src) : D := .agg [.slice 1 (x.code.map fun y => .int .u8 y), .int .i64 x.pos, .int .u64 x.seed]
def GL01Reader.toD (x : GL01Reader) : D := .agg [.str x.text, .int .i64 x.pos, .int .i64 x.deep, .bool x.bad]
def GL02Maker.toD (x : GL02Maker) : D := .agg [.slice 1 (x.s.map fun y => .slice 3 (y.map fun y => GExpr.toD y)), .slice 3 (x.a.map fun y => GExpr.toD y), .bool x.bad]
def GL04Search.toD (x : GL04Search) : D := .agg [.slice 3 (x.list.map fun y => GExpr.toD y), .slice 1 (x.frm.map fun y => .int .i64 y), .slice 5 (x.by_.map fun y => GProofStep.toD y), .slice 1 (x.far.map fun y => .int .i64 y)]
def GL07Finder.toD (x : GL07Finder) : D := .agg [.int .i64 x.g.tests, .int .i64 x.g.actions, .slice 7 (x.list.map fun y => GPremise.toD y), .int .i64 x.left, .bool x.bad]
def GL07Duty.toD (x : GL07Duty) : D := .agg [.int .i64 x.g.tests, .int .i64 x.g.actions, .slice 7 (x.list.map fun y => GPremise.toD y), .slice 3 (x.invariants.map fun y => GExpr.toD y), .bool x.bad]
def SName.toD : (s : SName) → s.den → D
 | .sig, x => GSig.toD x
 | .expr, x => GExpr.toD x
 | .oExpr, x => GOExpr.toD x
 | .word, x => GWord.toD x
 | .automaton, x => GAutomaton.toD x
 | .pair, x => GPair.toD x
 | .equation, x => GEquation.toD x
 | .proofStep, x => GProofStep.toD x
 | .claim, x => GClaim.toD x
 | .proof, x => GProof.toD x
 | .model, x => GModel.toD x
 | .costs, x => GCosts.toD x
 | .prog, x => GProg.toD x
 | .world, x => GWorld.toD x
 | .spot, x => GSpot.toD x
 | .flow, x => GFlow.toD x
 | .triple, x => GTriple.toD x
 | .premise, x => GPremise.toD x
 | .derivation, x => GDerivation.toD x
 | .reader, x => GReader.toD x
 | .deriver, x => GDeriver.toD x
 | .remover, x => GRemover.toD x
 | .l00Src, x => GL00Src.toD x
 | .l01Reader, x => GL01Reader.toD x
 | .l02Maker, x => GL02Maker.toD x
 | .l04Search, x => GL04Search.toD x
 | .l07Finder, x => GL07Finder.toD x
 | .l07Duty, x => GL07Duty.toD x
def Ty.toD : (t : Ty) → t.den → D
 | .int k, n => .int k n
 | .bool, b => .bool b
 | .str, s => .str s
 | .slice t, xs => .slice t.size (xs.map t.toD)
 | .st s, x => s.toD x
 | .mv t, o => mvD t.size t.toD o
def TV.toD (v : TV) : D := v.τ.toD v.x
theorem SName.toD_cells (s : SName) (x : s.den) : s.toD x = .agg ((s.cells x).map TV.toD) := by
 cases s <;> first
  | rfl
  | (cases x; simp [SName.toD, GExpr.toD, SName.cells, TV.toD, Ty.toD, Ty.size, SName.size, GExpr.toDs_eq]; done)
  | (cases x; simp [SName.toD, GProg.toD, SName.cells, TV.toD, Ty.toD, Ty.size, SName.size, GProg.toDs_eq]; done)
  | (cases x; simp [SName.toD, GDerivation.toD, SName.cells, TV.toD, Ty.toD, Ty.size, SName.size, GDerivation.toDs_eq]; done)
  | (simp [SName.toD, SName.cells, TV.toD, Ty.toD, Ty.size, SName.size, GSig.toD, GExpr.toD, GOExpr.toD, GWord.toD, GAutomaton.toD, GPair.toD, GEquation.toD, GProofStep.toD, GClaim.toD, GProof.toD, GModel.toD, GCosts.toD, GProg.toD, GWorld.toD, GSpot.toD, GFlow.toD, GTriple.toD, GPremise.toD, GDerivation.toD, GReader.toD, GDeriver.toD, GRemover.toD, GL00Src.toD, GL01Reader.toD, GL02Maker.toD, GL04Search.toD, GL07Finder.toD, GL07Duty.toD, GExpr.toDs_eq, GProg.toDs_eq, GDerivation.toDs_eq]; done)
def SName.zero : (s : SName) → s.den
 | .sig => (GSig.mk 0 0)
 | .expr => (GExpr.mk 0 0 [])
 | .oExpr => (GOExpr.mk 0 0 none)
 | .word => (GWord.mk [] [])
 | .automaton => (GAutomaton.mk (GSig.mk 0 0) [] [])
 | .pair => (GPair.mk (GExpr.mk 0 0 []) (GExpr.mk 0 0 []))
 | .equation => (GEquation.mk (GExpr.mk 0 0 []) (GExpr.mk 0 0 []))
 | .proofStep => (GProofStep.mk 0 false [] [] [])
 | .claim => (GClaim.mk (GExpr.mk 0 0 []) (GExpr.mk 0 0 []) 0 0 [])
 | .proof => (GProof.mk (GSig.mk 0 0) [])
 | .model => (GModel.mk (GSig.mk 0 0) 0 [] [])
 | .costs => (GCosts.mk (GSig.mk 0 0) 0 [] [])
 | .prog => (GProg.mk 0 0 (GExpr.mk 0 0 []) [])
 | .world => (GWorld.mk [] [])
 | .spot => (GSpot.mk 0 0 (GExpr.mk 0 0 []) 0 0)
 | .flow => (GFlow.mk 0 [])
 | .triple => (GTriple.mk (GExpr.mk 0 0 []) (GProg.mk 0 0 (GExpr.mk 0 0 []) []) (GExpr.mk 0 0 []))
 | .premise => (GPremise.mk (GExpr.mk 0 0 []) 0 (GExpr.mk 0 0 []))
 | .derivation => (GDerivation.mk 0 (GTriple.mk (GExpr.mk 0 0 []) (GProg.mk 0 0 (GExpr.mk 0 0 []) []) (GExpr.mk 0 0 [])) [])
 | .reader => (GReader.mk [] 0)
 | .deriver => (GDeriver.mk (GSig.mk 0 0) [])
 | .remover => (GRemover.mk false)
 | .l00Src => (GL00Src.mk [] 0 0)
 | .l01Reader => (GL01Reader.mk [] 0 0 false)
 | .l02Maker => (GL02Maker.mk [] [] false)
 | .l04Search => (GL04Search.mk [] [] [] [])
 | .l07Finder => (GL07Finder.mk (GSig.mk 0 0) [] 0 false)
 | .l07Duty => (GL07Duty.mk (GSig.mk 0 0) [] [] false)
def Ty.zero : (t : Ty) → t.den
 | .int _ => (0 : Int)
 | .bool => false
 | .str => ([] : List UInt8)
 | .slice _ => []
 | .st s => s.zero
 | .mv _ => none
instance : Inhabited GSig := ⟨SName.zero .sig⟩
instance : Inhabited GExpr := ⟨SName.zero .expr⟩
instance : Inhabited GOExpr := ⟨SName.zero .oExpr⟩
instance : Inhabited GWord := ⟨SName.zero .word⟩
instance : Inhabited GAutomaton := ⟨SName.zero .automaton⟩
instance : Inhabited GPair := ⟨SName.zero .pair⟩
instance : Inhabited GEquation := ⟨SName.zero .equation⟩
instance : Inhabited GProofStep := ⟨SName.zero .proofStep⟩
instance : Inhabited GClaim := ⟨SName.zero .claim⟩
instance : Inhabited GProof := ⟨SName.zero .proof⟩
instance : Inhabited GModel := ⟨SName.zero .model⟩
instance : Inhabited GCosts := ⟨SName.zero .costs⟩
instance : Inhabited GProg := ⟨SName.zero .prog⟩
instance : Inhabited GWorld := ⟨SName.zero .world⟩
instance : Inhabited GSpot := ⟨SName.zero .spot⟩
instance : Inhabited GFlow := ⟨SName.zero .flow⟩
instance : Inhabited GTriple := ⟨SName.zero .triple⟩
instance : Inhabited GPremise := ⟨SName.zero .premise⟩
instance : Inhabited GDerivation := ⟨SName.zero .derivation⟩
instance : Inhabited GReader := ⟨SName.zero .reader⟩
instance : Inhabited GDeriver := ⟨SName.zero .deriver⟩
instance : Inhabited GRemover := ⟨SName.zero .remover⟩
instance : Inhabited GL00Src := ⟨SName.zero .l00Src⟩
instance : Inhabited GL01Reader := ⟨SName.zero .l01Reader⟩
instance : Inhabited GL02Maker := ⟨SName.zero .l02Maker⟩
instance : Inhabited GL04Search := ⟨SName.zero .l04Search⟩
instance : Inhabited GL07Finder := ⟨SName.zero .l07Finder⟩
instance : Inhabited GL07Duty := ⟨SName.zero .l07Duty⟩
abbrev zE : GExpr := GExpr.mk (0 : Int) (0 : Int) []
abbrev zP : GProg := GProg.mk (0 : Int) (0 : Int) (GExpr.mk (0 : Int) (0 : Int) []) []
abbrev zD : GDerivation := GDerivation.mk (0 : Int) (GTriple.mk (GExpr.mk (0 : Int) (0 : Int) []) (GProg.mk (0 : Int) (0 : Int) (GExpr.mk (0 : Int) (0 : Int) []) []) (GExpr.mk (0 : Int) (0 : Int) [])) []
end Go.Proofs.YtkogipcdjalehaaDoor
