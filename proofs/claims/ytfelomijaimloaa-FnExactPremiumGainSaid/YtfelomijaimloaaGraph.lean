/- Which functions, and which variables, each function of the translation names; and what a function reaches, reckoned by these tables. No condition. WRITTEN BY PROGRAM (wip/gen_graph.py). -/
import Derived.Test.YtfelomijaimloaaRows
import Derived.JoinedOf
namespace Go.Proofs.Ytfelomijaimloaa
open Go

def gLeads : List (List Nat) := [[], [], [1], [30, 30, 32, 32, 31, 32, 32, 33, 32, 34, 32, 34], [30, 30, 32, 32, 35, 32, 32, 36, 32, 34, 32, 34], [30, 30, 32, 32, 37, 32, 32, 38, 32, 34, 32, 34], 
  [30, 30, 32, 32, 39, 32, 32, 40, 32, 34, 32, 34], [41, 43, 44, 42, 43, 44, 45, 43, 46], [41, 43, 44, 47, 43, 44, 48, 43, 46], [41, 43, 44, 49, 43, 44, 50, 43, 46], 
  [41, 43, 44, 51, 43, 44, 52, 43, 46], [41, 43, 44, 53, 43, 44, 54, 43, 46], [41, 55, 43, 57, 56, 43, 57, 58, 43, 46, 57, 59], [41, 55, 43, 57, 60, 43, 57, 61, 43, 46, 57, 59], 
  [41, 43, 44, 62, 43, 44, 63, 43, 46], [41, 43, 44, 64, 43, 44, 65, 43, 46], [41, 43, 44, 66, 43, 44, 67, 43, 46], [41, 43, 44, 68, 43, 44, 69, 43, 46], 
  [41, 55, 43, 57, 71, 70, 43, 57, 71, 72, 59, 43, 46, 57, 59, 71, 73, 74, 75, 76, 59, 75, 77, 43, 57, 71, 72, 59, 77], [41, 43, 44, 78, 43, 44, 79, 43, 46], 
  [41, 55, 43, 57, 80, 43, 57, 81, 43, 46, 57, 59], [41, 43, 44, 82, 43, 44, 83, 43, 46], [41, 43, 44, 84, 43, 44, 85, 43, 46], [41, 43, 44, 86, 43, 44, 87, 73, 43, 46, 74, 73, 76, 88, 43, 44, 87, 73, 88], 
  [41, 43, 44, 89, 43, 44, 90, 43, 46], [41, 43, 44, 91, 43, 44, 92, 43, 46], [41, 43, 44, 93, 43, 44, 94, 43, 46], [41, 43, 44, 95, 43, 44, 96, 43, 46], 
  [41, 43, 44, 97, 43, 44, 98, 43, 46], [41, 43, 44, 99, 43, 44, 100, 43, 46], [101], [102, 103], [71], [104, 106, 105], [73], [102, 108, 109, 107, 103], 
  [33, 105], [35, 108, 109, 107], [36, 105], [110, 111, 112, 111, 113], [114, 115, 106, 115, 116], [30], [117, 118, 120, 119, 109], [32], [], [121, 122, 123, 124, 125], 
  [34], [42, 126, 109, 127, 128], [45, 129, 130, 131, 132, 133], [42, 126], [45, 129], [134, 127, 109, 126, 135, 107], [136, 129, 137], [138, 109], [139], 
  [], [138, 118, 117], [140], [121, 142, 141], [144], [56, 145], [58, 146], [42, 147], [45, 148], [42, 149, 135, 147, 109, 150], [45, 124, 125, 151, 151], 
  [42, 128], [45, 131], [42, 120, 128], [45, 123, 131], [56, 118, 145, 109], [], [152, 129, 153], [], [154], [], [], [], [138, 155, 147, 109, 150], [139, 151, 151], 
  [56, 156, 156, 107], [58, 158, 159, 157], [138, 160], [139, 148, 161], [138, 155, 155, 147, 150], [139, 148, 161, 151], [42, 126, 109, 162], [45, 130], 
  [], [86], [87], [134, 162, 127], [136], [134, 127], [136], [134, 127], [136, 133], [138, 126, 138, 162], [139, 130, 132], [134, 155, 127, 163], [136, 164], 
  [], [165, 166, 110, 109, 109], [112, 108, 109, 107], [167, 167, 168, 169, 123, 124, 124], [170], [159, 159, 159], [163], [171, 109], [156, 156, 172], [173, 173, 118, 118, 156, 156], 
  [174, 156, 171, 156, 156, 113], [156, 156, 156], [175], [167, 167, 168, 123, 159, 159], [176, 177, 159, 116], [178], [173, 165], [], [118, 179], [118], 
  [167, 169], [123, 169, 123, 123, 180], [], [181, 182, 159, 158], [], [171], [162], [147, 183], [184], [124, 148, 129, 185, 186], [148, 187], [], [188], 
  [138], [189, 189, 189, 189, 189, 109, 109], [139, 148, 186, 133], [190, 157], [42, 126, 118, 109], [45, 129, 123, 124, 185], [44], [191], [143], [123, 139], 
  [192], [126], [129], [193], [194], [108, 108, 108], [], [190, 164], [58, 123], [124, 185], [76], [195, 135, 149, 109], [], [196], [159, 159], [184], [155, 147, 150], 
  [164, 164], [160], [], [197, 198], [118], [118], [132, 123, 123], [123, 123, 123], [123], [199, 157], [], [], [118, 118], [173, 118], [175], [200, 159], 
  [], [], [201, 118, 109], [123], [], [], [202], [132], [125, 125, 203], [161], [188], [], [171, 204], [167, 122, 124, 203], [], [], [135, 149, 107], [190, 157], 
  [], [164], [], [205], [167, 169, 123, 123, 180, 124], [167, 123], [173, 165, 118], [], [], [156, 156, 172], [206], [], [], [], [], [], [], [], [], [], 
  [], [], [], [], [], [], [], [], []]
def gUnf : List Bool := [false, false, false, false, false, false, false, false, false, false, false, false, false, false, false, false, false, false, false, false, false, false, 
  false, false, false, false, false, false, false, false, false, false, false, false, false, false, false, false, false, false, false, false, false, false, 
  false, false, false, false, false, false, false, false, false, false, false, false, false, false, false, false, false, false, false, false, false, false, 
  false, false, false, false, false, false, false, false, false, false, false, false, false, false, false, false, false, false, false, false, false, false, 
  false, false, false, false, false, false, false, false, false, false, false, false, false, false, false, false, false, false, false, false, false, false, 
  false, false, false, false, false, false, false, false, false, false, false, false, false, false, false, false, false, false, false, false, false, false, 
  false, false, false, false, false, false, false, false, false, false, false, false, false, false, false, false, false, false, false, false, false, false, 
  false, false, false, false, false, false, false, false, false, false, false, false, false, false, false, false, false, false, false, false, false, false, 
  false, false, false, false, false, false, false, false, false, false, false, false, false, false, false, true, false, false, false, false, false, false, 
  false, false, false, false, false, false, false, false, false, false, false, false, false, false, false, false, false, false, false, false, false, false, 
  false, false, false, false]
def gGlo : List (List Nat) := [[], [], [], [], [], [], [], [], [], [], [], [], [], [], [], [], [], [], [], [], [], [], [], [], [], [], [], [], [], [], [], [], [], [], [], [], [], [], 
  [], [], [], [], [], [], [], [], [], [], [], [], [], [], [], [], [], [], [], [], [], [], [], [], [], [], [], [], [], [], [], [], [], [], [], [], [], [], 
  [], [], [], [], [], [], [], [], [], [], [], [], [], [], [], [], [], [], [], [], [], [], [], [], [], [], [], [], [], [], [], [], [], [], [], [], [], [], 
  [], [], [], [], [], [], [], [], [], [], [], [], [], [], [], [], [], [], [], [], [], [], [], [], [], [], [], [], [], [], [], [], [], [], [], [], [], [], 
  [], [], [], [], [], [], [], [], [], [], [], [], [], [], [], [], [], [], [], [], [], [], [], [], [], [], [], [], [], [], [], [], [], [], [], [], [], [], 
  [], [], [], [], [], [], [], [], [0, 1], [], [], [], [], [], [], [], [], [], [], [], [], [], [], [], [], [], [], [], [], [], [], [], [], []]
noncomputable def gInp : List (Option String) := [some Try.f0.name, some Try.f1.name, none, none, none, none, none, none, none, none, none, none, none, none, none, none, none, none, none, none, none, none, 
  none, none, none, none, none, none, none, none, none, none, none, none, none, none, none, none, none, none, none, none, none, none, none, none, none, none, 
  none, none, none, none, none, none, none, none, none, none, none, none, none, none, none, none, none, none, none, none, none, none, none, none, none, none, 
  none, none, none, none, none, none, none, none, none, none, none, none, none, none, none, none, none, none, none, none, none, none, none, none, none, none, 
  none, none, none, none, none, none, none, none, none, none, none, none, none, none, none, none, none, none, none, none, none, none, none, none, none, none, 
  none, none, none, none, none, none, none, none, none, none, none, none, none, none, none, none, none, none, none, none, none, none, none, none, none, none, 
  none, none, none, none, none, none, none, none, none, none, none, none, none, none, none, none, none, none, none, none, none, none, none, none, none, none, 
  none, none, none, none, none, none, none, none, none, none, none, none, none, none, none, none, none, none, none, none, none, none, none, none, none, none, 
  none, none, none, some Try.f207.name, some Try.f208.name, some Try.f209.name, some Try.f210.name, some Try.f211.name, some Try.f212.name, some Try.f213.name, 
  some Try.f214.name, some Try.f215.name, some Try.f216.name, some Try.f217.name, some Try.f218.name, some Try.f219.name, some Try.f220.name, some Try.f221.name, 
  some Try.f222.name, some Try.f223.name]
def gRds : List (Option String) := [none, none, none, none, none, none, none, none, none, none, none, none, none, none, none, none, none, none, none, none, none, none, none, none, none, none, 
  none, none, none, none, none, none, none, none, none, none, none, none, none, none, none, none, none, none, none, none, none, none, none, none, none, none, 
  none, none, none, none, none, none, none, none, none, none, none, none, none, none, none, none, none, none, none, none, none, none, none, none, none, none, 
  none, none, none, none, none, none, none, none, none, none, none, none, none, none, none, none, none, none, none, none, none, none, none, none, none, none, 
  none, none, none, none, none, none, none, none, none, none, none, none, none, none, none, none, none, none, none, none, none, none, none, none, none, none, 
  none, none, none, none, none, none, none, none, none, none, none, none, none, none, none, none, none, none, none, none, none, none, none, none, none, none, 
  none, none, none, none, none, none, none, none, none, none, none, none, none, none, none, none, none, none, none, none, none, none, none, none, none, none, 
  none, none, none, none, none, none, none, none, none, none, none, none, none, none, none, none, none, none, none, none, none, none, none, none, none, none, 
  none, none, none, none, none, none, none, none, none, none, none, none, none, none, none, none]
theorem gLeads_eq : Try.prog.funcs.toList.map Try.prog.leadsTo = gLeads := by kernel_rfl
theorem gUnf_eq : Try.prog.funcs.toList.map (fun fn => match fn.body with | some c => c.unfollowed | none => entryCalls fn) = gUnf := by kernel_rfl
theorem gGlo_eq : Try.prog.funcs.toList.map (fun fn => (fn.body).elim [] Code.globalsNamed) = gGlo := by kernel_rfl
theorem gInp_eq : Try.prog.funcs.toList.map (fun fn => if fn.ours || fn.body.isNone || fn.name == "runtime.NumGoroutine" then some fn.name else none) = gInp := by kernel_rfl
theorem gRds_eq : Try.prog.funcs.toList.map (fun fn => if fn.body.isNone then entryReads.lookup fn.name else none) = gRds := by kernel_rfl

theorem at_list {a b : Type} (xs : Array a) (h : a → b) (d : b) (g : Nat) : (xs[g]?).elim d h = (xs.toList.map h).getD g d := by
  rw [← Array.getElem?_toList, List.getD_eq_getElem?_getD, List.getElem?_map]
  cases xs.toList[g]? <;> rfl

def closT (L : List (List Nat)) : Nat → List Nat → List Nat → List Nat
  | 0, _, seen => seen.reverse
  | _, [], seen => seen.reverse
  | n + 1, f :: todo, seen => if seen.contains f then closT L n todo seen else closT L n (L.getD f [] ++ todo) (f :: seen)
def fuelT (L : List (List Nat)) : Nat := 1 + (L.map fun l => l.length + 1).sum
section
variable {P : Program} {L : List (List Nat)}
theorem via_eq (hL : P.funcs.toList.map P.leadsTo = L) (n : Nat) : ∀ todo seen, P.closureVia n todo seen = closT L n todo seen := by
  induction n with
  | zero => intro todo seen; simp [Program.closureVia, closT]
  | succ n ih =>
    intro todo seen
    cases todo with
    | nil => simp [Program.closureVia, closT]
    | cons f todo => simp only [Program.closureVia, closT, ih, at_list, hL]
theorem closure_eq0 (hL : P.funcs.toList.map P.leadsTo = L) (f : Nat) : P.closure f = closT L (fuelT L) [f] [] := by
  have e : (1 + (P.funcs.toList.map fun fn => (P.leadsTo fn).length + 1).sum) = fuelT L := by
    unfold fuelT; rw [← hL, List.map_map]; rfl
  unfold Program.closure
  rw [via_eq hL, ← e]
theorem inPlace_eq0 (hL : P.funcs.toList.map P.leadsTo = L) {I : List (Option String)} (hI : P.funcs.toList.map (fun fn => if fn.ours || fn.body.isNone || fn.name == "runtime.NumGoroutine" then some fn.name else none) = I) (f : Nat) : P.inPlace f = (closT L (fuelT L) [f] []).filterMap fun g => I.getD g none := by
  unfold Program.inPlace
  rw [closure_eq0 hL]
  congr 1; funext g
  rw [← hI, ← at_list]
  cases P.funcs[g]? <;> rfl
theorem unfollowed_eq0 (hL : P.funcs.toList.map P.leadsTo = L) {U : List Bool} (hU : P.funcs.toList.map (fun fn => match fn.body with | some c => c.unfollowed | none => entryCalls fn) = U) (f : Nat) : P.unfollowed f = (closT L (fuelT L) [f] []).any fun g => U.getD g false := by
  unfold Program.unfollowed
  rw [closure_eq0 hL]
  congr 1; funext g
  rw [← hU, ← at_list]
  cases P.funcs[g]? <;> rfl
theorem recurses_eq0 (hL : P.funcs.toList.map P.leadsTo = L) {U : List Bool} (hU : P.funcs.toList.map (fun fn => match fn.body with | some c => c.unfollowed | none => entryCalls fn) = U) (f : Nat) : P.recurses f = ((closT L (fuelT L) [f] []).any (fun g => U.getD g false) || (closT L (fuelT L) [f] []).any fun g => (L.getD g []).any fun h => (closT L (fuelT L) [h] []).contains g) := by
  unfold Program.recurses
  rw [unfollowed_eq0 hL hU, closure_eq0 hL]
  congr 2; funext g
  rw [at_list, hL]
  congr 1; funext h
  rw [closure_eq0 hL]
theorem varsNamed_eq0 (hL : P.funcs.toList.map P.leadsTo = L) {G : List (List Nat)} {R : List (Option String)} (hG : P.funcs.toList.map (fun fn => (fn.body).elim [] Code.globalsNamed) = G) (hR : P.funcs.toList.map (fun fn => if fn.body.isNone then entryReads.lookup fn.name else none) = R) (f : Nat) :
    P.varsNamed f = ((((closT L (fuelT L) [f] []).flatMap fun g => G.getD g []).eraseDups).filterMap (fun g => (P.globals[g]?).map (·.name)) ++ (closT L (fuelT L) [f] []).filterMap fun g => R.getD g none).eraseDups := by
  unfold Program.varsNamed
  rw [closure_eq0 hL]
  congr 2
  · congr 2; congr 1; funext g
    rw [← hG, ← at_list]
    cases P.funcs[g]? <;> rfl
  · congr 1; funext g
    rw [← hR, ← at_list]
    cases P.funcs[g]? <;> rfl
end
theorem inPlace_eq (f : Nat) : Try.prog.inPlace f = (closT gLeads (fuelT gLeads) [f] []).filterMap fun g => gInp.getD g none := inPlace_eq0 gLeads_eq gInp_eq f
theorem unfollowed_eq (f : Nat) : Try.prog.unfollowed f = (closT gLeads (fuelT gLeads) [f] []).any fun g => gUnf.getD g false := unfollowed_eq0 gLeads_eq gUnf_eq f
theorem recurses_eq (f : Nat) : Try.prog.recurses f = ((closT gLeads (fuelT gLeads) [f] []).any (fun g => gUnf.getD g false) || (closT gLeads (fuelT gLeads) [f] []).any fun g => (gLeads.getD g []).any fun h => (closT gLeads (fuelT gLeads) [h] []).contains g) := recurses_eq0 gLeads_eq gUnf_eq f
theorem varsNamed_eq (f : Nat) : Try.prog.varsNamed f = ((((closT gLeads (fuelT gLeads) [f] []).flatMap fun g => gGlo.getD g []).eraseDups).filterMap (fun g => (Try.prog.globals[g]?).map (·.name)) ++ (closT gLeads (fuelT gLeads) [f] []).filterMap fun g => gRds.getD g none).eraseDups := varsNamed_eq0 gLeads_eq gGlo_eq gRds_eq f
/-- The same walk with the set of what is seen held in one number: cheap to reckon in the kernel. -/
def closB (L : List (List Nat)) : Nat → List Nat → Nat → List Nat → List Nat
  | 0, _, _, seen => seen.reverse
  | _, [], _, seen => seen.reverse
  | n + 1, f :: todo, m, seen => cond (m.testBit f) (closB L n todo m seen) (closB L n (L.getD f [] ++ todo) (m ||| 1 <<< f) (f :: seen))
theorem closB_eq (L : List (List Nat)) (n : Nat) : ∀ todo m seen, (∀ x, m.testBit x = seen.contains x) → closT L n todo seen = closB L n todo m seen := by
  induction n with
  | zero => intro todo m seen _; simp [closT, closB]
  | succ n ih =>
    intro todo m seen h
    cases todo with
    | nil => simp [closT, closB]
    | cons f todo =>
      simp only [closT, closB]
      rw [h f]
      cases hc : seen.contains f with
      | true => simp only [if_true, cond_true]; exact ih _ _ _ h
      | false =>
        simp only [cond_false]
        rw [if_neg (by simp)]
        refine ih _ _ _ fun x => ?_
        rw [Nat.testBit_or, h x, Nat.shiftLeft_eq, Nat.one_mul, Nat.testBit_two_pow, List.contains_cons, Bool.or_comm]
        congr 1
        by_cases e : f = x
        · subst e; simp
        · simp [e, Ne.symm e]
theorem clos_mk {L : List (List Nat)} {f : Nat} {r : List Nat} (h : closB L (fuelT L) [f] 0 [] = r) : closT L (fuelT L) [f] [] = r := by
  rw [closB_eq L _ _ 0 _ (fun x => by simp), h]
theorem strip_cut (ls : List String) (h : ls.all (fun o => "cut".toList != o.toList) = true) (r : List (List Char)) : stripLifts ls ("cut".toList :: r) = ([], "cut".toList :: r) := by
  induction ls with
  | nil => rfl
  | cons o os ih =>
    rw [List.all_cons, Bool.and_eq_true] at h
    unfold stripLifts
    rw [if_neg (by simpa using h.1)]
    exact ih h.2
theorem make_cut {P : Program} {r : List (List Char)} (h : behindMainWord (wordsSigns P.initOrder.toList) = "cut".toList :: r) : P.make = some .cut := by
  unfold Program.make
  generalize P.headLifts = H
  rw [h]
  rfl
theorem lifts_cut {P : Program} {r : List (List Char)} (h : behindMainWord (wordsSigns P.initOrder.toList) = "cut".toList :: r) : P.liftsFinal = false := by
  unfold Program.liftsFinal Program.headLifts
  rw [h, strip_cut _ (by kernel_rfl)]
  rfl
theorem may_cut {P : Program} {r : List (List Char)} (h : behindMainWord (wordsSigns P.initOrder.toList) = "cut".toList :: r) (h1 : P.laysLater = false) (h2 : P.bearsReflect = false) (h3 : P.doorFits [] = true) : P.mayEnter = true := by
  unfold Program.mayEnter
  rw [h]
  dsimp only
  rw [strip_cut _ (by kernel_rfl), h1, h2, h3]
  rfl
theorem lays : Try.prog.laysLater = false := by kernel_rfl
theorem bears : Try.prog.bearsReflect = false := by kernel_rfl
theorem door : Try.prog.doorFits [] = true := by kernel_rfl
set_option maxRecDepth 100000 in
theorem order_ : Try.prog.initOrder.toList = ([104, 97, 114, 110, 101, 115, 115, 32, 102, 97, 56, 55, 100, 100, 50, 99, 99, 102, 50, 102, 57, 101, 101, 49, 100, 102, 97, 102, 102, 57, 52, 99, 97, 52, 54, 52, 53, 98, 55, 56, 54, 53, 100, 53, 101, 48, 50, 48, 97, 99, 102, 55, 53, 100, 56, 53, 98, 52, 100, 51, 97, 56, 98, 56, 97, 49, 102, 53, 50, 50, 100, 49, 32, 99, 117, 116, 32, 97, 116, 32, 108, 111, 111, 112, 46, 101, 120, 97, 109, 112, 108, 101, 47, 103, 48, 49, 48, 50, 53, 47, 108, 97, 119, 115, 46, 70, 110, 69, 120, 97, 99, 116, 74, 111, 105, 110, 116, 65, 110, 110, 117, 105, 116, 121, 32, 108, 111, 111, 112, 46, 101, 120, 97, 109, 112, 108, 101, 47, 103, 48, 49, 48, 50, 53, 47, 108, 97, 119, 115, 46, 70, 110, 69, 120, 97, 99, 116, 87, 105, 100, 111, 119, 65, 110, 110, 117, 105, 116, 121, 32, 108, 111, 111, 112, 46, 101, 120, 97, 109, 112, 108, 101, 47, 103, 48, 49, 48, 50, 53, 47, 108, 97, 119, 115, 46, 70, 110, 69, 120, 97, 99, 116, 76, 97, 115, 116, 65, 110, 110, 117, 105, 116, 121, 32, 108, 111, 111, 112, 46, 101, 120, 97, 109, 112, 108, 101, 47, 103, 48, 49, 48, 50, 53, 47, 108, 97, 119, 115, 46, 70, 110, 69, 120, 97, 99, 116, 87, 105, 100, 111, 119, 89, 101, 97, 114, 115, 32, 108, 111, 111, 112, 46, 101, 120, 97, 109, 112, 108, 101, 47, 103, 48, 49, 48, 50, 53, 47, 108, 97, 119, 115, 46, 70, 110, 69, 120, 97, 99, 116, 73, 115, 80, 111, 108, 105, 99, 121, 32, 108, 111, 111, 112, 46, 101, 120, 97, 109, 112, 108, 101, 47, 103, 48, 49, 48, 50, 53, 47, 108, 97, 119, 115, 46, 70, 110, 69, 120, 97, 99, 116, 66, 101, 115, 116, 76, 101, 97, 118, 105, 110, 103, 32, 108, 111, 111, 112, 46, 101, 120, 97, 109, 112, 108, 101, 47, 103, 48, 49, 48, 50, 53, 47, 108, 97, 119, 115, 46, 70, 110, 69, 120, 97, 99, 116, 68, 117, 114, 97, 116, 105, 111, 110, 79, 102, 32, 108, 111, 111, 112, 46, 101, 120, 97, 109, 112, 108, 101, 47, 103, 48, 49, 48, 50, 53, 47, 108, 97, 119, 115, 46, 70, 110, 69, 120, 97, 99, 116, 75, 101, 112, 116, 89, 101, 97, 114, 115, 32, 108, 111, 111, 112, 46, 101, 120, 97, 109, 112, 108, 101, 47, 103, 48, 49, 48, 50, 53, 47, 108, 97, 119, 115, 46, 70, 110, 69, 120, 97, 99, 116, 68, 101, 110, 111, 109, 105, 110, 97, 116, 111, 114, 65, 116, 32, 108, 111, 111, 112, 46, 101, 120, 97, 109, 112, 108, 101, 47, 103, 48, 49, 48, 50, 53, 47, 108, 97, 119, 115, 46, 70, 110, 69, 120, 97, 99, 116, 73, 115, 80, 111, 114, 116, 102, 111, 108, 105, 111, 32, 108, 111, 111, 112, 46, 101, 120, 97, 109, 112, 108, 101, 47, 103, 48, 49, 48, 50, 53, 47, 108, 97, 119, 115, 46, 70, 110, 69, 120, 97, 99, 116, 77, 97, 116, 117, 114, 105, 110, 103, 83, 117, 109, 115, 32, 108, 111, 111, 112, 46, 101, 120, 97, 109, 112, 108, 101, 47, 103, 48, 49, 48, 50, 53, 47, 108, 97, 119, 115, 46, 70, 110, 69, 120, 97, 99, 116, 78, 101, 116, 80, 114, 101, 109, 105, 117, 109, 32, 108, 111, 111, 112, 46, 101, 120, 97, 109, 112, 108, 101, 47, 103, 48, 49, 48, 50, 53, 47, 108, 97, 119, 115, 46, 70, 110, 69, 120, 97, 99, 116, 80, 114, 101, 109, 105, 117, 109, 71, 97, 105, 110, 32, 108, 111, 111, 112, 46, 101, 120, 97, 109, 112, 108, 101, 47, 103, 48, 49, 48, 50, 53, 47, 108, 97, 119, 115, 46, 70, 110, 69, 120, 97, 99, 116, 79, 102, 102, 105, 99, 101, 80, 114, 101, 109, 105, 117, 109, 32, 108, 111, 111, 112, 46, 101, 120, 97, 109, 112, 108, 101, 47, 103, 48, 49, 48, 50, 53, 47, 108, 97, 119, 115, 46, 70, 110, 69, 120, 97, 99, 116, 83, 117, 109, 70, 111, 114, 80, 114, 101, 109, 105, 117, 109, 32, 108, 111, 111, 112, 46, 101, 120, 97, 109, 112, 108, 101, 47, 103, 48, 49, 48, 50, 53, 47, 108, 97, 119, 115, 46, 70, 110, 69, 120, 97, 99, 116, 65, 103, 101, 80, 111, 114, 116, 102, 111, 108, 105, 111, 32, 108, 111, 111, 112, 46, 101, 120, 97, 109, 112, 108, 101, 47, 103, 48, 49, 48, 50, 53, 47, 108, 97, 119, 115, 46, 70, 110, 69, 120, 97, 99, 116, 71, 97, 105, 110, 65, 116, 32, 108, 111, 111, 112, 46, 101, 120, 97, 109, 112, 108, 101, 47, 103, 48, 49, 48, 50, 53, 47, 108, 97, 119, 115, 46, 70, 110, 69, 120, 97, 99, 116, 69, 120, 112, 101, 99, 116, 101, 100, 67, 108, 97, 105, 109, 115, 32, 108, 111, 111, 112, 46, 101, 120, 97, 109, 112, 108, 101, 47, 103, 48, 49, 48, 50, 53, 47, 108, 97, 119, 115, 46, 70, 110, 69, 120, 97, 99, 116, 70, 111, 114, 119, 97, 114, 100, 82, 101, 115, 101, 114, 118, 101, 32, 108, 111, 111, 112, 46, 101, 120, 97, 109, 112, 108, 101, 47, 103, 48, 49, 48, 50, 53, 47, 108, 97, 119, 115, 46, 70, 110, 69, 120, 97, 99, 116, 66, 97, 99, 107, 119, 97, 114, 100, 82, 101, 115, 101, 114, 118, 101, 32, 108, 111, 111, 112, 46, 101, 120, 97, 109, 112, 108, 101, 47, 103, 48, 49, 48, 50, 53, 47, 108, 97, 119, 115, 46, 70, 110, 69, 120, 97, 99, 116, 82, 101, 115, 101, 114, 118, 101, 76, 105, 115, 116, 32, 108, 111, 111, 112, 46, 101, 120, 97, 109, 112, 108, 101, 47, 103, 48, 49, 48, 50, 53, 47, 108, 97, 119, 115, 46, 70, 110, 69, 120, 97, 99, 116, 71, 114, 101, 97, 116, 101, 115, 116, 82, 101, 115, 101, 114, 118, 101, 32, 108, 111, 111, 112, 46, 101, 120, 97, 109, 112, 108, 101, 47, 103, 48, 49, 48, 50, 53, 47, 108, 97, 119, 115, 46, 70, 110, 69, 120, 97, 99, 116, 76, 101, 97, 118, 105, 110, 103, 76, 111, 115, 115, 32, 108, 111, 111, 112, 46, 101, 120, 97, 109, 112, 108, 101, 47, 103, 48, 49, 48, 50, 53, 47, 108, 97, 119, 115, 46, 70, 110, 69, 120, 97, 99, 116, 83, 117, 114, 114, 101, 110, 100, 101, 114, 86, 97, 108, 117, 101, 32, 108, 111, 111, 112, 46, 101, 120, 97, 109, 112, 108, 101, 47, 103, 48, 49, 48, 50, 53, 47, 108, 97, 119, 115, 46, 70, 110, 69, 120, 97, 99, 116, 76, 111, 97, 110, 76, 105, 109, 105, 116, 32, 108, 111, 111, 112, 46, 101, 120, 97, 109, 112, 108, 101, 47, 103, 48, 49, 48, 50, 53, 47, 108, 97, 119, 115, 46, 70, 110, 69, 120, 97, 99, 116, 82, 105, 115, 107, 65, 116, 32, 108, 111, 111, 112, 46, 101, 120, 97, 109, 112, 108, 101, 47, 103, 48, 49, 48, 50, 53, 47, 108, 97, 119, 115, 46, 70, 110, 69, 120, 97, 99, 116, 80, 97, 105, 100, 85, 112, 83, 117, 109].map Char.ofNat) := by
  have e : Try.prog.initOrder = String.ofList ([104, 97, 114, 110, 101, 115, 115, 32, 102, 97, 56, 55, 100, 100, 50, 99, 99, 102, 50, 102, 57, 101, 101, 49, 100, 102, 97, 102, 102, 57, 52, 99, 97, 52, 54, 52, 53, 98, 55, 56, 54, 53, 100, 53, 101, 48, 50, 48, 97, 99, 102, 55, 53, 100, 56, 53, 98, 52, 100, 51, 97, 56, 98, 56, 97, 49, 102, 53, 50, 50, 100, 49, 32, 99, 117, 116, 32, 97, 116, 32, 108, 111, 111, 112, 46, 101, 120, 97, 109, 112, 108, 101, 47, 103, 48, 49, 48, 50, 53, 47, 108, 97, 119, 115, 46, 70, 110, 69, 120, 97, 99, 116, 74, 111, 105, 110, 116, 65, 110, 110, 117, 105, 116, 121, 32, 108, 111, 111, 112, 46, 101, 120, 97, 109, 112, 108, 101, 47, 103, 48, 49, 48, 50, 53, 47, 108, 97, 119, 115, 46, 70, 110, 69, 120, 97, 99, 116, 87, 105, 100, 111, 119, 65, 110, 110, 117, 105, 116, 121, 32, 108, 111, 111, 112, 46, 101, 120, 97, 109, 112, 108, 101, 47, 103, 48, 49, 48, 50, 53, 47, 108, 97, 119, 115, 46, 70, 110, 69, 120, 97, 99, 116, 76, 97, 115, 116, 65, 110, 110, 117, 105, 116, 121, 32, 108, 111, 111, 112, 46, 101, 120, 97, 109, 112, 108, 101, 47, 103, 48, 49, 48, 50, 53, 47, 108, 97, 119, 115, 46, 70, 110, 69, 120, 97, 99, 116, 87, 105, 100, 111, 119, 89, 101, 97, 114, 115, 32, 108, 111, 111, 112, 46, 101, 120, 97, 109, 112, 108, 101, 47, 103, 48, 49, 48, 50, 53, 47, 108, 97, 119, 115, 46, 70, 110, 69, 120, 97, 99, 116, 73, 115, 80, 111, 108, 105, 99, 121, 32, 108, 111, 111, 112, 46, 101, 120, 97, 109, 112, 108, 101, 47, 103, 48, 49, 48, 50, 53, 47, 108, 97, 119, 115, 46, 70, 110, 69, 120, 97, 99, 116, 66, 101, 115, 116, 76, 101, 97, 118, 105, 110, 103, 32, 108, 111, 111, 112, 46, 101, 120, 97, 109, 112, 108, 101, 47, 103, 48, 49, 48, 50, 53, 47, 108, 97, 119, 115, 46, 70, 110, 69, 120, 97, 99, 116, 68, 117, 114, 97, 116, 105, 111, 110, 79, 102, 32, 108, 111, 111, 112, 46, 101, 120, 97, 109, 112, 108, 101, 47, 103, 48, 49, 48, 50, 53, 47, 108, 97, 119, 115, 46, 70, 110, 69, 120, 97, 99, 116, 75, 101, 112, 116, 89, 101, 97, 114, 115, 32, 108, 111, 111, 112, 46, 101, 120, 97, 109, 112, 108, 101, 47, 103, 48, 49, 48, 50, 53, 47, 108, 97, 119, 115, 46, 70, 110, 69, 120, 97, 99, 116, 68, 101, 110, 111, 109, 105, 110, 97, 116, 111, 114, 65, 116, 32, 108, 111, 111, 112, 46, 101, 120, 97, 109, 112, 108, 101, 47, 103, 48, 49, 48, 50, 53, 47, 108, 97, 119, 115, 46, 70, 110, 69, 120, 97, 99, 116, 73, 115, 80, 111, 114, 116, 102, 111, 108, 105, 111, 32, 108, 111, 111, 112, 46, 101, 120, 97, 109, 112, 108, 101, 47, 103, 48, 49, 48, 50, 53, 47, 108, 97, 119, 115, 46, 70, 110, 69, 120, 97, 99, 116, 77, 97, 116, 117, 114, 105, 110, 103, 83, 117, 109, 115, 32, 108, 111, 111, 112, 46, 101, 120, 97, 109, 112, 108, 101, 47, 103, 48, 49, 48, 50, 53, 47, 108, 97, 119, 115, 46, 70, 110, 69, 120, 97, 99, 116, 78, 101, 116, 80, 114, 101, 109, 105, 117, 109, 32, 108, 111, 111, 112, 46, 101, 120, 97, 109, 112, 108, 101, 47, 103, 48, 49, 48, 50, 53, 47, 108, 97, 119, 115, 46, 70, 110, 69, 120, 97, 99, 116, 80, 114, 101, 109, 105, 117, 109, 71, 97, 105, 110, 32, 108, 111, 111, 112, 46, 101, 120, 97, 109, 112, 108, 101, 47, 103, 48, 49, 48, 50, 53, 47, 108, 97, 119, 115, 46, 70, 110, 69, 120, 97, 99, 116, 79, 102, 102, 105, 99, 101, 80, 114, 101, 109, 105, 117, 109, 32, 108, 111, 111, 112, 46, 101, 120, 97, 109, 112, 108, 101, 47, 103, 48, 49, 48, 50, 53, 47, 108, 97, 119, 115, 46, 70, 110, 69, 120, 97, 99, 116, 83, 117, 109, 70, 111, 114, 80, 114, 101, 109, 105, 117, 109, 32, 108, 111, 111, 112, 46, 101, 120, 97, 109, 112, 108, 101, 47, 103, 48, 49, 48, 50, 53, 47, 108, 97, 119, 115, 46, 70, 110, 69, 120, 97, 99, 116, 65, 103, 101, 80, 111, 114, 116, 102, 111, 108, 105, 111, 32, 108, 111, 111, 112, 46, 101, 120, 97, 109, 112, 108, 101, 47, 103, 48, 49, 48, 50, 53, 47, 108, 97, 119, 115, 46, 70, 110, 69, 120, 97, 99, 116, 71, 97, 105, 110, 65, 116, 32, 108, 111, 111, 112, 46, 101, 120, 97, 109, 112, 108, 101, 47, 103, 48, 49, 48, 50, 53, 47, 108, 97, 119, 115, 46, 70, 110, 69, 120, 97, 99, 116, 69, 120, 112, 101, 99, 116, 101, 100, 67, 108, 97, 105, 109, 115, 32, 108, 111, 111, 112, 46, 101, 120, 97, 109, 112, 108, 101, 47, 103, 48, 49, 48, 50, 53, 47, 108, 97, 119, 115, 46, 70, 110, 69, 120, 97, 99, 116, 70, 111, 114, 119, 97, 114, 100, 82, 101, 115, 101, 114, 118, 101, 32, 108, 111, 111, 112, 46, 101, 120, 97, 109, 112, 108, 101, 47, 103, 48, 49, 48, 50, 53, 47, 108, 97, 119, 115, 46, 70, 110, 69, 120, 97, 99, 116, 66, 97, 99, 107, 119, 97, 114, 100, 82, 101, 115, 101, 114, 118, 101, 32, 108, 111, 111, 112, 46, 101, 120, 97, 109, 112, 108, 101, 47, 103, 48, 49, 48, 50, 53, 47, 108, 97, 119, 115, 46, 70, 110, 69, 120, 97, 99, 116, 82, 101, 115, 101, 114, 118, 101, 76, 105, 115, 116, 32, 108, 111, 111, 112, 46, 101, 120, 97, 109, 112, 108, 101, 47, 103, 48, 49, 48, 50, 53, 47, 108, 97, 119, 115, 46, 70, 110, 69, 120, 97, 99, 116, 71, 114, 101, 97, 116, 101, 115, 116, 82, 101, 115, 101, 114, 118, 101, 32, 108, 111, 111, 112, 46, 101, 120, 97, 109, 112, 108, 101, 47, 103, 48, 49, 48, 50, 53, 47, 108, 97, 119, 115, 46, 70, 110, 69, 120, 97, 99, 116, 76, 101, 97, 118, 105, 110, 103, 76, 111, 115, 115, 32, 108, 111, 111, 112, 46, 101, 120, 97, 109, 112, 108, 101, 47, 103, 48, 49, 48, 50, 53, 47, 108, 97, 119, 115, 46, 70, 110, 69, 120, 97, 99, 116, 83, 117, 114, 114, 101, 110, 100, 101, 114, 86, 97, 108, 117, 101, 32, 108, 111, 111, 112, 46, 101, 120, 97, 109, 112, 108, 101, 47, 103, 48, 49, 48, 50, 53, 47, 108, 97, 119, 115, 46, 70, 110, 69, 120, 97, 99, 116, 76, 111, 97, 110, 76, 105, 109, 105, 116, 32, 108, 111, 111, 112, 46, 101, 120, 97, 109, 112, 108, 101, 47, 103, 48, 49, 48, 50, 53, 47, 108, 97, 119, 115, 46, 70, 110, 69, 120, 97, 99, 116, 82, 105, 115, 107, 65, 116, 32, 108, 111, 111, 112, 46, 101, 120, 97, 109, 112, 108, 101, 47, 103, 48, 49, 48, 50, 53, 47, 108, 97, 119, 115, 46, 70, 110, 69, 120, 97, 99, 116, 80, 97, 105, 100, 85, 112, 83, 117, 109].map Char.ofNat) := by kernel_rfl
  rw [e]; exact String.toList_ofList
set_option maxRecDepth 100000 in
theorem words : behindMainWord (wordsSigns Try.prog.initOrder.toList) = "cut".toList :: [([97, 116].map Char.ofNat), ([108, 111, 111, 112, 46, 101, 120, 97, 109, 112, 108, 101, 47, 103, 48, 49, 48, 50, 53, 47, 108, 97, 119, 115, 46, 70, 110, 69, 120, 97, 99, 116, 74, 111, 105, 110, 116, 65, 110, 110, 117, 105, 116, 121].map Char.ofNat), ([108, 111, 111, 112, 46, 101, 120, 97, 109, 112, 108, 101, 47, 103, 48, 49, 48, 50, 53, 47, 108, 97, 119, 115, 46, 70, 110, 69, 120, 97, 99, 116, 87, 105, 100, 111, 119, 65, 110, 110, 117, 105, 116, 121].map Char.ofNat), ([108, 111, 111, 112, 46, 101, 120, 97, 109, 112, 108, 101, 47, 103, 48, 49, 48, 50, 53, 47, 108, 97, 119, 115, 46, 70, 110, 69, 120, 97, 99, 116, 76, 97, 115, 116, 65, 110, 110, 117, 105, 116, 121].map Char.ofNat), ([108, 111, 111, 112, 46, 101, 120, 97, 109, 112, 108, 101, 47, 103, 48, 49, 48, 50, 53, 47, 108, 97, 119, 115, 46, 70, 110, 69, 120, 97, 99, 116, 87, 105, 100, 111, 119, 89, 101, 97, 114, 115].map Char.ofNat), ([108, 111, 111, 112, 46, 101, 120, 97, 109, 112, 108, 101, 47, 103, 48, 49, 48, 50, 53, 47, 108, 97, 119, 115, 46, 70, 110, 69, 120, 97, 99, 116, 73, 115, 80, 111, 108, 105, 99, 121].map Char.ofNat), ([108, 111, 111, 112, 46, 101, 120, 97, 109, 112, 108, 101, 47, 103, 48, 49, 48, 50, 53, 47, 108, 97, 119, 115, 46, 70, 110, 69, 120, 97, 99, 116, 66, 101, 115, 116, 76, 101, 97, 118, 105, 110, 103].map Char.ofNat), ([108, 111, 111, 112, 46, 101, 120, 97, 109, 112, 108, 101, 47, 103, 48, 49, 48, 50, 53, 47, 108, 97, 119, 115, 46, 70, 110, 69, 120, 97, 99, 116, 68, 117, 114, 97, 116, 105, 111, 110, 79, 102].map Char.ofNat), ([108, 111, 111, 112, 46, 101, 120, 97, 109, 112, 108, 101, 47, 103, 48, 49, 48, 50, 53, 47, 108, 97, 119, 115, 46, 70, 110, 69, 120, 97, 99, 116, 75, 101, 112, 116, 89, 101, 97, 114, 115].map Char.ofNat), ([108, 111, 111, 112, 46, 101, 120, 97, 109, 112, 108, 101, 47, 103, 48, 49, 48, 50, 53, 47, 108, 97, 119, 115, 46, 70, 110, 69, 120, 97, 99, 116, 68, 101, 110, 111, 109, 105, 110, 97, 116, 111, 114, 65, 116].map Char.ofNat), ([108, 111, 111, 112, 46, 101, 120, 97, 109, 112, 108, 101, 47, 103, 48, 49, 48, 50, 53, 47, 108, 97, 119, 115, 46, 70, 110, 69, 120, 97, 99, 116, 73, 115, 80, 111, 114, 116, 102, 111, 108, 105, 111].map Char.ofNat), ([108, 111, 111, 112, 46, 101, 120, 97, 109, 112, 108, 101, 47, 103, 48, 49, 48, 50, 53, 47, 108, 97, 119, 115, 46, 70, 110, 69, 120, 97, 99, 116, 77, 97, 116, 117, 114, 105, 110, 103, 83, 117, 109, 115].map Char.ofNat), ([108, 111, 111, 112, 46, 101, 120, 97, 109, 112, 108, 101, 47, 103, 48, 49, 48, 50, 53, 47, 108, 97, 119, 115, 46, 70, 110, 69, 120, 97, 99, 116, 78, 101, 116, 80, 114, 101, 109, 105, 117, 109].map Char.ofNat), ([108, 111, 111, 112, 46, 101, 120, 97, 109, 112, 108, 101, 47, 103, 48, 49, 48, 50, 53, 47, 108, 97, 119, 115, 46, 70, 110, 69, 120, 97, 99, 116, 80, 114, 101, 109, 105, 117, 109, 71, 97, 105, 110].map Char.ofNat), ([108, 111, 111, 112, 46, 101, 120, 97, 109, 112, 108, 101, 47, 103, 48, 49, 48, 50, 53, 47, 108, 97, 119, 115, 46, 70, 110, 69, 120, 97, 99, 116, 79, 102, 102, 105, 99, 101, 80, 114, 101, 109, 105, 117, 109].map Char.ofNat), ([108, 111, 111, 112, 46, 101, 120, 97, 109, 112, 108, 101, 47, 103, 48, 49, 48, 50, 53, 47, 108, 97, 119, 115, 46, 70, 110, 69, 120, 97, 99, 116, 83, 117, 109, 70, 111, 114, 80, 114, 101, 109, 105, 117, 109].map Char.ofNat), ([108, 111, 111, 112, 46, 101, 120, 97, 109, 112, 108, 101, 47, 103, 48, 49, 48, 50, 53, 47, 108, 97, 119, 115, 46, 70, 110, 69, 120, 97, 99, 116, 65, 103, 101, 80, 111, 114, 116, 102, 111, 108, 105, 111].map Char.ofNat), ([108, 111, 111, 112, 46, 101, 120, 97, 109, 112, 108, 101, 47, 103, 48, 49, 48, 50, 53, 47, 108, 97, 119, 115, 46, 70, 110, 69, 120, 97, 99, 116, 71, 97, 105, 110, 65, 116].map Char.ofNat), ([108, 111, 111, 112, 46, 101, 120, 97, 109, 112, 108, 101, 47, 103, 48, 49, 48, 50, 53, 47, 108, 97, 119, 115, 46, 70, 110, 69, 120, 97, 99, 116, 69, 120, 112, 101, 99, 116, 101, 100, 67, 108, 97, 105, 109, 115].map Char.ofNat), ([108, 111, 111, 112, 46, 101, 120, 97, 109, 112, 108, 101, 47, 103, 48, 49, 48, 50, 53, 47, 108, 97, 119, 115, 46, 70, 110, 69, 120, 97, 99, 116, 70, 111, 114, 119, 97, 114, 100, 82, 101, 115, 101, 114, 118, 101].map Char.ofNat), ([108, 111, 111, 112, 46, 101, 120, 97, 109, 112, 108, 101, 47, 103, 48, 49, 48, 50, 53, 47, 108, 97, 119, 115, 46, 70, 110, 69, 120, 97, 99, 116, 66, 97, 99, 107, 119, 97, 114, 100, 82, 101, 115, 101, 114, 118, 101].map Char.ofNat), ([108, 111, 111, 112, 46, 101, 120, 97, 109, 112, 108, 101, 47, 103, 48, 49, 48, 50, 53, 47, 108, 97, 119, 115, 46, 70, 110, 69, 120, 97, 99, 116, 82, 101, 115, 101, 114, 118, 101, 76, 105, 115, 116].map Char.ofNat), ([108, 111, 111, 112, 46, 101, 120, 97, 109, 112, 108, 101, 47, 103, 48, 49, 48, 50, 53, 47, 108, 97, 119, 115, 46, 70, 110, 69, 120, 97, 99, 116, 71, 114, 101, 97, 116, 101, 115, 116, 82, 101, 115, 101, 114, 118, 101].map Char.ofNat), ([108, 111, 111, 112, 46, 101, 120, 97, 109, 112, 108, 101, 47, 103, 48, 49, 48, 50, 53, 47, 108, 97, 119, 115, 46, 70, 110, 69, 120, 97, 99, 116, 76, 101, 97, 118, 105, 110, 103, 76, 111, 115, 115].map Char.ofNat), ([108, 111, 111, 112, 46, 101, 120, 97, 109, 112, 108, 101, 47, 103, 48, 49, 48, 50, 53, 47, 108, 97, 119, 115, 46, 70, 110, 69, 120, 97, 99, 116, 83, 117, 114, 114, 101, 110, 100, 101, 114, 86, 97, 108, 117, 101].map Char.ofNat), ([108, 111, 111, 112, 46, 101, 120, 97, 109, 112, 108, 101, 47, 103, 48, 49, 48, 50, 53, 47, 108, 97, 119, 115, 46, 70, 110, 69, 120, 97, 99, 116, 76, 111, 97, 110, 76, 105, 109, 105, 116].map Char.ofNat), ([108, 111, 111, 112, 46, 101, 120, 97, 109, 112, 108, 101, 47, 103, 48, 49, 48, 50, 53, 47, 108, 97, 119, 115, 46, 70, 110, 69, 120, 97, 99, 116, 82, 105, 115, 107, 65, 116].map Char.ofNat), ([108, 111, 111, 112, 46, 101, 120, 97, 109, 112, 108, 101, 47, 103, 48, 49, 48, 50, 53, 47, 108, 97, 119, 115, 46, 70, 110, 69, 120, 97, 99, 116, 80, 97, 105, 100, 85, 112, 83, 117, 109].map Char.ofNat)] := by
  rw [order_]; kernel_rfl
theorem make_eq : Try.prog.make = some .cut := make_cut words
theorem lifts_eq : Try.prog.liftsFinal = false := lifts_cut words
theorem may_eq : Try.prog.mayEnter = true := may_cut words lays bears door
theorem prog_eq : Try.pinned.checked.prog = Try.prog := rfl
theorem laid_eq : laidOutB Try.prog = true := by kernel_rfl
theorem rowed_eq : mapsRowed Try.prog = true := by kernel_rfl
theorem heard_eq : Try.prog.stopsHeard = true := by kernel_rfl
theorem stops_eq : (Try.prog.stops == []) = true := by kernel_rfl
theorem knobs_eq : (Try.prog.stopKnobs == []) = true := by kernel_rfl
theorem keys_eq : Try.prog.plainKeys = true := by kernel_rfl
theorem and_mk {a b : Bool} (ha : a = true) (hb : b = true) : (a && b) = true := by rw [ha, hb]; rfl
theorem walk_eq (L : List (List Nat)) (n : Nat) (h : Nat) : closT L n [h] [] = closB L n [h] 0 [] := closB_eq L n _ 0 _ (fun x => by simp)
set_option maxRecDepth 100000 in
/-- The closed fact of a row, from its parts: the program's own parts are proved above, the rest is small. -/
theorem facts_mk {f : FuncId} {fn : Func} {s : ChangeSpec} {c : OpenClaim} {cl : List Nat} (hcl : closB gLeads (fuelT gLeads) [f] 0 [] = cl)
    (h1 : c.wf (OpenSpec.ofChange s) = true) (h4 : fn.params.all (Try.prog.readableRec ·) = true) (h5 : namedTie Try.prog c.named s.vars = true) (h6 : (c.stops == []) = true) (h8 : (c.knobs == []) = true)
    (h10 : (c.inPlace == (cl.filterMap fun g => gInp.getD g none)) = true)
    (h11 : (c.unfollowed == (cl.any fun g => gUnf.getD g false)) = true)
    (h12 : (c.recurses == ((cl.any fun g => gUnf.getD g false) || cl.any fun g => (gLeads.getD g []).any fun h => (closB gLeads (fuelT gLeads) [h] 0 []).contains g)) = true)
    (h13 : (c.named == (((cl.flatMap fun g => gGlo.getD g []).eraseDups).filterMap (fun g => (Try.prog.globals[g]?).map (·.name)) ++ cl.filterMap fun g => gRds.getD g none).eraseDups) = true)
    (h14 : (c.maps == (fn.params.toList ++ s.plain.varTypes Try.prog).any (Try.prog.mapsRec ·)) = true)
    (h15 : (c.ifaces == (fn.params.toList ++ s.plain.varTypes Try.prog).any (Try.prog.ifacesRec ·)) = true)
    (h16 : (c.mapsOut == Try.prog.mapsAmong fn.resultTypes.toList) = true)
    (h17 : (c.loops == (fn.params.toList ++ s.plain.varTypes Try.prog).any (Try.prog.loopsFrom ·)) = true)
    (h17b : (c.wideKeys == (fn.params.toList ++ s.plain.varTypes Try.prog ++ fn.resultTypes.toList).any (Try.prog.wideKeysFrom ·)) = true)
    (h18 : s.vars.all (Try.prog.varReadable ·) = true) (h19 : fn.resultTypes.all (fun t => Try.prog.readableRec t && decide (t < Try.prog.types.size)) = true)
    (h20 : (c.ifacesOut == fn.resultTypes.toList.any (Try.prog.ifacesRec ·)) = true) (h21 : (c.loopsOut == fn.resultTypes.toList.any (Try.prog.loopsFrom ·)) = true)
    (h22 : (c.plainKeys == true) = true) (h23 : c.shortTexts.isNone = true) (h24 : (c.lifted == false) = true) (h25 : (some Make.cut == some c.make) = true)
    (h26 : (c.kinds == (if c.domain.isEmpty then [] else fn.params.toList.map fun t => match Try.prog.underlying t with | some (.int k) => some k | _ => none)) = true)
    (h27 : (c.pinned == c.pinnedBy) = true)
    (h28 : (c.veiled == (fn.params.toList ++ s.plain.varTypes Try.prog ++ fn.resultTypes.toList).any (Try.prog.veiledRec ·)) = true)
    (h29 : c.veiledFits Try.prog fn.params.toList (fn.params.toList ++ s.plain.varTypes Try.prog ++ fn.resultTypes.toList) = true) :
    joinedFacts Try.pinned.checked.prog f fn s c = true := by
  have hc := clos_mk hcl
  rw [prog_eq]
  unfold joinedFacts
  rw [inPlace_eq, unfollowed_eq, recurses_eq, varsNamed_eq, make_eq, lifts_eq, may_eq, laid_eq, rowed_eq, heard_eq, stops_eq, knobs_eq, keys_eq, hc]
  have e : (fun g => (gLeads.getD g []).any fun h => (closT gLeads (fuelT gLeads) [h] []).contains g) = (fun g => (gLeads.getD g []).any fun h => (closB gLeads (fuelT gLeads) [h] 0 []).contains g) := by
    funext g; simp only [walk_eq]
  rw [e, h1, h4, h5, h6, h8, h10, h11, h12, h13, h14, h15, h16, h17, h17b, h18, h19, h20, h21, h22, h23, h24, h25]
  exact and_mk (and_mk (and_mk (and_mk rfl h26) h27) h28) h29
end Go.Proofs.Ytfelomijaimloaa
