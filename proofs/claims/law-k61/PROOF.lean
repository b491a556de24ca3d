import PyProof.Rows.All
import Wide.All
import OpenK.AllK
import Wide.FinOn
import Wide.Once
import KE.KStateDown
import HandS.ForMost
import HandS.ForExc
import HandS.More
import HandS.Flow
import HandS.Style
import HandS.Conv
import HandS.Deep
import HandS.NoneIn
import HandS.FStr
import HandS.Property
import HandS.IsInst
import HandS.DictComp
import HandS.SetFor
import HandS.Strs
import HandS.Star
import HandS.TupAny
import HandS.RaiseMore
import HandS.Defaults
import HandS.Lambda
import HandS.ExcCtx
import HandS.HotCalls
import HandS.EndTab
import HandS.Head0
import HandS.Head1
import HandS.Head2
import HandS.HeadHook1
import HandS.HeadHook2
import HandS.HeadHook3
import HandS.HeadHook4
import HandS.HeadWalk
import KE.DataEq
import KE.GoesMore
import PyProof.Draws
import PyProof.EnumMake
import KE.DataFind
import HandS.WrittenGet
import KE.KExcInit
import HandS.ExcInit
import HandS.ExcIs
import HandS.ExcField
import HandS.TryMany
import HandS.Small
import HandS.ExcOwn
import PyProof.DictUpdate
import PyProof.DictDisplay
import PyProof.InstNe
import PyProof.MaxThree
import PyProof.Rows.ReprOcc
import HandS.SortInts
import KE.KTryMore
import KE.KExcIs
import HandS.TryOnly
import PyProof.ExcBaseAll.ValueError
import PyProof.ExcBaseAll.LookupError
import PyProof.ExcBaseAll.ArithmeticError
import PyProof.InstStoreFacts
import PySem.Challenge.RW_bentthrough_k61_whole_commands_done
set_option Elab.async false
set_option linter.all false
set_option maxRecDepth 100000
set_option maxHeartbeats 4000000
/-! bentthrough, law k61: the ground -/
namespace Bt
open PySem L2
abbrev Frag := PySem.W.Frag
/-- the i-th statement of the linked text's top -/
def top (i : Nat) : Stmt := PySem.Challenge.pw_bentthrough_k61_whole_commands_done.main.body.getD i (.Pass ⟨0, 0, 0, 0⟩)
/-- all that stood stands -/
theorem at_same {H H' : Hp} {a : Addr} {o : HO} (s : Same H H') (h : H a = some o) : H' a = some o := s a o h
theorem at_new {H : Hp} {a p : Addr} {o u : HO} (n : H p = none) (h : H a = some u) : upd H p o a = some u := (upd_ne (ne_of_none h n)).trans h
theorem at_mut {H : Hp} {a p : Addr} {o u : HO} (n : a ≠ p) (h : H a = some u) : upd H p o a = some u := (upd_ne n).trans h
theorem same_new {H0 H : Hp} {p : Addr} {o : HO} (n : H p = none) (s : Same H0 H) : Same H0 (upd H p o) := fun b u e => at_new n (s b u e)
theorem none_of_same {H H' : Hp} {p : Addr} (s : Same H H') (h : H' p = none) : H p = none := Same.free s h
theorem none_of_new {H : Hp} {p q : Addr} {o : HO} (h : upd H q o p = none) : H p = none := by
  unfold upd at h; split at h
  · cases h
  · exact h
theorem Same.tup {K : Frag} {H H' : Hp} {a : Addr} {xs : List V} (e : Same H H') (h : SqT K H a xs) : SqT K H' a xs := by
  rcases h with (h | ⟨o, h⟩) | h
  · exact .inl (.inl (e _ _ h))
  · exact .inl (.inr ⟨o, e _ _ h⟩)
  · exact .inr h
/-- a def of the top, by its promise -/
def Own (P : Program) (w : World) (K : Frag) (mg : Str → Option Value) (base : Heap) (x : Str) (k : Nat) (ps : List Str) (sp : Sp) : Prop :=
  ∃ (f : Addr) (fd : FuncData), FnOk P w K mg base (L2N.CX P w) k f fd ps sp ∧ mg x = some (.ref f) ∧ PySem.W.keepIn K (.ref f) = true ∧ Binds K fd ps []
/-- a method of the class at C -/
def OwnM (P : Program) (w : World) (K : Frag) (mg : Str → Option Value) (base : Heap) (C : Addr) (m : Str) (k : Nat) (ps : List Str) (sp : Sp) : Prop :=
  ∃ (f : Addr) (fd : FuncData), FnOk P w K mg base (L2N.CX P w) k f fd ps sp ∧ Meth K C m f ∧ Binds K fd ps []
/-- a class that is made by its __init__ -/
def OwnC (P : Program) (w : World) (K : Frag) (mg : Str → Option Value) (base : Heap) (C : Addr) (x : Str) (k : Nat) (ps : List Str) (sp : Sp) : Prop :=
  ∃ (f : Addr) (fd : FuncData), FnOk P w K mg base (L2N.CX P w) k f fd ps sp ∧ Mk K C f ∧ mg x = some (.ref C) ∧ Binds K fd ps []
/-- a property -/
def OwnP (P : Program) (w : World) (K : Frag) (mg : Str → Option Value) (base : Heap) (C : Addr) (m : Str) (k : Nat) (sp : Sp) : Prop :=
  ∃ (p f : Addr) (fd : FuncData), FnOk P w K mg base (L2N.CX P w) k f fd ["self"] sp ∧ PropOf K C m p f ∧ Binds K fd ["self"] []
section
variable {X : Cx} {k j : Nat} {x m : Str} {C : Addr} {ps : List Str} {sp : Sp} {E : XK} {e o : Expr} {es : List Expr} {t : TA} {ta : TE} {p pos apos : Pos}
theorem pe_own (O : Own X.prog X.w X.K X.mg X.base x j ps sp) (hr : Room k X.A) (hx : Passes (L2N.CX X.prog X.w) X E) (ha : PA X (e :: es) t) (hj : j ≤ k := by decide) (hg : Gl X x := by rfl)
    (hdb : (x == ("__debug__" : Str)) = false := by decide) (he : starEach (e :: es) X.env = (false, eval e X.env) :: starEach es X.env := by rfl) (hpl : (backTo pos (starEach es X.env)).any (·.1) = false := by rfl) :
    PE X (.Call (.Name x p) (e :: es) [] pos) (tCall sp [] E t) := by
  obtain ⟨f, fd, F, hm, hk, hb⟩ := O
  exact pe_call F (hr.mono hj) hg hm hk hb .nil hx ha hdb he hpl
theorem pe_own0 (O : Own X.prog X.w X.K X.mg X.base x j [] sp) (hr : Room k X.A) (hx : Passes (L2N.CX X.prog X.w) X E) (hj : j ≤ k := by decide) (hg : Gl X x := by rfl)
    (hdb : (x == ("__debug__" : Str)) = false := by decide) : PE X (.Call (.Name x p) [] [] pos) (tCall sp [] E tNil) := by
  obtain ⟨f, fd, F, hm, hk, hb⟩ := O
  exact pe_call0 F (hr.mono hj) hg hm hk hb .nil hx hdb
theorem pe_ownC (O : OwnC X.prog X.w X.K X.mg X.base C x j ps sp) (hr : Room k X.A) (hx : Passes (L2N.CX X.prog X.w) X E) (ha : PA X (e :: es) t) (hj : j + 1 ≤ k := by decide) (hg : Gl X x := by rfl)
    (hdb : (x == ("__debug__" : Str)) = false := by decide) (he : starEach (e :: es) X.env = (false, eval e X.env) :: starEach es X.env := by rfl) (hpl : (backTo pos (starEach es X.env)).any (·.1) = false := by rfl) :
    PE X (.Call (.Name x p) (e :: es) [] pos) (tMake C sp [] E t) := by
  obtain ⟨f, fd, F, hM, hm, hb⟩ := O
  exact pe_make hM F (hr.mono hj) hg hm hb .nil hx ha hdb he hpl
theorem pe_ownC0 (O : OwnC X.prog X.w X.K X.mg X.base C x j ps sp) (hr : Room k X.A) (hx : Passes (L2N.CX X.prog X.w) X E) (hj : j + 1 ≤ k := by decide) (hg : Gl X x := by rfl)
    (hdb : (x == ("__debug__" : Str)) = false := by decide) : PE X (.Call (.Name x p) [] [] pos) (tMake C sp [] E tNil) := by
  obtain ⟨f, fd, F, hM, hm, hb⟩ := O
  exact pe_make0 hM F (hr.mono hj) hg hm hb .nil hx hdb
theorem pe_ownM {pl : Sem Bool} (O : OwnM X.prog X.w X.K X.mg X.base C m j ps sp) (c : Cls X.K C) (hr : Room k X.A) (hx : Passes (L2N.CX X.prog X.w) X E) (ho : PE X o ta) (ha : PA X (e :: es) t) (hj : j ≤ k := by decide)
    (hst : starEach (e :: es) X.env = (false, eval e X.env) :: starEach es X.env := by rfl) (hpl : (backTo pos (starEach es X.env)).any (·.1) = false := by rfl)
    (ht : eval (.Call (.Attribute o m apos) (e :: es) [] pos) X.env = (do let ov ← eval o X.env; standAt apos.atName; let (f, first) ← holding [ov] (getMethod ov m pl); callWith pos f first (backTo pos (starEach (e :: es) X.env)) (backToKw pos (keywordEach [] X.env))) := by rfl) :
    PE X (.Call (.Attribute o m apos) (e :: es) [] pos) (tMeth C m sp [] E ta t) := by
  obtain ⟨f, fd, F, hM, hb⟩ := O
  exact pe_meth ho c hM F (hr.mono hj) hb .nil hx ha hst hpl ht
theorem pe_ownM0 {pl : Sem Bool} (O : OwnM X.prog X.w X.K X.mg X.base C m j ps sp) (c : Cls X.K C) (hr : Room k X.A) (hx : Passes (L2N.CX X.prog X.w) X E) (ho : PE X o ta) (hj : j ≤ k := by decide)
    (ht : eval (.Call (.Attribute o m apos) [] [] pos) X.env = (do let ov ← eval o X.env; standAt apos.atName; let (f, first) ← holding [ov] (getMethod ov m pl); callWith pos f first (backTo pos (starEach [] X.env)) (backToKw pos (keywordEach [] X.env))) := by rfl) :
    PE X (.Call (.Attribute o m apos) [] [] pos) (tMeth C m sp [] E ta tNil) := by
  obtain ⟨f, fd, F, hM, hb⟩ := O
  exact pe_meth0 ho c hM F (hr.mono hj) hb .nil hx ht
theorem pe_ownP (O : OwnP X.prog X.w X.K X.mg X.base C m j sp) (c : Cls X.K C) (hr : Room k X.A) (hx : Passes (L2N.CX X.prog X.w) X.nox E) (ho : PE X o ta) (hj : j + 1 ≤ k := by decide) (hab : attributeBase o m X.env (eval o X.env) = eval o X.env := by rfl) :
    PE X (.Attribute o m pos) (tProp C sp [] E ta) := by
  obtain ⟨q, f, fd, F, hP, hb⟩ := O
  exact pe_prop ho c hP F (hr.mono hj) hb .nil hx hab
/-- a number of the module's -/
theorem pe_gint {i : Int} (h : ∃ t, X.mg x = some (.int i t)) (hg : Gl X x := by rfl) (hd : (x == ("__debug__" : Str)) = false := by decide) : PE X (.Name x pos) (tC (.int i)) := by
  obtain ⟨t, h⟩ := h
  exact pe_glob hg h ⟨t, rfl⟩ hd
theorem pe_gstr {z : Str} (h : ∃ t, X.mg x = some (.str z t)) (hg : Gl X x := by rfl) (hd : (x == ("__debug__" : Str)) = false := by decide) : PE X (.Name x pos) (tC (.str z)) := by
  obtain ⟨t, h⟩ := h
  exact pe_glob hg h ⟨t, rfl⟩ hd
theorem pe_gref {a : Addr} (h : X.mg x = some (.ref a)) (hg : Gl X x := by rfl) (hd : (x == ("__debug__" : Str)) = false := by decide) : PE X (.Name x pos) (tC (.ref a)) := pe_glob hg h rfl hd
end
/-- nothing that is raised leaves the callee -/
theorem passN {X : Cx} : Passes (L2N.CX X.prog X.w) X E0 := fun _ _ _ _ _ _ _ h => by
  obtain ⟨_, _, _, _, _, _, _, _, _, _, _, _, z⟩ := h
  exact z.elim
end Bt

set_option Elab.async false
set_option linter.all false
set_option maxRecDepth 100000
set_option maxHeartbeats 4000000
/-! the head: what is looked at -/
namespace Bt
open PySem L2 LamX
/-- own classes, then these -/
def refsB (tail : List Value) : List Value → Bool
  | .ref _ :: r => refsB tail r
  | l => l == tail
def exOwn : List Str := ["Broken", "InUse", "InvalidIndex", "UnknownName", "NothingToUndo"]
def exAll : List Str := ["NotRight", "NotKnown", "NotPossible", "Broken", "InUse", "InvalidIndex", "NothingToUndo", "UnknownName"]
def exBlt : List String := ["ValueError", "LookupError", "ArithmeticError"]
/-- whether the class of that name is under the other -/
def isB (x y : Str) : Bool := decide (x = y) || decide ((x, y) ∈ [(("Broken" : Str), ("NotPossible" : Str)), ("InUse", "NotKnown"), ("UnknownName", "NotKnown"), ("NothingToUndo", "NotKnown"), ("InvalidIndex", "NotRight"), ("Broken", "ArithmeticError"), ("InUse", "LookupError"), ("UnknownName", "LookupError"), ("NothingToUndo", "LookupError"), ("InvalidIndex", "ValueError")])
def dF (x : Str) (st : Stmt) : He.DefD := ⟨(x, none), x, x, defArgs st, defBody st, defScope st, [], []⟩
def dM (C m q : Str) (st : Stmt) : He.DefD := ⟨(C, some m), m, q, defArgs st, defBody st, defScope st, [], []⟩
/-- a class's property, its getter -/
abbrev Pr : Type := (Str × Str) × He.DefD
def getA (p : Str × Str) (K : Frag) : Addr := match PySem.W.findIn K (.ref (He.ga K p.1)) p.2 with
  | some (some (.ref q)) => (match PySem.W.recIn K q "property" with
    | some (.ref g :: _) => g
    | _ => 0)
  | _ => 0
def fnWA (K : Frag) (a : Addr) : He.FnW := match K.lookup a with
  | some ⟨_, _, .func fd, _⟩ => some (fd.name, fd.qualname, fd.params, fd.body, fd.scope, fd.globals, fd.closure, fd.builtins)
  | _ => none
def okA (K : Frag) (a : Addr) (d : He.DefD) : Bool := PySem.W.keepIn K (.ref a) && (match K.lookup a with
  | some ⟨_, _, .func fd, _⟩ => PySem.W.codeIn K fd.code d.qual && (He.dflB K fd.defaults (d.dvs K) && He.kwdB K fd.kwdefaults (d.kws K))
  | _ => false)
def prB (K : Frag) (p : Pr) : Bool := (match PySem.W.findIn K (.ref (He.ga K p.1.1)) p.1.2 with
  | some (some (.ref q)) => decide (PySem.W.specialIn K (.ref q) "__get__" = some (some (.builtin "property.__get__"))) && (decide (PySem.W.takesIn K (.ref q) = some true) && (match PySem.W.recIn K q "property" with
    | some (.ref _ :: _) => true
    | _ => false))
  | _ => false) && okA K (getA p.1 K) p.2
/-- an own exception class with an own __init__ -/
def exB (K : Frag) (x : Str) (bmB : List Value) (newId : String) : Bool := (match K.lookup (He.ga K x) with
  | some ⟨.type "type", _, .cls cd, sl⟩ => (match cd.mro, sl.toList with
    | .ref C' :: bm, [_, _, _, _, some (.builtin n), _] => C' == He.ga K x && (n == newId && (!cd.hasDel && (cd.hasDict && refsB bmB bm)))
    | _, _ => false)
  | _ => false) && (decide (PySem.W.findIn K (.ref (He.ga K x)) "__setattr__" = some (some (.builtin "object.__setattr__"))) && (decide (PySem.W.subIn K (.ref (He.ga K x)) (.type "BaseException") = some true) && (decide (PySem.W.typeIn K (.ref (He.ga K x)) = some (.type "type")) && (PySem.W.keepIn K (.ref (He.ga K x)) &&
    (decide (PySem.W.findIn K (.ref (He.ga K x)) "__init__" = some (some (.ref (He.ma K (He.ga K x) "__init__")))) && decide (PySem.W.typeIn K (.ref (He.ma K (He.ga K x) "__init__")) = some (.type "function")))))))
def exnB (K : Frag) (x : Str) (bm : List Value) (newId : String) : Bool := PySem.W.excIn K (He.ga K x) bm newId && (PySem.W.keepIn K (.ref (He.ga K x)) && (decide (PySem.W.subIn K (.ref (He.ga K x)) (.type "BaseException") = some true) && decide (PySem.W.typeIn K (.ref (He.ga K x)) = some (.type "type"))))
def neB (K : Frag) (x : Str) : Bool := decide (PySem.W.findIn K (.ref (He.ga K x)) "__ne__" = some (some (.builtin "object.__ne__"))) && decide (PySem.W.mroIn K (He.ga K x) (.type "object") = some true)
def insB (K : Frag) (x : Str) : Bool := decide (PySem.W.findIn K (.ref (He.ga K x)) "__class__" = some (some (.builtin "object.__class__"))) && (decide (PySem.W.specialIn K (.builtin "object.__class__") "__get__" = some (some (.builtin "getset_descriptor.__get__"))) &&
  (decide (PySem.W.takesIn K (.builtin "object.__class__") = some true) && (decide (PySem.W.mroIn K (He.ga K x) (.type "object") = some true) && decide (PySem.W.kitOne K (.ref (He.ga K x)) (.ref (He.ga K x)) = some true))))
def ecB (K : Frag) (x : Str) : Bool := decide (PySem.W.findIn K (.ref (He.ga K x)) "__getattribute__" = some (some (.builtin "BaseException.__getattribute__"))) && (decide (PySem.W.findIn K (.ref (He.ga K x)) "__getattr__" = some none) && (decide (PySem.W.subIn K (.ref (He.ga K x)) (.type "BaseException") = some true) && (PySem.W.hasDictIn K (He.ga K x) &&
  (decide (PySem.W.findIn K (.ref (He.ga K x)) "__class__" = some (some (.builtin "object.__class__"))) && (decide (PySem.W.specialIn K (.builtin "object.__class__") "__get__" = some (some (.builtin "getset_descriptor.__get__"))) && (decide (PySem.W.takesIn K (.builtin "object.__class__") = some true) && decide (PySem.W.mroIn K (He.ga K x) (.type "object") = some true)))))))
def hfa0 : List He.Fa := [.glo "is_integer", .glo "is_between", .glo "is_name", .glo "number_in", .glo "is_place", .glo "are_places", .glo "places_fault", .glo "check_places", .glo "knots_fault", .glo "check_frame", .glo "within", .glo "is_up", .glo "lengths_from", .glo "rank_of", .glo "check_both", .glo "rank", .glo "is_claim", .glo "names_in", .glo "is_kept", .glo "shown_by", .glo "check_kept", .glo "numbers_in", .glo "claim_in", .glo "put_in_words"]
def hfa1 : List He.Fa := [.glo "short_in", .glo "parts_in", .glo "_law_urn", .glo "_law_grab", .glo "_law_take", .glo "_law_shape", .glo "_law_many", .glo "_law_framed", .glo "_law_sites", .glo "_law_is_up", .glo "_law_free", .glo "_law_want", .glo "_law_shown", .glo "_law_broken", .glo "_law_behind", .glo "_law_new_deed", .glo "_law_near", .glo "_law_desk_is", .glo "_law_written", .glo "_law_slip", .glo "_law_heard", .glo "_law_right", .glo "law", .glo "Frame"]
def hfa2 : List He.Fa := [.glo "Page", .glo "Desk", .glo "Console", .glo "NotRight", .glo "NotKnown", .glo "NotPossible", .glo "Broken", .glo "InUse", .glo "InvalidIndex", .glo "NothingToUndo", .glo "UnknownName", .glo "CLAIMS", .glo "SIZES", .free "len", .free "range", .free "isinstance", .free "int", .free "str", .free "bool", .free "tuple", .free "list", .free "dict", .free "set", .free "abs"]
def hfa3 : List He.Fa := [.free "all", .free "max", .free "min", .free "sorted", .free "repr", .free "enumerate", .free "ValueError", .free "LookupError", .free "ArithmeticError", .int "MOST_DEGREE" 4, .int "MOST_KNOT" 1000000, .int "MOST_HILLS" 10, .int "MOST_PLACES" 12, .int "MOST_HEIGHT" 100000000000000000000, .int "MOST_LETTERS" 8, .int "MOST_FIGURES" 60, .int "MOST_NUMBERS" 15, .str "LETTERS" "abcdefghijklmnopqrstuvwxyz", .str "FIGURES" "0123456789", .cls "Frame", .cls "Page", .cls "Desk", .cls "Console", .mkr "Frame"]
def hfa4 : List He.Fa := [.mkr "Page", .mkr "Desk", .mkr "Console", .noat "Frame" "parts", .noat "Page" "shelf", .noat "Page" "wanted", .noat "Page" "ahead", .noat "Page" "depth", .noat "Desk" "page", .noat "Console" "table", .noat "InvalidIndex" "given", .noat "UnknownName" "given", .noat "InUse" "index", .noat "Broken" "index", .noat "Broken" "shown", .meth "Frame" "__eq__", .meth "Desk" "__contains__", .meth "Desk" "need", .meth "Desk" "put", .meth "Desk" "thing", .meth "Desk" "drop", .meth "Desk" "claim", .meth "Desk" "lift", .meth "Desk" "undo"]
def hfa5 : List He.Fa := [.meth "Console" "run", .meth "Console" "change", .meth "Console" "answer"]
def hfa : List He.Fa := hfa0 ++ hfa1 ++ hfa2 ++ hfa3 ++ hfa4 ++ hfa5
def hfn0 : List He.DefD := [dF "is_integer" (top 31), dF "is_between" (top 32), dF "is_name" (top 34), dF "number_in" (top 35), dF "is_place" (top 36), dF "are_places" (top 38), dF "places_fault" (top 39), dF "check_places" (top 40), dF "knots_fault" (top 45), dF "check_frame" (top 47), dF "within" (top 48), dF "is_up" (top 63), dF "lengths_from" (top 66), dF "rank_of" (top 67), dF "check_both" (top 68), dF "rank" (top 69), dF "is_claim" (top 72), dF "names_in" (top 73), dF "is_kept" (top 74), dF "shown_by" (top 75), dF "check_kept" (top 78), dF "numbers_in" (top 96), dF "claim_in" (top 98), dF "put_in_words" (top 99)]
def hfn1 : List He.DefD := [dF "short_in" (top 101), dF "parts_in" (top 102), dF "_law_urn" (top 105), dF "_law_grab" (top 106), dF "_law_take" (top 107), dF "_law_shape" (top 108), dF "_law_many" (top 109), dF "_law_framed" (top 110), dF "_law_sites" (top 111), dF "_law_is_up" (top 112), dF "_law_free" (top 113), dF "_law_want" (top 114), dF "_law_shown" (top 115), dF "_law_broken" (top 116), dF "_law_behind" (top 117), dF "_law_new_deed" (top 118), dF "_law_near" (top 119), dF "_law_desk_is" (top 121), dF "_law_written" (top 122), dF "_law_slip" (top 123), dF "_law_heard" (top 124), dF "_law_right" (top 125), dF "law" (top 126), dM "Frame" "__eq__" "Frame.__eq__" (inClass (top 46) 6)]
def hfn2 : List He.DefD := [dM "Desk" "__contains__" "Desk.__contains__" (inClass (top 79) 1), dM "Desk" "need" "Desk.need" (inClass (top 79) 5), dM "Desk" "put" "Desk.put" (inClass (top 79) 6), dM "Desk" "thing" "Desk.thing" (inClass (top 79) 7), dM "Desk" "drop" "Desk.drop" (inClass (top 79) 8), dM "Desk" "claim" "Desk.claim" (inClass (top 79) 9), dM "Desk" "lift" "Desk.lift" (inClass (top 79) 10), dM "Desk" "undo" "Desk.undo" (inClass (top 79) 11), dM "Console" "run" "Console.run" (inClass (top 103) 2), dM "Console" "change" "Console.change" (inClass (top 103) 3), dM "Console" "answer" "Console.answer" (inClass (top 103) 4), dM "Frame" "__init__" "Frame.__init__" (inClass (top 46) 0), dM "Page" "__init__" "Page.__init__" (inClass (top 77) 0), dM "Desk" "__init__" "Desk.__init__" (inClass (top 79) 0), dM "Console" "__init__" "Console.__init__" (inClass (top 103) 0), dM "InvalidIndex" "__init__" "InvalidIndex.__init__" (inClass (top 6) 0), dM "UnknownName" "__init__" "UnknownName.__init__" (inClass (top 16) 0), dM "InUse" "__init__" "InUse.__init__" (inClass (top 17) 0), dM "Broken" "__init__" "Broken.__init__" (inClass (top 20) 0)]
def hfn : List He.DefD := hfn0 ++ hfn1 ++ hfn2
def hnames0 : List Str := ["is_integer", "is_between", "is_name", "number_in", "is_place", "are_places", "places_fault", "check_places", "knots_fault", "check_frame", "within", "is_up", "lengths_from", "rank_of", "check_both", "rank", "is_claim", "names_in", "is_kept", "shown_by", "check_kept", "numbers_in", "claim_in", "put_in_words"]
def hnames1 : List Str := ["short_in", "parts_in", "_law_urn", "_law_grab", "_law_take", "_law_shape", "_law_many", "_law_framed", "_law_sites", "_law_is_up", "_law_free", "_law_want", "_law_shown", "_law_broken", "_law_behind", "_law_new_deed", "_law_near", "_law_desk_is", "_law_written", "_law_slip", "_law_heard", "_law_right", "law", "Frame"]
def hnames2 : List Str := ["Page", "Desk", "Console", "NotRight", "NotKnown", "NotPossible", "Broken", "InUse", "InvalidIndex", "NothingToUndo", "UnknownName", "CLAIMS", "SIZES"]
def hnames : List Str := hnames0 ++ hnames1 ++ hnames2
def hpr0 : List Pr := [(("Frame", "degree"), dM "Frame" "degree" "Frame.degree" (inClass (top 46) 2)), (("Frame", "knots"), dM "Frame" "knots" "Frame.knots" (inClass (top 46) 3)), (("Frame", "hills"), dM "Frame" "hills" "Frame.hills" (inClass (top 46) 4)), (("Frame", "text"), dM "Frame" "text" "Frame.text" (inClass (top 46) 5)), (("Desk", "names"), dM "Desk" "names" "Desk.names" (inClass (top 79) 2)), (("Desk", "claims"), dM "Desk" "claims" "Desk.claims" (inClass (top 79) 3)), (("Desk", "changes"), dM "Desk" "changes" "Desk.changes" (inClass (top 79) 4)), (("Console", "desk"), dM "Console" "desk" "Console.desk" (inClass (top 103) 1))]
def hpr : List Pr := hpr0


def bmV : List Value := [.type "ValueError", .type "Exception", .type "BaseException", .type "object"]
def bmL : List Value := [.type "LookupError", .type "Exception", .type "BaseException", .type "object"]
def bmA : List Value := [.type "ArithmeticError", .type "Exception", .type "BaseException", .type "object"]
def sizesL : List (Str × Int) := [("all", 3), ("one", 3), ("rank", 4), ("within", 3)]
/-- the rest of the facts -/
def exL : List (Frag → Bool) := [fun K => hpr.all (prB K), fun K => exB K "InvalidIndex" bmV "ValueError.__new__", fun K => exB K "UnknownName" bmL "LookupError.__new__", fun K => exB K "InUse" bmL "LookupError.__new__", fun K => exB K "Broken" bmA "ArithmeticError.__new__",
  fun K => exnB K "NothingToUndo" bmL "LookupError.__new__", fun K => neB K "Frame", fun K => insB K "Frame", fun K => He.tupB K "CLAIMS" [.str "all", .str "one"], fun K => He.valsB K (He.ga K "SIZES") (sizesL.map fun p => (p.1, He.Dv.int p.2)), fun K => exOwn.all (ecB K),
  fun K => exOwn.all fun x => exAll.all fun y => decide (PySem.W.kitOne K (.ref (He.ga K x)) (.ref (He.ga K y)) = some (isB x y)), fun K => exOwn.all fun x => exBlt.all fun y => decide (PySem.W.kitOne K (.ref (He.ga K x)) (.type y) = some (isB x (Str.ofString y))),
  fun K => exOwn.all fun x => decide (PySem.W.exmAny K (.ref (He.ga K x)) [.ref (He.ga K "NotRight"), .ref (He.ga K "NotKnown"), .ref (He.ga K "NotPossible")] = some true)]
def hex (K : Frag) : Bool := exL.all fun f => f K
def hts : List He.Tab := [(fun K => He.ga K "SIZES", ["all", "one", "rank", "within"])]
def htf : List He.Defn := [("_law_right", none)]
def prV : List He.FnW := hpr.map fun p => p.2.val
def prO (K : Frag) : List He.FnW := hpr.map fun p => fnWA K (getA p.1 K)
/-- the whole of it -/
structure SaysP (w : World) (h : Heap) (K : Frag) : Prop where
  x : He.SaysX hfa hfn hts htf hex w h K
  p : prO K = prV
/-- what a name of the top stands for, what that needs -/
def fnA (g : Addr → Option Obj) (b : Addr) : List Addr := match g b with
  | some ⟨_, _, .func fd, _⟩ => b :: He.refV fd.code
  | _ => [b]
def memA (g : Addr → Option Obj) (b : Addr) : List Addr := match g b with
  | some ⟨_, _, .fields vs, _⟩ => b :: (vs.toList.take 1).flatMap fun v => (He.refV v).flatMap (fnA g)
  | _ => fnA g b
def stepA (g : Addr → Option Obj) (a : Addr) : List Addr := match g a with
  | some ⟨_, _, .cls cd, _⟩ => a :: cd.ns :: (match g cd.ns with
    | some ⟨_, _, .dict es _, _⟩ => es.toList.flatMap fun e => (He.refV e.val).flatMap (memA g)
    | _ => [])
  | _ => fnA g a
def asP (g : Addr → Option Obj) : List Addr := mainGlobals :: hnames.flatMap fun x => stepA g (He.ga (He.frG g [mainGlobals]) x)
def kP (g : Addr → Option Obj) : Frag := He.frT g (asP g)
def obsK (g : Addr → Option Obj) (K : Frag) : (He.AlT × Bool) × List He.FnW := ((He.obsT hfa hfn hts K, hex K && He.tabsB g htf K), prO K)
theorem saysP_of {w : World} {h : Heap} {as : List Addr} (e : obsK h.get? (He.frT h.get? as) = ((He.valT hfn hts w, true), prV)) : SaysP w h (He.frT h.get? as) := by
  injection e with e e3
  injection e with e1 e2
  obtain ⟨m1, m2⟩ := He.ba e2
  have tb : ∀ p ∈ htf, PySem.W.codeHdIn (He.frT h.get? as) (He.cT (He.frT h.get? as) p).1 (He.cT (He.frT h.get? as) p).2 = true ∧ ∃ o, h.get? (He.cT (He.frT h.get? as) p).2 = some o ∧ He.emptyTab o = true := fun p hp => by
    obtain ⟨a1, a2⟩ := He.ba (List.all_eq_true.mp m2 p hp)
    cases q : h.get? (He.cT (He.frT h.get? as) p).2 with
    | none => rw [q] at a2; cases a2
    | some o => rw [q] at a2; exact ⟨a1, o, rfl, a2⟩
  exact { x := { t := e1, more := m1, hd := fun p hp => (tb p hp).1, out := fun p hp => (tb p hp).2.elim fun o z => He.frT_none z.1 z.2, empty := fun p hp => (tb p hp).2.elim fun o z => by rw [z.1, He.emptyTab_eq z.2] }, p := e3 }
def hookP : PySem.W.Hook where
  α := (He.AlT × Bool) × List He.FnW
  obs := fun s => obsK s.heap.get? (kP s.heap.get?)
  val := fun w => ((He.valT hfn hts w, true), prV)
  says := fun w h => ∃ K : Frag, K.In h ∧ SaysP w h K
  of := fun _ _ e => ⟨_, He.frT_in, saysP_of e⟩
  keeps := fun _ _ _ ⟨K, hK, c⟩ k => ⟨K, PySem.W.Frag.In.keeps hK k, ⟨c.x.t, c.x.more, c.x.hd, c.x.out, fun p hp => k _ _ (c.x.empty p hp)⟩, c.p⟩
def obP (s : PySem.W.SharedT) : (He.AlT × Bool) × List He.FnW := obsK (HandSHeadRun.getT s) (kP (HandSHeadRun.getT s))
theorem obP_eq (s : PySem.W.SharedT) : obP s = hookP.obs s.abs := by
  have e : HandSHeadRun.getT s = s.abs.heap.get? := funext (HandSHeadRun.getT_eq s)
  show obsK (HandSHeadRun.getT s) (kP (HandSHeadRun.getT s)) = obsK s.abs.heap.get? (kP s.abs.heap.get?)
  rw [e]
end Bt

set_option Elab.async false
set_option linter.all false
set_option maxRecDepth 1000000
set_option maxHeartbeats 0
/-! the head runs; the law holds -/
namespace Bt
open PySem PySem.W PySem.Calls PyProof.Rows L2 LamX
def loose0 : List Str := [("_wall" : Str), ("NotRight" : Str), ("InvalidText" : Str), ("InvalidNumber" : Str), ("InvalidName" : Str), ("InvalidIndex" : Str), ("InvalidDegree" : Str), ("InvalidClaim" : Str), ("InvalidCommand" : Str), ("NotAFrame" : Str), ("InvalidKnots" : Str), ("InvalidAmounts" : Str), ("InvalidPlaces" : Str), ("InvalidHeights" : Str), ("NotKnown" : Str), ("UnknownName" : Str), ("InUse" : Str), ("NothingToUndo" : Str), ("NotPossible" : Str), ("Broken" : Str)]
def loose1 : List Str := [("MOST_DEGREE" : Str), ("MOST_KNOT" : Str), ("MOST_HILLS" : Str), ("MOST_PLACES" : Str), ("MOST_HEIGHT" : Str), ("LETTERS" : Str), ("FIGURES" : Str), ("MOST_LETTERS" : Str), ("MOST_FIGURES" : Str), ("is_integer" : Str), ("is_between" : Str), ("check_number" : Str), ("is_name" : Str), ("number_in" : Str), ("is_place" : Str), ("is_height" : Str), ("are_places" : Str), ("places_fault" : Str), ("check_places" : Str), ("heights_fault" : Str)]
def loose2 : List Str := [("check_heights" : Str), ("HEAD" : Str), ("knots_fault" : Str), ("Frame" : Str), ("check_frame" : Str), ("within" : Str), ("NONE" : Str), ("ONE" : Str), ("common" : Str), ("ratio" : Str), ("plus" : Str), ("minus" : Str), ("times" : Str), ("over" : Str), ("total" : Str), ("joined" : Str), ("is_ratio" : Str), ("bump" : Str), ("is_up" : Str), ("row_at" : Str)]
def loose3 : List Str := [("lengths_from" : Str), ("rank_of" : Str), ("check_both" : Str), ("rank" : Str), ("SIZES" : Str), ("is_claim" : Str), ("names_in" : Str), ("is_kept" : Str), ("shown_by" : Str), ("Page" : Str), ("check_kept" : Str), ("Desk" : Str), ("amounts_fault" : Str), ("Curve" : Str), ("reduced" : Str), ("cleared" : Str), ("solved" : Str), ("grid_of" : Str), ("check_points" : Str), ("goals_of" : Str)]
def loose4 : List Str := [("curve_through" : Str), ("MOST_NUMBERS" : Str), ("CLAIMS" : Str), ("integer_in" : Str), ("numbers_in" : Str), ("integers_in" : Str), ("claim_in" : Str), ("put_in_words" : Str), ("through_in" : Str), ("short_in" : Str), ("parts_in" : Str), ("Console" : Str), ("_law_urn" : Str), ("_law_grab" : Str), ("_law_take" : Str), ("_law_shape" : Str), ("_law_many" : Str), ("_law_framed" : Str), ("_law_sites" : Str), ("_law_is_up" : Str)]
def loose5 : List Str := [("_law_free" : Str), ("_law_want" : Str), ("_law_shown" : Str), ("_law_broken" : Str), ("_law_behind" : Str), ("_law_new_deed" : Str), ("_law_near" : Str), ("_law_done" : Str), ("_law_desk_is" : Str), ("_law_written" : Str), ("_law_slip" : Str), ("_law_heard" : Str), ("_law_right" : Str)]
def loose : List Str := loose0 ++ loose1 ++ loose2 ++ loose3 ++ loose4 ++ loose5

abbrev RR : PySem.W.OpenRow := PySem.W.OpenLaw.row PySem.Challenge.rw_bentthrough_k61_whole_commands_done
abbrev qV : Program := PySem.W.view RR.prog [126]
/-- the machine's end, what the library looks at | what we look at -/
def EqA (w : World) : Prop := ∀ os : OsState, (HandSHeadRun.endF (HandSHeadRun.stepQ (HandSHeadRun.denQ HandSHeadRun.tabQ) RR.prog w) 11000 RR.prog w os).map (fun s => (HandSHeadRun.looksF RR.prog (boot_heap w.params) s.abs, HandSHeadRun.seenQ qV loose (importedModules RR.prog.main.body) (fun s => PySem.W.xlAt qV [] s && PySem.W.recOk RR.toRowW.records s) s.abs)) = some (true, PySem.W.openGood qV loose)
def EqB (w : World) : Prop := ∀ os : OsState, (HandSHeadRun.endF (HandSHeadRun.stepQ (HandSHeadRun.denQ HandSHeadRun.tabQ) RR.prog w) 11000 RR.prog w os).map obP = some (hookP.val w)
theorem run_a0 (w : World) : EqA (w.withFollow "special-get-raises" false) := by
  intro os
  kernel_rfl
theorem run_a1 (w : World) : EqA (w.withFollow "special-get-raises" true) := by
  intro os
  kernel_rfl
theorem run_b0 (w : World) : EqB (w.withFollow "special-get-raises" false) := by
  intro os
  kernel_rfl
theorem run_b1 (w : World) : EqB (w.withFollow "special-get-raises" true) := by
  intro os
  kernel_rfl
theorem comb {S A B C : Type} {f : S → A} {g : S → B} {h : S → C} {a : A} {b : B} {c : C} : ∀ {e : Option S}, e.map (fun s => (f s, g s)) = some (a, b) → e.map h = some c → e.map (fun s => (f s, g s, h s)) = some (a, b, c)
  | none, e1, _ => by cases e1
  | some s, e1, e2 => by
    injection e1 with e1
    injection e2 with e2
    injection e1 with e3 e4
    rw [← e2, ← e3, ← e4]; rfl
set_option maxHeartbeats 400000
theorem run_both (w : World) (ha : EqA w) (hb : EqB w) : HandSHeadRun.RunEq RR qV hookP obP 11000 loose w := fun os => comb (ha os) (hb os)
theorem run_all (w : World) : HandSHeadRun.RunEq RR qV hookP obP 11000 loose w := run_both w (PySem.W.byRow2 "special-get-raises" (P := EqA) run_a0 run_a1 w) (PySem.W.byRow2 "special-get-raises" (P := EqB) run_b0 run_b1 w)
end Bt

set_option Elab.async false
set_option linter.all false
set_option maxRecDepth 100000
set_option maxHeartbeats 4000000
/-! rules by kinds joined, and the readings' steps -/
namespace Bt
open PySem L2
def rAddU : R2 := fun x y H Q => (rI0 fun i j => .int (i + j)) x y H Q ∨ ((∃ i j, x = .str i ∧ y = .str j ∧ i.length + j.length ≤ sizeLine ∧ Q (.str (i ++ j)) H) ∨ rCat x y H Q)
def rMulU : R2 := fun x y H Q => rI CMul (fun i j => .int (i * j)) x y H Q ∨ rRep x y H Q
/-- data of any depth up to 60 on one side -/
def Dat2 (K : Frag) (H : Hp) (x y : V) (d e : PyData) : Prop := Dp K H x d ∧ Dp K H y e ∧ d.plain = true ∧ e.plain = true ∧ min d.depth e.depth ≤ 60
def rEqP (K : Frag) : R2 := fun x y H Q => ∃ d e, Dat2 K H x y d e ∧ Q (.bl (PyData.eqv d e)) H
def rNeP (K : Frag) : R2 := fun x y H Q => ∃ d e, Dat2 K H x y d e ∧ Q (.bl (!PyData.eqv d e)) H
def rEqU (K : Frag) : R2 := fun x y H Q => rEq x y H Q ∨ rEqP K x y H Q
def rNeU (K : Frag) : R2 := fun x y H Q => rNe x y H Q ∨ rNeP K x y H Q
def rSlU (K : Frag) : V → Option Int → Option Int → Hp → VK → Prop := fun x lo hi H Q => rSlL K x lo hi H Q ∨ rSlA K x lo hi H Q
def rLenU (K : Frag) : List V → Hp → VK → Prop := fun xs H Q => (∃ p ys, xs = [.ref p] ∧ (SqL K H p ys ∨ SqT K H p ys) ∧ Q (.int ys.length) H) ∨ ∃ z, xs = [.str z] ∧ z.length ≤ sizeLine ∧ Q (.int z.length) H
def rIntU : List V → Hp → VK → Prop := fun xs H Q => ((∃ i, xs = [.int i] ∧ Q (.int i) H) ∨ ∃ k, xs = [.bl k] ∧ Q (.int (if k then 1 else 0)) H) ∨ ∃ a n, xs = [.str a] ∧ PySem.intText? a = some n ∧ a.length ≤ 640 ∧ Q (.int n) H
def rStrU : List V → Hp → VK → Prop := fun xs H Q => (∃ i, xs = [.int i] ∧ i.natAbs.log2 < 1920 ∧ Q (.str (toString i)) H) ∨ ∃ a, xs = [.str a] ∧ Q (.str a) H
section
variable {X : Cx}
theorem op_addU : OpR X (binaryOp .Add) rAddU := OpR.or op_add (OpR.or op_add_str op_cat)
theorem op_mulU : OpR X (binaryOp .Mult) rMulU := OpR.or op_mul op_rep
theorem op_eqP (hu : X.A.units + 64 < cLine) : OpR X (compareOp .Eq) (rEqP X.K) := fun pins s σ H x y v u Q I rx ry h => by
  obtain ⟨d, e, ⟨hd, he, pd, pe, m⟩, q⟩ := h
  obtain ⟨as, r1⟩ := Dp.reads I d x v hd rx
  obtain ⟨bs, r2⟩ := Dp.reads I e y u he ry
  exact SeqAt.eq_plain r1 r2 pd pe (by omega) ⟨.bl _, H, I, rfl, q⟩
theorem op_neP (hu : X.A.units + 64 < cLine) : OpR X (compareOp .NotEq) (rNeP X.K) := fun pins s σ H x y v u Q I rx ry h => by
  obtain ⟨d, e, ⟨hd, he, pd, pe, m⟩, q⟩ := h
  obtain ⟨as, r1⟩ := Dp.reads I d x v hd rx
  obtain ⟨bs, r2⟩ := Dp.reads I e y u he ry
  exact SeqAt.ne_plain r1 r2 pd pe (by omega) ⟨.bl _, H, I, rfl, q⟩
theorem op_eqU (hu : X.A.units + 64 < cLine) : OpR X (compareOp .Eq) (rEqU X.K) := OpR.or op_eq (op_eqP hu)
theorem op_neU (hu : X.A.units + 64 < cLine) : OpR X (compareOp .NotEq) (rNeU X.K) := OpR.or op_ne (op_neP hu)
theorem sl_U : SlR X (rSlU X.K) := SlR.or sl_list sl_tupA
theorem call_lenU : CallR X (.builtin "len") (rLenU X.K) := CallR.or call_len_seq call_len_str
theorem call_intU : CallR X (.type "int") rIntU := CallR.or call_int1 call_int_str
theorem call_strU : CallR X (.type "str") rStrU := CallR.or call_str_int SkE.call_str_str
end
/-! ### steps -/
section
variable {K : Frag} {σ : L2.St} {H : Hp} {Q : VK} {D : Ends} {t u : TS} {ta tb tc te : TE} {tt tu : TT} {tA : TA} {g : TG} {v : V} {i : Nat} {r r' : R2}
theorem w_seq (h : t { D with nx := u D } σ H) : tSeq t u D σ H := h
theorem w_ret (h : te σ H D.rt) : tRet te D σ H := h
theorem w_retN (h : D.rt .non H) : tRetN D σ H := h
theorem w_if (h : tt σ H fun b H1 => if b = true then t D σ H1 else u D σ H1) : tIfS tt t u D σ H := h
theorem w_ifN (h : tIfS tt t u D σ H) : tIfS tt t u D σ H := h
theorem w_ifE {tt : TT} (h : tt σ H fun c H1 => if c = true then ta σ H1 Q else tb σ H1 Q) : tIf tt ta tb σ H Q := h
theorem w_asg (h : te σ H fun x H1 => g x σ H1 D.nx) : tAsg te g D σ H := h
theorem w_name {q : L2.St → Hp → Prop} (h : q (σ.set i (some v)) H) : gName i v σ H q := h
theorem w_drop (h : te σ H fun _ H1 => D.nx σ H1) : tDrop te D σ H := h
theorem w_next (h : D.nx σ H) : tNext D σ H := h
theorem w_var (e : σ[i]? = some (some v)) (h : Q v H) : tVar i σ H Q := ⟨v, e, h⟩
theorem w_c (h : Q v H) : tC v σ H Q := h
theorem w_op (h : ta σ H fun x H1 => tb σ H1 fun y H2 => r x y H2 Q) : tOp r ta tb σ H Q := h
theorem w_un {r : V → Hp → VK → Prop} (h : ta σ H fun x H1 => r x H1 Q) : tUn r ta σ H Q := h
theorem w_chain (h : ta σ H fun x H1 => tb σ H1 fun y H2 => r x y H2 fun z H3 => ∃ k, z = .bl k ∧ (if k = true then tc σ H3 fun w' H4 => r' y w' H4 Q else Q (.bl false) H3)) : tChain r r' ta tb tc σ H Q := h
theorem w_test {q : Bool → Hp → Prop} (h : te σ H fun x H' => ∃ k, x = .bl k ∧ q k H') : tTest te σ H q := h
theorem w_tB {q : Bool → Hp → Prop} (h : te σ H fun x H' => ∃ k, x = .bl k ∧ q k H') : tB te σ H q := h
theorem w_bl {b : Bool} {q : Bool → Prop} (h : q b) : ∃ k, V.bl b = .bl k ∧ q k := ⟨b, rfl, h⟩
theorem w_and {q : Bool → Hp → Prop} (h : tt σ H fun c H1 => if c = true then tu σ H1 q else q false H1) : tAnd tt tu σ H q := h
theorem w_or {q : Bool → Hp → Prop} (h : tt σ H fun c H1 => if c = true then q true H1 else tu σ H1 q) : tOr tt tu σ H q := h
theorem w_not {q : Bool → Hp → Prop} (h : tt σ H fun c H1 => q (!c) H1) : tNot tt σ H q := h
theorem w_andV (h : ta σ H fun x H1 => ∃ c, x = .bl c ∧ if c = true then tb σ H1 Q else Q (.bl false) H1) : tAndV ta tb σ H Q := h
theorem w_orV (h : ta σ H fun x H1 => ∃ c, x = .bl c ∧ if c = true then Q (.bl true) H1 else tb σ H1 Q) : tOrV ta tb σ H Q := h
theorem w_notV (h : ta σ H fun x H1 => ∃ c, x = .bl c ∧ Q (.bl (!c)) H1) : tNotV ta σ H Q := h
theorem w_nil {q : List V → Hp → Prop} (h : q [] H) : tNil σ H q := h
theorem w_cons {q : List V → Hp → Prop} (h : ta σ H fun x H1 => tA σ H1 fun xs H2 => q (x :: xs) H2) : tCons ta tA σ H q := h
theorem w_par {i j : Nat} (h : tA σ H fun vs H1 => ∃ v w, vs = [v, w] ∧ D.nx ((σ.set i (some v)).set j (some w)) H1) : tPar i j tA D σ H := h
theorem w_parL {a b : V} {q : V → V → Prop} (h : q a b) : ∃ v w, [a, b] = [v, w] ∧ q v w := ⟨a, b, rfl, h⟩
theorem w_call {sp : Sp} {E : XK} (h : tA σ H fun vs H1 => sp vs H1 Q E) : tCall sp [] E tA σ H Q := by
  have e : (fun (vs : List V) (H1 : Hp) => sp (vs ++ []) H1 Q E) = fun vs H1 => sp vs H1 Q E := by funext vs H1; rw [List.append_nil]
  show tA σ H fun vs H1 => sp (vs ++ []) H1 Q E
  rw [e]; exact h
theorem w_CB {r : List V → Hp → VK → Prop} (h : tA σ H fun vs H1 => r vs H1 Q) : tCB r tA σ H Q := h
theorem w_prop {C : Addr} {sp : Sp} {E : XK} (h : ta σ H fun x H1 => ∃ a dx fs, x = .ref a ∧ H1 a = some (.ins C dx fs) ∧ sp (.ref a :: []) H1 Q E) : tProp C sp [] E ta σ H Q := h
theorem w_propL {C a dx : Addr} {fs : List (Str × V)} {q : Addr → Prop} (e : H a = some (.ins C dx fs)) (h : q a) : ∃ a' dx fs, V.ref a = .ref a' ∧ H a' = some (.ins C dx fs) ∧ q a' := ⟨a, dx, fs, rfl, e, h⟩
theorem w_fld {f : Str} (h : ta σ H fun x H1 => ∃ a C dx fs v, x = .ref a ∧ H1 a = some (.ins C dx fs) ∧ Cls K C ∧ NoAttr K C f ∧ fs.lookup f = some v ∧ Q v H1) : tFld K ta f σ H Q := h
theorem w_fldL {f : Str} {a C dx : Addr} {fs : List (Str × V)} {q : V → Prop} (e : H a = some (.ins C dx fs)) (c : Cls K C) (n : NoAttr K C f) (l : fs.lookup f = some v) (h : q v) :
    ∃ a' C dx fs v, V.ref a = .ref a' ∧ H a' = some (.ins C dx fs) ∧ Cls K C ∧ NoAttr K C f ∧ fs.lookup f = some v ∧ q v := ⟨a, C, dx, fs, v, rfl, e, c, n, l, h⟩
theorem w_meth {C : Addr} {m : Str} {sp : Sp} {E : XK} (h : ta σ H fun x H1 => ∃ a dx fs, x = .ref a ∧ H1 a = some (.ins C dx fs) ∧ fs.lookup m = none ∧ tA σ H1 fun vs H2 => sp (x :: vs) H2 Q E) : tMeth C m sp [] E ta tA σ H Q := by
  have e : ∀ x : V, (fun (vs : List V) (H1 : Hp) => sp (x :: (vs ++ [])) H1 Q E) = fun vs H1 => sp (x :: vs) H1 Q E := fun x => by funext vs H1; rw [List.append_nil]
  show ta σ H fun x H1 => ∃ a dx fs, x = .ref a ∧ H1 a = some (.ins C dx fs) ∧ fs.lookup m = none ∧ tA σ H1 fun vs H2 => sp (x :: (vs ++ [])) H2 Q E
  have e2 : (fun (x : V) (H1 : Hp) => ∃ a dx fs, x = .ref a ∧ H1 a = some (.ins C dx fs) ∧ fs.lookup m = none ∧ tA σ H1 fun vs H2 => sp (x :: (vs ++ [])) H2 Q E) = fun x H1 => ∃ a dx fs, x = .ref a ∧ H1 a = some (.ins C dx fs) ∧ fs.lookup m = none ∧ tA σ H1 fun vs H2 => sp (x :: vs) H2 Q E := by
    funext x H1; rw [e x]
  rw [e2]; exact h
theorem w_methL {C a dx : Addr} {m : Str} {fs : List (Str × V)} {q : Prop} (e : H a = some (.ins C dx fs)) (l : fs.lookup m = none) (h : q) : ∃ a' dx fs, V.ref a = .ref a' ∧ H a' = some (.ins C dx fs) ∧ fs.lookup m = none ∧ q := ⟨a, dx, fs, rfl, e, l, h⟩
theorem w_make {C : Addr} {sp : Sp} {E : XK} (h : tA σ H fun vs H1 => ∀ x dx, H1 x = none → H1 dx = none → dx ≠ x → sp (.ref x :: vs) (upd (upd H1 dx (.own x)) x (.ins C dx [])) (fun v H2 => v = .non ∧ Q (.ref x) H2) E) : tMake C sp [] E tA σ H Q := by
  have e : (fun (vs : List V) (H1 : Hp) => ∀ x dx, H1 x = none → H1 dx = none → dx ≠ x → sp (.ref x :: (vs ++ [])) (upd (upd H1 dx (.own x)) x (.ins C dx [])) (fun v H2 => v = .non ∧ Q (.ref x) H2) E) = fun vs H1 => ∀ x dx, H1 x = none → H1 dx = none → dx ≠ x → sp (.ref x :: vs) (upd (upd H1 dx (.own x)) x (.ins C dx [])) (fun v H2 => v = .non ∧ Q (.ref x) H2) E := by
    funext vs H1; rw [List.append_nil]
  show tA σ H _
  first
    | (rw [← e] at h; exact h)
    | exact h
theorem w_tup (h : tA σ H fun xs H1 => xs.length ≤ sizeLine ∧ ∀ p, H1 p = none → Q (.ref p) (upd H1 p (.tup xs))) : tTup tA σ H Q := h
theorem w_lst (h : tA σ H fun xs H1 => xs.length ≤ sizeLine ∧ ∀ p, H1 p = none → Q (.ref p) (upd H1 p (.lst xs))) : tLst tA σ H Q := h
theorem w_ixT {p : Addr} {xs : List V} {i : Int} (e : SqT K H p xs) (a : atI xs i = some v) (h : Q v H) : rIx K (.ref p) (.int i) H Q := .inr (.inl ⟨p, xs, i, v, rfl, rfl, e, a, h⟩)
theorem w_ixL {p : Addr} {xs : List V} {i : Int} (e : SqL K H p xs) (a : atI xs i = some v) (h : Q v H) : rIx K (.ref p) (.int i) H Q := .inl ⟨p, xs, i, v, rfl, rfl, e, a, h⟩
theorem w_ixTa {p : Addr} {xs : List V} {i : Int} (e : H p = some (.tup xs)) (a : atI xs i = some v) (h : Q v H) : rIx K (.ref p) (.int i) H Q := w_ixT (.inl (.inl e)) a h
theorem w_ixLa {p : Addr} {xs : List V} {i : Int} (e : H p = some (.lst xs)) (a : atI xs i = some v) (h : Q v H) : rIx K (.ref p) (.int i) H Q := w_ixL (.inl (.inl e)) a h
theorem w_I0 {f : Int → Int → V} {i j : Int} (h : Q (f i j) H) : rI0 f (.int i) (.int j) H Q := ⟨i, j, rfl, rfl, h⟩
theorem w_I {C : Int → Int → Prop} {f : Int → Int → V} {i j : Int} (c : C i j) (h : Q (f i j) H) : rI C f (.int i) (.int j) H Q := ⟨i, j, rfl, rfl, c, h⟩
theorem w_U {f : Int → V} {i : Int} (h : Q (f i) H) : rU f (.int i) H Q := ⟨i, rfl, h⟩
theorem w_addI {i j : Int} (h : Q (.int (i + j)) H) : rAddU (.int i) (.int j) H Q := .inl ⟨i, j, rfl, rfl, h⟩
theorem w_addS {i j : Str} (l : i.length + j.length ≤ sizeLine) (h : Q (.str (i ++ j)) H) : rAddU (.str i) (.str j) H Q := .inr (.inl ⟨i, j, rfl, rfl, l, h⟩)
theorem w_addL {a b : Addr} {xs zs : List V} (e1 : H a = some (.lst xs)) (e2 : H b = some (.lst zs)) (l : xs.length + zs.length ≤ sizeLine) (h : ∀ p, H p = none → Q (.ref p) (upd H p (.lst (xs ++ zs)))) : rAddU (.ref a) (.ref b) H Q := .inr (.inr ⟨a, b, xs, zs, rfl, rfl, e1, e2, l, h⟩)
theorem w_mulI {i j : Int} (c : CMul i j) (h : Q (.int (i * j)) H) : rMulU (.int i) (.int j) H Q := .inl ⟨i, j, rfl, rfl, c, h⟩
theorem w_mulL {a : Addr} {n : Int} {xs : List V} (e : H a = some (.lst xs)) (h0 : 0 ≤ n) (h1 : n ≤ 1000) (l : xs.length ≤ 1000) (h : ∀ p, H p = none → Q (.ref p) (upd H p (.lst (List.replicate n.toNat xs).flatten))) : rMulU (.ref a) (.int n) H Q :=
  .inr ⟨a, n, xs, rfl, rfl, e, by omega, by omega, Nat.le_trans (Nat.mul_le_mul l (show n.toNat ≤ 1000 by omega)) (by decide), h⟩
theorem w_eqI {i j : Int} (h : Q (.bl (decide (i = j))) H) : rEqU K (.int i) (.int j) H Q := .inl ⟨rfl, by rw [show decide (V.int i = V.int j) = decide (i = j) by simp]; exact h⟩
theorem w_eqS {i j : Str} (h : Q (.bl (decide (i = j))) H) : rEqU K (.str i) (.str j) H Q := .inl ⟨rfl, by rw [show decide (V.str i = V.str j) = decide (i = j) by simp]; exact h⟩
theorem w_neI {i j : Int} (h : Q (.bl (!decide (i = j))) H) : rNeU K (.int i) (.int j) H Q := .inl ⟨rfl, by rw [show decide (V.int i = V.int j) = decide (i = j) by simp]; exact h⟩
theorem w_neS {i j : Str} (h : Q (.bl (!decide (i = j))) H) : rNeU K (.str i) (.str j) H Q := .inl ⟨rfl, by rw [show decide (V.str i = V.str j) = decide (i = j) by simp]; exact h⟩
theorem w_eqD {x y : V} {d e : PyData} (hd : Dp K H x d) (he : Dp K H y e) (pd : d.plain = true) (pe : e.plain = true) (m : min d.depth e.depth ≤ 60) (h : Q (.bl (PyData.eqv d e)) H) : rEqU K x y H Q := .inr ⟨d, e, ⟨hd, he, pd, pe, m⟩, h⟩
theorem w_neD {x y : V} {d e : PyData} (hd : Dp K H x d) (he : Dp K H y e) (pd : d.plain = true) (pe : e.plain = true) (m : min d.depth e.depth ≤ 60) (h : Q (.bl (!PyData.eqv d e)) H) : rNeU K x y H Q := .inr ⟨d, e, ⟨hd, he, pd, pe, m⟩, h⟩
theorem w_lenL {p : Addr} {ys : List V} (e : H p = some (.lst ys)) (h : Q (.int ys.length) H) : rLenU K [.ref p] H Q := .inl ⟨p, ys, rfl, .inl (.inl (.inl e)), h⟩
theorem w_lenT {p : Addr} {ys : List V} (e : H p = some (.tup ys)) (h : Q (.int ys.length) H) : rLenU K [.ref p] H Q := .inl ⟨p, ys, rfl, .inr (.inl (.inl e)), h⟩
theorem w_lenSq {p : Addr} {ys : List V} (e : SqL K H p ys) (h : Q (.int ys.length) H) : rLenU K [.ref p] H Q := .inl ⟨p, ys, rfl, .inl e, h⟩
theorem w_lenS {z : Str} (l : z.length ≤ sizeLine) (h : Q (.int z.length) H) : rLenU K [.str z] H Q := .inr ⟨z, rfl, l, h⟩
theorem w_intI {i : Int} (h : Q (.int i) H) : rIntU [.int i] H Q := .inl (.inl ⟨i, rfl, h⟩)
theorem w_intB {b : Bool} (h : Q (.int (if b then 1 else 0)) H) : rIntU [.bl b] H Q := .inl (.inr ⟨b, rfl, h⟩)
theorem w_intS {a : Str} {n : Int} (e : PySem.intText? a = some n) (l : a.length ≤ 640) (h : Q (.int n) H) : rIntU [.str a] H Q := .inr ⟨a, n, rfl, e, l, h⟩
theorem w_strI {i : Int} (l : i.natAbs.log2 < 1920) (h : Q (.str (toString i)) H) : rStrU [.int i] H Q := .inl ⟨i, rfl, l, h⟩
theorem w_strS {a : Str} (h : Q (.str a) H) : rStrU [.str a] H Q := .inr ⟨a, rfl, h⟩
/-- a test told by its answer, the heap as it is -/
theorem w_ifb (b : Bool) (e : ∀ q : Bool → Hp → Prop, q b H → tt σ H q) (h1 : b = true → t D σ H) (h2 : b = false → u D σ H) : tIfS tt t u D σ H := e _ (by
  cases b with
  | true => exact h1 rfl
  | false => exact h2 rfl)
/-- .. the heap may have grown -/
theorem w_ifg (b : Bool) (e : ∀ q : Bool → Hp → Prop, (∀ H', Same H H' → q b H') → tt σ H q) (h1 : b = true → ∀ H', Same H H' → t D σ H') (h2 : b = false → ∀ H', Same H H' → u D σ H') : tIfS tt t u D σ H := e _ (fun H' s => by
  cases b with
  | true => exact h1 rfl H' s
  | false => exact h2 rfl H' s)
theorem w_retb (b : Bool) (e : ∀ q : VK, q (.bl b) H → te σ H q) (h : D.rt (.bl b) H) : tRet te D σ H := e _ h
theorem w_iteA {c1 c2 : Bool} {q : Bool → Hp → Prop} {R : Prop} (h : q (c1 && c2) H) (r : c1 = true → q c2 H → R) : if c1 = true then R else q false H := by
  cases c1 with
  | true => rw [if_pos rfl]; exact r rfl h
  | false => rw [if_neg Bool.false_ne_true]; exact h
theorem w_iteO {c1 c2 : Bool} {q : Bool → Hp → Prop} {R : Prop} (h : q (c1 || c2) H) (r : c1 = false → q c2 H → R) : if c1 = true then q true H else R := by
  cases c1 with
  | true => rw [if_pos rfl]; exact h
  | false => rw [if_neg Bool.false_ne_true]; exact r rfl h
theorem w_iteAT {c1 c2 : Bool} {q : Bool → Hp → Prop} {R : Prop} (h : q (c1 && c2) H) (r : c1 = true → q c2 H → R) : if c1 = true then R else ∃ k, V.bl false = .bl k ∧ q k H := by
  cases c1 with
  | true => rw [if_pos rfl]; exact r rfl h
  | false => rw [if_neg Bool.false_ne_true]; exact ⟨false, rfl, h⟩
theorem w_iteAV {c1 c2 : Bool} {R : Prop} (h : Q (.bl (c1 && c2)) H) (r : c1 = true → Q (.bl c2) H → R) : if c1 = true then R else Q (.bl false) H := by
  cases c1 with
  | true => rw [if_pos rfl]; exact r rfl h
  | false => rw [if_neg Bool.false_ne_true]; exact h
theorem w_iteOV {c1 c2 : Bool} {R : Prop} (h : Q (.bl (c1 || c2)) H) (r : c1 = false → Q (.bl c2) H → R) : if c1 = true then Q (.bl true) H else R := by
  cases c1 with
  | true => rw [if_pos rfl]; exact h
  | false => rw [if_neg Bool.false_ne_true]; exact r rfl h
theorem w_tt {p q : Prop} (h : p) : if true = true then p else q := by rw [if_pos rfl]; exact h
theorem w_ff {p q : Prop} (h : q) : if false = true then p else q := by rw [if_neg Bool.false_ne_true]; exact h
theorem w_nt {p q : Prop} (h : q) : if (!true) = true then p else q := h
theorem w_nf {p q : Prop} (h : p) : if (!false) = true then p else q := h
theorem w_ntt {p q : Prop} (h : q) : if (!(true && true)) = true then p else q := h
theorem w_att {p q : Prop} (h : p) : if (true && true) = true then p else q := h
theorem w_isN (h : Q (.bl (decide (v = .non))) H) : V.non = .non ∧ Q (.bl (decide (v = .non))) H := ⟨rfl, h⟩
theorem w_notN (h : Q (.bl (!decide (v = .non))) H) : V.non = .non ∧ Q (.bl (!decide (v = .non))) H := ⟨rfl, h⟩
end
/-- an int of a list by its place -/
def kat (ks : List Int) (i : Int) : Int := ks.getD i.toNat 0
theorem atI_kat {ks : List Int} {i : Int} (h0 : 0 ≤ i) (h1 : i < ks.length) : atI (ks.map V.int) i = some (.int (kat ks i)) := by
  obtain ⟨n, rfl⟩ := Int.eq_ofNat_of_zero_le h0
  refine atI_nat ?_
  have hn : n < ks.length := by omega
  rw [List.getElem?_map, List.getElem?_eq_getElem hn]
  simp [kat, List.getD_eq_getElem?_getD, List.getElem?_eq_getElem hn]
theorem atI_katLast {ks : List Int} (h1 : 0 < ks.length) : atI (ks.map V.int) (-1) = some (.int (kat ks ((ks.length : Int) - 1))) := by
  unfold atI ixN
  rw [if_neg (by decide), if_pos (by rw [List.length_map]; omega)]
  have e1 : (-1 + ((ks.map V.int).length : Int)).toNat = ks.length - 1 := by rw [List.length_map]; omega
  have e2 : ((ks.length : Int) - 1).toNat = ks.length - 1 := by omega
  have hn : ks.length - 1 < ks.length := by omega
  simp only [e1, Option.bind_some, List.getElem?_map, List.getElem?_eq_getElem hn, kat, e2, List.getD_eq_getElem?_getD, Option.map_some, Option.getD_some]
/-! ### defs of the top, their promises -/
def FnAt (K : Frag) (mg : Str → Option Value) (x : Str) (st : Stmt) : Prop := ∃ (f : Addr) (fd : FuncData), FunD K x x (defArgs st) (defBody st) (defScope st) [] [] f fd ∧ mg x = some (.ref f)
def MtAt (K : Frag) (C : Addr) (m qual : Str) (st : Stmt) : Prop := ∃ (f : Addr) (fd : FuncData), FunD K m qual (defArgs st) (defBody st) (defScope st) [] [] f fd ∧ Meth K C m f
def PrAt (K : Frag) (C : Addr) (m qual : Str) (st : Stmt) : Prop := ∃ (p f : Addr) (fd : FuncData), FunD K m qual (defArgs st) (defBody st) (defScope st) [] [] f fd ∧ PropOf K C m p f
def InAt (K : Frag) (mg : Str → Option Value) (x qual : Str) (st : Stmt) : Prop := ∃ (f : Addr) (fd : FuncData), FunD K "__init__" qual (defArgs st) (defBody st) (defScope st) [] [] f fd ∧ Mk K (He.ga K x) f ∧ mg x = some (.ref (He.ga K x))
/-- how a def without defaults binds -/
def BindP (x qual : Str) (st : Stmt) (ps : List Str) : Prop := ∀ (kV doc pm : Value) (an : Option Addr) (cdv ct : Value) (us : List Value), us.length = ps.length →
  bindArgs (PySem.W.fnOf x qual (defArgs st) (defBody st) (defScope st) .none kV doc pm an cdv ct) ⟨us, []⟩ = pure (ps.zip us)
/-- the body keeps the promise -/
def BodyOk (P : Program) (w : World) (K : Frag) (mg : Str → Option Value) (base : Heap) (N : List Str) (qual : Str) (st : Stmt) (k : Nat) (sp : Sp) : Prop :=
  ∀ (f : Addr) (cdv : Value) (A : Around) (outer : List Env) (s : Shared) (H : Hp) (vs : List V) (Q : VK) (E : XK), Room k (A.deeper (PyProof.Rows.envOfC qual (defScope st) s.heap.objs.size f cdv)) → sp vs H Q E →
    ∃ t, PSs (cxOf (L2N.CX P w) P w K mg base N qual (defScope st) f cdv A outer s H E) (defBody st) t ∧ t { nx := fun _ H' => Q .non H', rt := Q } (L2.start N vs) H
section
variable {P : Program} {w : World} {K : Frag} {mg : Str → Option Value} {base : Heap} {x m qual : Str} {st : Stmt} {N ps : List Str} {k : Nat} {sp : Sp} {C : Addr}
theorem own_of (F : FnAt K mg x st) (S : FnScope N ps (defScope st)) (b : BindP x x st ps) (len : ∀ vs H Q E, sp vs H Q E → vs.length = ps.length) (body : BodyOk P w K mg base N x st k sp) : Own P w K mg base x (k + 1) ps sp := by
  obtain ⟨f, fd, F, hm⟩ := F
  exact ⟨f, fd, F.ok S len fun cdv A outer s H vs Q E hr h => body f cdv A outer s H vs Q E hr h, hm, F.kp, F.bindsN b⟩
theorem own_ofM (F : MtAt K C m qual st) (S : FnScope N ps (defScope st)) (b : BindP m qual st ps) (len : ∀ vs H Q E, sp vs H Q E → vs.length = ps.length) (body : BodyOk P w K mg base N qual st k sp) : OwnM P w K mg base C m (k + 1) ps sp := by
  obtain ⟨f, fd, F, hm⟩ := F
  exact ⟨f, fd, F.ok S len fun cdv A outer s H vs Q E hr h => body f cdv A outer s H vs Q E hr h, hm, F.bindsN b⟩
theorem own_ofP (F : PrAt K C m qual st) (S : FnScope N ["self"] (defScope st)) (b : BindP m qual st ["self"]) (len : ∀ vs H Q E, sp vs H Q E → vs.length = 1) (body : BodyOk P w K mg base N qual st k sp) : OwnP P w K mg base C m (k + 1) sp := by
  obtain ⟨p, f, fd, F, hm⟩ := F
  exact ⟨p, f, fd, F.ok S len fun cdv A outer s H vs Q E hr h => body f cdv A outer s H vs Q E hr h, hm, F.bindsN b⟩
theorem own_ofC (F : InAt K mg x qual st) (S : FnScope N ps (defScope st)) (b : BindP "__init__" qual st ps) (len : ∀ vs H Q E, sp vs H Q E → vs.length = ps.length) (body : BodyOk P w K mg base N qual st k sp) : OwnC P w K mg base (He.ga K x) x (k + 1) ps sp := by
  obtain ⟨f, fd, F, hM, hm⟩ := F
  exact ⟨f, fd, F.ok S len fun cdv A outer s H vs Q E hr h => body f cdv A outer s H vs Q E hr h, hM, hm, F.bindsN b⟩
end
end Bt

set_option Elab.async false
set_option linter.all false
set_option maxRecDepth 100000
set_option maxHeartbeats 4000000
/-! rules that the layer lacks: enumerate of a tuple -/
namespace Bt
open PySem PySem.Spec PyProof.Rows L2
open PySem.AutoSeq1 (wpAny_loadPart')
set_option maxHeartbeats 2000000 in
theorem enumT_new (l : Addr) (items : Array Value) (n : Nat) (dct : Option Addr) (sl : Array (Option Value)) :
    Meets (Builtin.«enumerate.__new__» ⟨[.type "enumerate", .ref l], []⟩) (fun _ R s => s.heap.get? l = some { cls := .type "tuple", dict := dct, data := .seq items n, slots := sl } ∧
      R (.ok (.ret (.ref (s.heap.push { cls := .type "tuple_iterator", data := .fields #[.ref l, .int 0 0] }).objs.size)))
        { s with heap := (s.heap.push { cls := .type "tuple_iterator", data := .fields #[.ref l, .int 0 0] }).push { cls := .type "enumerate", data := .fields #[.none, .bool false, .ref s.heap.objs.size, rawInt 0, .none, .none] } }) :=
  .of_wp fun prog w A R s h => by
    obtain ⟨hp, g, d, tk, os⟩ := s
    obtain ⟨hl, h⟩ := h
    have hsub := sub_enumerate
    have hT : Heap.IsTuple (Shared.heap ⟨hp, g, d, tk, os⟩) l items := ⟨_, hl, rfl, n, rfl⟩
    wp_walk using wpAny_loadPart' hl
    refine wpAny_stack_any fun st => wpAny_pure ?_
    split
    · rename_i c _ _ _ _ _
      cases (c == Value.type "enumerate") <;> (wp_walk using wpAny_loadPart' hl, wpAny_pyIter_tuple hT; exact ⟨_, rfl, h⟩)
    · (wp_walk using wpAny_loadPart' hl, wpAny_pyIter_tuple hT; exact ⟨_, rfl, h⟩)
section
variable {prog : Program} {w : World} {A : Around} {E : Value → Shared → Prop} {s : Shared}
theorem call_enumT {l : Addr} {items : Array Value} {Q : Value → Shared → Prop} (hL : s.heap.IsTuple l items)
    (h : ∀ h', IsEnum h' (s.heap.objs.size + 1) s.heap.objs.size 0 .none → h'.IsTupleIter s.heap.objs.size l 0 → h'.objs.size = s.heap.objs.size + 2 →
      (∀ b o, s.heap.get? b = some o → h'.get? b = some o) → Q (.ref (s.heap.objs.size + 1)) { s with heap := h' }) :
    wpAny (model prog w) A (call (.type "enumerate") [.ref l]) Q E s := by
  obtain ⟨⟨c, dct, dt, sl⟩, hl, hc, n, hd⟩ := hL
  obtain rfl : c = .type "tuple" := hc
  obtain rfl : dt = .seq items n := hd
  refine callType_new F.called_enumerate (by decide) (F.typeCall_enumerate_1 _) (F.newCall_enumerate_1 _) (fun obj => F.args_object_init_2 obj _) F.entry_enumerate_new (enumT_new l items n dct sl) ⟨hl, ?_⟩
  have hz : (s.heap.push { cls := .type "tuple_iterator", data := .fields #[.ref l, .int 0 0] }).objs.size = s.heap.objs.size + 1 := Heap.size_push ..
  show _ ∧ _
  rw [hz]
  have he : IsEnum ((s.heap.push { cls := .type "tuple_iterator", data := .fields #[.ref l, .int 0 0] }).push
      { cls := .type "enumerate", data := .fields #[.none, .bool false, .ref s.heap.objs.size, rawInt 0, .none, .none] }) (s.heap.objs.size + 1) s.heap.objs.size 0 .none := by
    have z := Heap.get?_push_size (s.heap.push { cls := .type "tuple_iterator", data := .fields #[.ref l, .int 0 0] }) (o := { cls := .type "enumerate", data := .fields #[.none, .bool false, .ref s.heap.objs.size, rawInt 0, .none, .none] }) rfl
    rw [hz] at z; exact z
  exact ⟨⟨_, he, rfl⟩, h _ he ⟨_, Heap.get?_push_of_some _ (Heap.get?_push_size _ rfl), rfl, rfl⟩ (by rw [Heap.size_push, hz]) fun b o x => Heap.get?_push_of_some _ (Heap.get?_push_of_some _ x)⟩
end
theorem enumT_end {prog : Program} {w : World} {A : Around} {E : Value → Shared → Prop} {s : Shared} {e it l : Addr} {i : Nat} {items : Array Value} {old : Value} {Q : Option Value → Shared → Prop} (hh : A.handled = none)
    (he : IsEnum s.heap e it i old) (hit : s.heap.IsTupleIter it l i) (hl : s.heap.IsTuple l items) (hx : items[i]? = none) (hQ : ∀ h', Heap.ExtBut it s.heap h' → Q none { s with heap := h' }) : wpAny (model prog w) A (pyNext (.ref e)) Q E s := by
  have hT : s.TypeIs (.ref e) "enumerate" := ⟨_, he, rfl⟩
  unfold pyNext
  refine wpAny_bind (wpAny_attempt (wpAny_callSpecial?_slot (name := Str.ofString "__next__") hT F.slot_enumerate_next (wpAny_call_entry F.slot_enumerate_next hT F.entry_enumerate_next ?_ (F.args_enumerate_next_1 _))))
  show wpAny _ _ (field (.ref e) 2 >>= _) _ _ _
  refine wpAny_bind (wpAny_field he rfl (x := .ref it) rfl (wpAny_bind (wpAny_nextOf_tuple_end (show A.in1.handled = none from hh) hit hl hx fun h' x he' hx' => ?_)))
  obtain ⟨o, ho, hc⟩ := hx'
  exact wpAny_bind (wpAny_isInstance (T := "StopIteration") (b := true) ⟨o, ho, hc⟩ isSubtype_stop (wpAny_pure (hQ _ he')))
/-- the tuple at a, each item in a new pair -/
def IteT (K : Frag) (a : Addr) : It :=
  ⟨fun i H => ∃ (xs : List V) (x : V), SqT K H a xs ∧ xs[i]? = some x, fun i H v H' => ∃ T x, v = .ref T ∧ H T = none ∧ H' = upd H T (.tup [.int (i : Nat), x]) ∧ ∀ xs, SqT K H a xs → xs[i]? = some x, fun i H => ∃ xs : List V, SqT K H a xs ∧ xs.length ≤ i⟩
/-- the items of the tuple at a in the state's heap -/
theorem turn_enumT {P : Program} {w : World} {K : Frag} {elts : List Expr} {kk : Nat} {tpos : Pos} (a e it : Addr) :
    Turn P w K (.Tuple elts kk tpos) (IteT K a) [e, it] e (fun i h => (∃ old, IsEnum h e it ((i : Nat) : Int) old) ∧ h.IsTupleIter it a i ∧ e ≠ it ∧ e ≠ a ∧ it ≠ a) where
  mem := by simp
  obj := fun i h st b hb => by
    obtain ⟨⟨old, he⟩, ⟨o, ho, hc, hd⟩, _⟩ := st
    rcases (by simpa using hb : b = e ∨ b = it) with z | z
    · rw [z]; exact ⟨_, he, fun v q => nomatch q⟩
    · rw [z]; exact ⟨o, ho, fun v q => by rw [hd] at q; cases q⟩
  keep := fun i h h' st k => let ⟨⟨old, he⟩, ⟨o, ho, hc, hd⟩, hne⟩ := st; ⟨⟨old, k e (by simp) _ he⟩, ⟨o, k it (by simp) o ho, hc, hd⟩, hne⟩
  item := by
    intro X hP hw hK hc i pins s σ H E I hf st hg
    subst hP hw hK
    obtain ⟨⟨old, he⟩, hit, hne, hea, hia⟩ := st
    obtain ⟨xs, x, hq, hx⟩ := hg
    obtain ⟨its, rv, p, hz⟩ := I.tuple hq
    have ht : s.heap.IsTuple a its.toArray := p
    have hlen : i < its.toArray.size := by
      have q := (List.getElem?_eq_some_iff.mp hx).1
      have q2 := rv.length
      simp only [List.size_toArray]; omega
    have hel : e < s.heap.objs.size := Heap.lt_size he
    have hil : it < s.heap.objs.size := by obtain ⟨_, q, _⟩ := hit; exact Heap.lt_size q
    refine wpAny_pyNext_enum_itemD (Draws.tuple (A := X.A.in1) (I.ok.hd hc) it a (Ne.symm hia) its.toArray) he ⟨hit, ht⟩ hlen hne (by simp [hne, hea]) fun u h' tk hPx ho hit' hT hsz hk => ?_
    obtain ⟨u', hu', ru⟩ := rv.get hx
    have eu : u' = u := Option.some.inj (hu'.symm.trans (by simpa using hPx))
    subst eu
    refine ⟨_, rfl, wpAny_letOwnedTupleGo_enum (s := { s with heap := h', toks := tk + 1 }) ho fun h'' he' sb => ?_⟩
    have hT2 : h''.get? s.heap.objs.size = some { cls := .type "tuple", data := .seq #[.int i tk, u'] } := (sb.2 _ (Nat.ne_of_gt hel)).trans hT
    have new : ObjOk X.prog X.w (upd H s.heap.objs.size (.tup [.int (i : Nat), x])) h'' s.heap.objs.size (.tup [.int (i : Nat), x]) :=
      ⟨by show 2 ≤ sizeLine; decide, [.int i tk, u'], .cons ⟨_, rfl⟩ (.cons ru .nil), ⟨_, hT2, rfl, _, rfl⟩⟩
    have I1 : Inv X pins σ (upd H s.heap.objs.size (.tup [.int (i : Nat), x])) { s with heap := h'', toks := tk + 1 } :=
      I.turnedNew (ch := [e, it]) (fun b ob hb q => (sb.2 b (fun z => hb (by simp [z]))).trans (hk b ob (fun z => hb (by simp [z])) (fun z => hb (by simp [z])) q)) hf (Nat.le_refl _) new
    refine ⟨.ref s.heap.objs.size, _, I1, rfl, ⟨_, x, rfl, I.hok.fresh (Nat.le_refl _), rfl, fun ys hy => by rw [I.tuple_inj hy hq]; exact hx⟩, ⟨⟨u', ?_⟩, ?_, hne, hea, hia⟩, fun b hb => ?_⟩
    · have e1 : ((i + 1 : Nat) : Int) = (i : Int) + 1 := by omega
      rw [e1]; exact he'
    · obtain ⟨o, ho1, hc1, hd1⟩ := hit'.1
      exact ⟨o, (sb.2 it (Ne.symm hne)).trans ho1, hc1, hd1⟩
    · have hb' : b < s.heap.objs.size := by
        rcases (by simpa using hb : b = e ∨ b = it) with z | z
        · rw [z]; exact hel
        · rw [z]; exact hil
      rw [upd_ne (Nat.ne_of_lt hb')]
      exact (hf b hb).1
  done := by
    intro X hP hw hK hc i pins s σ H E I hf st hg
    subst hP hw hK
    obtain ⟨⟨old, he⟩, hit, hne, hea, hia⟩ := st
    obtain ⟨xs, hq, hx⟩ := hg
    obtain ⟨its, rv, p, hz⟩ := I.tuple hq
    obtain ⟨f0, f1, f2, f3, f4, f5⟩ := hf it (by simp)
    have hl := rv.length
    exact enumT_end (I.ok.hd hc) he hit (show s.heap.IsTuple a its.toArray from p) (by simp; omega) fun h' eb => ⟨rfl, I.turned (t' := s.toks) (fun b o hb q => eb b o hb q) f0 f1 f3 f4 f5⟩
  self := fun A i s Q E st h => let ⟨⟨_, he⟩, _⟩ := st; wpAny_pyIter_enum he h
def iEnumT (K : Frag) (ta : TA) : TI := fun σ H R => ta σ H fun vs H1 => ∃ a xs, vs = [.ref a] ∧ SqT K H1 a xs ∧ R (IteT K a) H1
theorem pi_enumT {X : Cx} {e : Expr} {ta : TA} {p pos tpos : Pos} {elts : List Expr} {kk : Nat} (hg : Gl X "enumerate") (hm : X.mg "enumerate" = none) (ha : PA X [e] ta) (hs : starEach [e] X.env = [(false, eval e X.env)] := by rfl) :
    PI X (.Tuple elts kk tpos) (.Call (.Name "enumerate" p) [e] [] pos) (iEnumT X.K ta) := by
  refine ⟨fun pins s σ H R I h => Call_ (ld_blt I hg hm boot_enumerate (PyProof.Rows.callWith_type1 (thn (ha.run pos pins s σ H _ I h) fun us s1 ⟨vs, H1, I1, r1, q1⟩ => ?_) hs rfl))⟩
  obtain ⟨a, xs, ex, hq, q⟩ := q1
  subst ex
  cases r1 with
  | cons r rr =>
    cases rr
    cases r
    obtain ⟨its, rv, p', hz⟩ := I1.tuple hq
    have hat : a < s1.heap.objs.size := by obtain ⟨o, e1, _⟩ := p'; exact Heap.lt_size e1
    refine call_enumT (show s1.heap.IsTuple a its.toArray from p') fun h' he hit hsz hk => wpAny_pyIter_enum he ?_
    have I2 : Inv X pins σ H1 { s1 with heap := h' } := I1.kept (t' := s1.toks) hk
    refine ⟨s1.heap.objs.size + 1, [s1.heap.objs.size + 1, s1.heap.objs.size], _, _, H1, rfl, I2, turn_enumT a (s1.heap.objs.size + 1) s1.heap.objs.size, ⟨⟨.none, he⟩, hit, Nat.succ_ne_self _, Nat.ne_of_gt (Nat.lt_succ_of_lt hat), Nat.ne_of_gt hat⟩, fun b hb => ?_, q⟩
    have hle : s1.heap.objs.size ≤ b := by
      rcases (by simpa using hb : b = s1.heap.objs.size + 1 ∨ b = s1.heap.objs.size) with z | z
      · rw [z]; exact Nat.le_add_right _ _
      · rw [z]; exact Nat.le_refl _
    exact I1.fpOk hle (I1.hok.fresh hle)
/-- a for over enumerate of a tuple that stands still -/
theorem for_enumT {K : Frag} {a : Addr} {xs : List V} {g : TG} {tb : TS} {D : Ends} {σ : L2.St} {H : Hp} (Pv : Nat → L2.St → Hp → Prop) (h0 : Pv 0 σ H) (hl : ∀ i σ H, i ≤ xs.length → Pv i σ H → SqT K H a xs)
    (hs : ∀ (i : Nat) x σ H T, xs[i]? = some x → Pv i σ H → H T = none → g (.ref T) σ (upd H T (.tup [.int (i : Nat), x])) fun σ2 H2 => tb { D with nx := Pv (i + 1), ct := Pv (i + 1), bk := D.nx } σ2 H2) (hd : ∀ σ H, Pv xs.length σ H → D.nx σ H) :
    ∃ W : Nat → Nat → L2.St → Hp → Prop, (∃ m, W 0 m σ H) ∧ ∀ i m σ H, W i m σ H →
      ((IteT K a).stop i H ∧ D.nx σ H) ∨ ((IteT K a).go i H ∧ ∃ N : L2.St → Hp → Prop, (∀ σ' H', N σ' H' → ∃ m', m' < m ∧ W (i + 1) m' σ' H') ∧ ∀ x H', (IteT K a).yld i H x H' → g x σ H' fun σ2 H2 => tb { D with nx := N, ct := N, bk := D.nx } σ2 H2) := by
  refine ⟨fun i m σ H => m = xs.length - i ∧ i ≤ xs.length ∧ Pv i σ H, ⟨xs.length, by simp, Nat.zero_le _, h0⟩, fun i m σ H ⟨em, hi, p⟩ => ?_⟩
  subst em
  have q := hl i σ H hi p
  by_cases hlt : i < xs.length
  · refine .inr ⟨⟨xs, xs[i], q, by simp [hlt]⟩, Pv (i + 1), fun σ' H' p' => ⟨xs.length - (i + 1), by omega, rfl, hlt, p'⟩, fun v H' y => ?_⟩
    obtain ⟨T, x, ev, hT, eH, hx⟩ := y
    subst ev eH
    exact hs i x σ H T (hx xs q) p hT
  · have e : i = xs.length := by omega
    subst e
    exact .inl ⟨⟨xs, q, Nat.le_refl _⟩, hd σ H p⟩
end Bt

set_option Elab.async false
set_option linter.all false
set_option maxRecDepth 100000
set_option maxHeartbeats 4000000
/-! steps for loops and comprehensions -/
namespace Bt
open PySem L2
/-- what is left of a comprehension's reading once its source is known -/
def lcB (g : TG) (tt : TT) (te : TE) (vs : List Nat) (σ : L2.St) (Q : VK) (J : It) (H1 : Hp) : Prop := ∀ D, H1 D = none → ∃ W : Nat → Nat → Hp → Prop, (∃ m, W 0 m (upd H1 D (.lst []))) ∧ ∀ i m H, W i m H →
  (J.stop i H ∧ Q (.ref D) H) ∨ (J.go i H ∧ ∃ Nx : Hp → Prop, (∀ H', Nx H' → ∃ m', m' < m ∧ W (i + 1) m' H') ∧ ∀ x H', J.yld i H x H' → g x (wipe σ vs) H' fun σ2 H2 => wipe σ2 vs = wipe σ vs ∧ tt σ2 H2 fun b H3 =>
    if b = true then te σ2 H3 fun y H4 => ∃ acc, H4 D = some (.lst acc) ∧ acc.length < sizeLine ∧ Nx (upd H4 D (.lst (acc ++ [y]))) else Nx H3)
def forB (g : TG) (tb : TS) (D : Ends) (σ : L2.St) (J : It) (H1 : Hp) : Prop := ∃ W : Nat → Nat → L2.St → Hp → Prop, (∃ m, W 0 m σ H1) ∧ ∀ i m σ H, W i m σ H →
  (J.stop i H ∧ D.nx σ H) ∨ (J.go i H ∧ ∃ N : L2.St → Hp → Prop, (∀ σ' H', N σ' H' → ∃ m', m' < m ∧ W (i + 1) m' σ' H') ∧ ∀ x H', J.yld i H x H' → g x σ H' fun σ2 H2 => tb { D with nx := N, ct := N, bk := D.nx } σ2 H2)
/-- all but the lists that stood stands -/
def SameNL (H H' : Hp) : Prop := ∀ b o, (∀ xs, o ≠ .lst xs) → H b = some o → H' b = some o
theorem Same.nl {H H' : Hp} (s : Same H H') : SameNL H H' := fun b o _ e => s b o e
/-- the iterator yields these, one after another, wherever H stands -/
structure YL (J : It) (xs : List V) (H : Hp) : Prop where
  go : ∀ i H', Same H H' → i < xs.length → J.go i H'
  yl : ∀ i H' x H2, Same H H' → i < xs.length → J.yld i H' x H2 → H2 = H' ∧ xs[i]? = some x
  st : ∀ i H', Same H H' → xs.length ≤ i → J.stop i H'
theorem paired_snoc {α β : Type} {F : α → β → Prop} {a : α} {b : β} : ∀ {l : List α} {k : List β}, Paired F l k → F a b → Paired F (l ++ [a]) (k ++ [b])
  | _, _, .nil, r => .cons r .nil
  | _, _, .cons q t, r => .cons q (paired_snoc t r)
section
variable {K : Frag} {σ : L2.St} {H : Hp} {Q : VK} {D : Ends} {te : TE} {tt : TT} {tb : TS} {g : TG} {vs : List Nat} {wi : TI} {J : It} {xs : List V} {v : V}
theorem w_lc (h : wi σ H fun J H1 => lcB g tt te vs σ Q J H1) : tLc wi g tt te vs σ H Q := h
theorem w_for (h : wi σ H fun J H1 => forB g tb D σ J H1) : tFor wi g tb D σ H := h
theorem yl_list {a : Addr} (h : SqL K H a xs) (un : ∀ H' ys, Same H H' → SqL K H' a ys → ys = xs) : YL (Itl K a) xs H where
  go := fun i H' s hi => ⟨xs, xs[i], s.seq h, by simp [hi]⟩
  yl := fun i H' x H2 s _ y => ⟨y.1, y.2 xs (s.seq h)⟩
  st := fun i H' s hi => ⟨xs, s.seq h, hi⟩
theorem yl_lst {a : Addr} (h : H a = some (.lst xs)) : YL (Itl K a) xs H where
  go := fun i H' s hi => ⟨xs, xs[i], SqL.of (s a _ h), by simp [hi]⟩
  yl := fun i H' x H2 s _ y => ⟨y.1, y.2 xs (SqL.of (s a _ h))⟩
  st := fun i H' s hi => ⟨xs, SqL.of (s a _ h), hi⟩
theorem yl_tup {a : Addr} (h : H a = some (.tup xs)) : YL (Itt K a) xs H where
  go := fun i H' s hi => ⟨xs, xs[i], SqT.of (s a _ h), by simp [hi]⟩
  yl := fun i H' x H2 s _ y => ⟨y.1, y.2 xs (SqT.of (s a _ h))⟩
  st := fun i H' s hi => ⟨xs, SqT.of (s a _ h), hi⟩
theorem yl_range (n : Nat) : YL (Itr 0 n) ((List.range n).map fun i => V.int (i : Nat)) H where
  go := fun i H' s hi => (show i < n by simpa using hi)
  yl := fun i H' x H2 s hi y => ⟨y.1, by obtain ⟨_, ev⟩ := y; subst ev; simp at hi; simp [hi]⟩
  st := fun i H' s hi => (show n ≤ i by simpa using hi)
theorem yl_str (z : Str) : YL (Its z) (z.cps.toList.map fun c => V.str ⟨#[c]⟩) H where
  go := fun i H' s hi => (show i < z.cps.size by simpa using hi)
  yl := fun i H' x H2 s _ y => ⟨y.1, by obtain ⟨_, c, e, ev⟩ := y; subst ev; rw [List.getElem?_map, Array.getElem?_toList, e]; rfl⟩
  st := fun i H' s hi => (show z.cps.size ≤ i by simpa using hi)
theorem yl_keys {d : Addr} {o : Obj} {kvs : List (Key × V)} (h : H d = some (.frz o (.dK kvs))) : YL (Itk d o kvs) (kvs.map fun kv => kV kv.1) H where
  go := fun i H' s hi => ⟨s d _ h, by simpa using hi⟩
  yl := fun i H' x H2 s _ y => ⟨y.1, by obtain ⟨_, k, v, e, ev⟩ := y; subst ev; rw [List.getElem?_map, e]; rfl⟩
  st := fun i H' s hi => ⟨s d _ h, by simpa using hi⟩
/-- a comprehension whose elements are told by a relation -/
theorem w_lcR {j : Nat} (Y : YL J xs H) (f : V → Bool) (R : V → V → Hp → Prop) (mono : ∀ x y H1 H2, SameNL H1 H2 → R x y H1 → R x y H2) (hz : xs.length < 100000) (hw : ∀ x, wipe ((wipe σ vs).set j (some x)) vs = wipe σ vs)
    (ht : ∀ x ∈ xs, ∀ H', Same H H' → ∀ q : Bool → Hp → Prop, (∀ H2, Same H' H2 → q (f x) H2) → tt ((wipe σ vs).set j (some x)) H' q)
    (he : ∀ x ∈ xs, f x = true → ∀ H', Same H H' → ∀ q : VK, (∀ y H2, Same H' H2 → R x y H2 → q y H2) → te ((wipe σ vs).set j (some x)) H' q)
    (h : ∀ p H' ys, H p = none → Same H H' → H' p = some (.lst ys) → Paired (fun x y => R x y H') (xs.filter f) ys → Q (.ref p) H') : lcB (gName j) tt te vs σ Q J H := by
  intro D hD
  refine ⟨fun i m H' => m = xs.length - i ∧ i ≤ xs.length ∧ Same H H' ∧ ∃ ys, H' D = some (.lst ys) ∧ ys.length ≤ i ∧ Paired (fun x y => R x y H') ((xs.take i).filter f) ys, ⟨xs.length, by simp, Nat.zero_le _, same_new hD (Same.refl _), [], upd_same, Nat.le_refl _, by simp; exact .nil⟩, fun i m H' ⟨em, hi, s, ys, hy, hl, hp⟩ => ?_⟩
  subst em
  by_cases hlt : i < xs.length
  · refine .inr ⟨Y.go i H' s hlt, fun H2 => i + 1 ≤ xs.length ∧ Same H H2 ∧ ∃ ys, H2 D = some (.lst ys) ∧ ys.length ≤ i + 1 ∧ Paired (fun x y => R x y H2) ((xs.take (i + 1)).filter f) ys, fun H2 q => ⟨xs.length - (i + 1), by omega, rfl, q⟩, fun x H2 y => ?_⟩
    obtain ⟨e, hx⟩ := Y.yl i H' x H2 s hlt y
    subst e
    have hm : x ∈ xs := List.mem_of_getElem? hx
    have et : xs.take (i + 1) = xs.take i ++ [x] := by rw [List.take_add_one, hx]; rfl
    refine ⟨hw x, ht x hm H2 s _ fun H3 s3 => ?_⟩
    have pm : ∀ {H4}, Same H2 H4 → Paired (fun x y => R x y H4) ((xs.take i).filter f) ys := fun {H4} s4 => Paired.mapP hp fun a b r => mono a b _ _ (Same.nl s4) r
    cases hf : f x with
    | false =>
      show if false = true then _ else _
      rw [if_neg Bool.false_ne_true]
      refine ⟨hlt, s.trans s3, ys, s3 _ _ hy, by omega, ?_⟩
      rw [et, List.filter_append]
      simp only [List.filter_cons, hf, List.filter_nil]
      simpa using pm s3
    | true =>
      show if true = true then _ else _
      rw [if_pos rfl]
      refine he x hm hf H3 (s.trans s3) _ fun y H4 s4 r => ?_
      have hD4 : H4 D = some (.lst ys) := s4 _ _ (s3 _ _ hy)
      have s5 : ∀ {a o}, a ≠ D → H4 a = some o → upd H4 D (.lst (ys ++ [y])) a = some o := fun n e => at_mut n e
      refine ⟨ys, hD4, by rw [sizeLine_eq]; omega, hlt, fun a o e => s5 (ne_of_none e hD) (s4 _ _ (s3 _ _ (s _ _ e))), ys ++ [y], upd_same, by simp; omega, ?_⟩
      have s6 : SameNL H4 (upd H4 D (.lst (ys ++ [y]))) := fun a o n e => s5 (fun z => n ys (Option.some.inj (e.symm.trans (by rw [z]; exact hD4)))) e
      rw [et, List.filter_append]
      simp only [List.filter_cons, hf, List.filter_nil]
      exact paired_snoc (Paired.mapP (pm (s3.trans s4)) fun a b r => mono a b _ _ s6 r) (mono x y _ _ s6 r)
  · have e : i = xs.length := by omega
    subst e
    exact .inl ⟨Y.st _ H' s (Nat.le_refl _), h D H' ys hD s hy (by simpa using hp)⟩
/-- a comprehension whose state is told by a relation of its own -/
theorem w_lcG {j : Nat} (Y : YL J xs H) (Acc : Addr → Nat → List V → Hp → Prop) (hz : xs.length < 100000) (hw : ∀ x, wipe ((wipe σ vs).set j (some x)) vs = wipe σ vs)
    (h0 : ∀ D, H D = none → Acc D 0 [] (upd H D (.lst [])))
    (hs : ∀ D, H D = none → ∀ i x ys H', xs[i]? = some x → Same H H' → H' D = some (.lst ys) → Acc D i ys H' → ∀ q : VK, (∀ y H2, Same H' H2 → Acc D (i + 1) (ys ++ [y]) (upd H2 D (.lst (ys ++ [y]))) → q y H2) → te ((wipe σ vs).set j (some x)) H' q)
    (h : ∀ D H' ys, H D = none → Same H H' → H' D = some (.lst ys) → Acc D xs.length ys H' → Q (.ref D) H') : lcB (gName j) tYes te vs σ Q J H := by
  intro D hD
  refine ⟨fun i m H' => m = xs.length - i ∧ i ≤ xs.length ∧ Same H H' ∧ ∃ ys, H' D = some (.lst ys) ∧ ys.length = i ∧ Acc D i ys H', ⟨xs.length, by simp, Nat.zero_le _, same_new hD (Same.refl _), [], upd_same, rfl, h0 D hD⟩, fun i m H' ⟨em, hi, s, ys, hy, hl, hp⟩ => ?_⟩
  subst em
  by_cases hlt : i < xs.length
  · refine .inr ⟨Y.go i H' s hlt, fun H2 => i + 1 ≤ xs.length ∧ Same H H2 ∧ ∃ ys, H2 D = some (.lst ys) ∧ ys.length = i + 1 ∧ Acc D (i + 1) ys H2, fun H2 q => ⟨xs.length - (i + 1), by omega, rfl, q⟩, fun x H2 y => ?_⟩
    obtain ⟨e, hx⟩ := Y.yl i H' x H2 s hlt y
    subst e
    refine ⟨hw x, ?_⟩
    dsimp only [tYes]
    rw [if_pos rfl]
    refine hs D hD i x ys H2 hx s hy hp _ fun y H4 s4 r => ?_
    have hD4 : H4 D = some (.lst ys) := s4 _ _ hy
    exact ⟨ys, hD4, by rw [sizeLine_eq]; omega, hlt, fun a o e => at_mut (ne_of_none e hD) (s4 _ _ (s _ _ e)), ys ++ [y], upd_same, by simp; omega, r⟩
  · have e : i = xs.length := by omega
    subst e
    exact .inl ⟨Y.st _ H' s (Nat.le_refl _), h D H' ys hD s hy hp⟩
/-- .. by a function -/
theorem w_lcP {j : Nat} (Y : YL J xs H) (f : V → Bool) (v : V → V) (hz : xs.length < 100000) (hw : ∀ x, wipe ((wipe σ vs).set j (some x)) vs = wipe σ vs)
    (ht : ∀ x ∈ xs, ∀ H', Same H H' → ∀ q : Bool → Hp → Prop, (∀ H2, Same H' H2 → q (f x) H2) → tt ((wipe σ vs).set j (some x)) H' q)
    (he : ∀ x ∈ xs, f x = true → ∀ H', Same H H' → ∀ q : VK, (∀ H2, Same H' H2 → q (v x) H2) → te ((wipe σ vs).set j (some x)) H' q)
    (h : ∀ p H', H p = none → Same H H' → H' p = some (.lst ((xs.filter f).map v)) → Q (.ref p) H') : lcB (gName j) tt te vs σ Q J H := by
  refine w_lcR Y f (fun x y _ => y = v x) (fun _ _ _ _ _ e => e) hz hw ht (fun x hx hf H' s q hq => he x hx hf H' s q fun H2 s2 => hq _ H2 s2 rfl) fun p H' ys hp s e r => h p H' hp s ?_
  have el : ys = (xs.filter f).map v := by
    have key : ∀ {l k : List V}, Paired (fun x y => y = v x) l k → k = l.map v := by
      intro l k r
      induction r with
      | nil => rfl
      | cons e _ ih => rw [List.map_cons, e, ih]
    exact key r
  rw [← el]; exact e
theorem w_lcM {j : Nat} (Y : YL J xs H) (v : V → V) (hz : xs.length < 100000) (hw : ∀ x, wipe ((wipe σ vs).set j (some x)) vs = wipe σ vs)
    (he : ∀ x ∈ xs, ∀ H', Same H H' → ∀ q : VK, (∀ H2, Same H' H2 → q (v x) H2) → te ((wipe σ vs).set j (some x)) H' q)
    (h : ∀ p H', H p = none → Same H H' → H' p = some (.lst (xs.map v)) → Q (.ref p) H') : lcB (gName j) tYes te vs σ Q J H :=
  w_lcP Y (fun _ => true) v hz hw (fun x _ H' s q hq => hq H' (Same.refl _)) (fun x hx _ => he x hx) fun p H' hp s e => h p H' hp s (by rw [List.filter_eq_self.mpr (fun _ _ => rfl)] at e; exact e)
theorem w_iL {tl : TE} {R : It → Hp → Prop} (h : tl σ H fun x H1 => ∃ a, x = .ref a ∧ (∃ xs, SqL K H1 a xs) ∧ R (Itl K a) H1) : iList K tl σ H R := h
theorem w_iT {tl : TE} {R : It → Hp → Prop} (h : tl σ H fun x H1 => ∃ a, x = .ref a ∧ (∃ xs, SqT K H1 a xs) ∧ R (Itt K a) H1) : iTup K tl σ H R := h
theorem w_iS {tl : TE} {R : It → Hp → Prop} (h : tl σ H fun v H1 => ∃ x, v = .str x ∧ R (Its x) H1) : iStr tl σ H R := h
theorem w_iK {tl : TE} {R : It → Hp → Prop} (h : tl σ H fun x H1 => ∃ d o, x = .ref d ∧ ((∃ kvs, H1 d = some (.frz o (.dK kvs)) ∧ R (Itk d o kvs) H1) ∨ ∃ kvs, H1 d = some (.frz o (.dT kvs)) ∧ R (Itkt d o kvs) H1)) : iKeys tl σ H R := h
theorem w_iR1 {tA : TA} {R : It → Hp → Prop} (h : tA σ H fun vs H1 => ∃ j : Int, vs = [.int j] ∧ -(2 ^ 62) ≤ j ∧ j < 2 ^ 62 ∧ R (Itr 0 j.toNat) H1) : iRng1 tA σ H R := h
theorem w_iR3 {tA : TA} {R : It → Hp → Prop} (h : tA σ H fun vs H1 => ∃ (i j c : Int) (n : Nat), vs = [.int i, .int j, .int c] ∧ RgC i j c n ∧ R (Itc i c n) H1) : iRng3 tA σ H R := h
theorem w_iET {tA : TA} {R : It → Hp → Prop} (h : tA σ H fun vs H1 => ∃ a xs, vs = [.ref a] ∧ SqT K H1 a xs ∧ R (IteT K a) H1) : iEnumT K tA σ H R := h
theorem w_srcL {a : Addr} {R : Addr → Prop} (e : SqL K H a xs) (h : R a) : ∃ a', V.ref a = .ref a' ∧ (∃ xs, SqL K H a' xs) ∧ R a' := ⟨a, rfl, ⟨xs, e⟩, h⟩
theorem w_srcT {a : Addr} {R : Addr → Prop} (e : H a = some (.tup xs)) (h : R a) : ∃ a', V.ref a = .ref a' ∧ (∃ xs, SqT K H a' xs) ∧ R a' := ⟨a, rfl, ⟨xs, SqT.of e⟩, h⟩
theorem w_srcS {z : Str} {R : Str → Prop} (h : R z) : ∃ x, V.str z = .str x ∧ R x := ⟨z, rfl, h⟩
theorem w_srcR {j : Int} {R : Int → Prop} (h0 : -1000000 ≤ j) (h1 : j ≤ 1000000) (h : R j) : ∃ i : Int, [V.int j] = [.int i] ∧ -(2 ^ 62) ≤ i ∧ i < 2 ^ 62 ∧ R i := ⟨j, rfl, by omega, by omega, h⟩
theorem w_srcD {i j : Int} {R : Int → Int → Nat → Prop} (h0 : -1 ≤ i ∧ i ≤ 1000000) (h1 : -1 ≤ j ∧ j ≤ 1000000) (h : R i (-1) (i - j).toNat) : ∃ (i' j' c : Int) (n : Nat), [V.int i, V.int j, V.int (-1)] = [.int i', .int j', .int c] ∧ RgC i' j' c n ∧ R i' c n := ⟨i, j, -1, _, rfl, RgC.neg (by omega) (by omega) (by omega) (by omega), h⟩
theorem w_srcE {a : Addr} {R : Addr → Prop} (e : H a = some (.tup xs)) (h : R a) : ∃ a' xs, [V.ref a] = [.ref a'] ∧ SqT K H a' xs ∧ R a' := ⟨a, xs, rfl, SqT.of e, h⟩
theorem forB_list {a : Addr} (Pv : Nat → L2.St → Hp → Prop) (h0 : Pv 0 σ H) (hl : ∀ i σ H, i ≤ xs.length → Pv i σ H → SqL K H a xs)
    (hs : ∀ i x σ H, xs[i]? = some x → Pv i σ H → g x σ H fun σ2 H2 => tb { D with nx := Pv (i + 1), ct := Pv (i + 1), bk := D.nx } σ2 H2) (hd : ∀ σ H, Pv xs.length σ H → D.nx σ H) : forB g tb D σ (Itl K a) H := for_list Pv h0 hl hs hd
theorem forB_tup {a : Addr} (Pv : Nat → L2.St → Hp → Prop) (h0 : Pv 0 σ H) (hl : ∀ i σ H, i ≤ xs.length → Pv i σ H → SqT K H a xs)
    (hs : ∀ i x σ H, xs[i]? = some x → Pv i σ H → g x σ H fun σ2 H2 => tb { D with nx := Pv (i + 1), ct := Pv (i + 1), bk := D.nx } σ2 H2) (hd : ∀ σ H, Pv xs.length σ H → D.nx σ H) : forB g tb D σ (Itt K a) H := for_tup Pv h0 hl hs hd
theorem forB_range {lo : Int} {n : Nat} (Pv : Nat → L2.St → Hp → Prop) (h0 : Pv 0 σ H)
    (hs : ∀ i σ H, i < n → Pv i σ H → g (.int (lo + i)) σ H fun σ2 H2 => tb { D with nx := Pv (i + 1), ct := Pv (i + 1), bk := D.nx } σ2 H2) (hd : ∀ σ H, Pv n σ H → D.nx σ H) : forB g tb D σ (Itr lo n) H := for_range Pv h0 hs hd
theorem forB_down {lo c : Int} {n : Nat} (Pv : Nat → L2.St → Hp → Prop) (h0 : Pv 0 σ H)
    (hs : ∀ i σ H, i < n → Pv i σ H → g (.int (lo + (i : Nat) * c)) σ H fun σ2 H2 => tb { D with nx := Pv (i + 1), ct := Pv (i + 1), bk := D.nx } σ2 H2) (hd : ∀ σ H, Pv n σ H → D.nx σ H) : forB g tb D σ (Itc lo c n) H := for_rangeC Pv h0 hs hd
theorem forB_enumT {a : Addr} (Pv : Nat → L2.St → Hp → Prop) (h0 : Pv 0 σ H) (hl : ∀ i σ H, i ≤ xs.length → Pv i σ H → SqT K H a xs)
    (hs : ∀ (i : Nat) x σ H T, xs[i]? = some x → Pv i σ H → H T = none → g (.ref T) σ (upd H T (.tup [.int (i : Nat), x])) fun σ2 H2 => tb { D with nx := Pv (i + 1), ct := Pv (i + 1), bk := D.nx } σ2 H2) (hd : ∀ σ H, Pv xs.length σ H → D.nx σ H) : forB g tb D σ (IteT K a) H := for_enumT Pv h0 hl hs hd
/-- a, b = a pair that stands -/
theorem w_unp2 {a : Addr} {x y : V} {g1 g2 : TG} {q : L2.St → Hp → Prop} (e : H a = some (.tup [x, y])) (h : g1 x σ H fun σ' H' => g2 y σ' H' q) : gTup K 2 (gCons g1 (gCons g2 gNil)) (.ref a) σ H q :=
  ⟨a, [x, y], rfl, SqT.of e, rfl, x, [y], rfl, by
    have e2 : (fun (σ' : L2.St) (H' : Hp) => gCons g2 gNil [y] σ' H' q) = fun σ' H' => g2 y σ' H' q := by
      funext σ' H'
      exact propext ⟨fun ⟨v, r, er, hh⟩ => by cases er; have hq : (fun σ2 H2 => gNil [] σ2 H2 q) = q := by { funext a b; exact propext ⟨fun z => z.2, fun z => ⟨rfl, z⟩⟩ }; rw [hq] at hh; exact hh,
        fun hh => ⟨y, [], rfl, by have hq : (fun σ2 H2 => gNil [] σ2 H2 q) = q := by { funext a b; exact propext ⟨fun z => z.2, fun z => ⟨rfl, z⟩⟩ }; rw [hq]; exact hh⟩⟩
    rw [e2]; exact h⟩
theorem w_js {t : TE} {ts : List TE} {acc : Str} {q : Str → Hp → Prop} (h : t σ H fun x H1 => ∃ y : Str, x = .str y ∧ (acc ++ y).length ≤ sizeLine ∧ tJs ts (acc ++ y) σ H1 q) : tJs (t :: ts) acc σ H q := h
theorem w_jsN {acc : Str} {q : Str → Hp → Prop} (h : q acc H) : tJs [] acc σ H q := h
theorem w_jsL {acc y : Str} {R : Prop} (l : acc.length + y.length ≤ 100000) (h : R) : (acc ++ y).length ≤ sizeLine ∧ R := ⟨by rw [Str.length_append, sizeLine_eq]; omega, h⟩
theorem w_fmtS (h : te σ H fun x H1 => (∃ y : Str, x = .str y ∧ y.length ≤ sizeLine ∧ Q (.str y) H1) ∨ ∃ i : Int, x = .int i ∧ i.natAbs.log2 < 1920 ∧ Q (.str (toString i)) H1) : tFmt te σ H Q := h
theorem w_fmtI {i : Int} {R : Str → Prop} (l : i.natAbs.log2 < 1920) (h : R (toString i)) : (∃ y : Str, V.int i = .str y ∧ y.length ≤ sizeLine ∧ R y) ∨ ∃ j : Int, V.int i = .int j ∧ j.natAbs.log2 < 1920 ∧ R (toString j) := .inr ⟨i, rfl, l, h⟩
theorem w_fmtT {z : Str} {R : Str → Prop} {R2 : Int → Prop} (l : z.length ≤ 100000) (h : R z) : (∃ y : Str, V.str z = .str y ∧ y.length ≤ sizeLine ∧ R y) ∨ ∃ j : Int, V.str z = .int j ∧ R2 j := .inl ⟨z, rfl, by rw [sizeLine_eq]; omega, h⟩
theorem w_m1 {r : V → List V → Hp → VK → Prop} {to : TE} (h : to σ H fun x H1 => (∃ a, x = .str a) ∧ te σ H1 fun y H2 => r x [y] H2 Q) : tM1 r to te σ H Q := h
theorem w_m1L {z : Str} {q : Prop} (h : q) : (∃ a, V.str z = .str a) ∧ q := ⟨⟨z, rfl⟩, h⟩
theorem w_sfld {ta tv : TE} {f : Str} (h : tv σ H fun y H1 => ta σ H1 fun x H2 => ∃ a C dx fs, x = .ref a ∧ H2 a = some (.ins C dx fs) ∧ Cls K C ∧ NoAttr K C f ∧ fs.length < 1000 ∧ D.nx σ (upd H2 a (.ins C dx (putF f y fs)))) : sFld K ta tv f D σ H := h
theorem w_sfldL {a C dx : Addr} {f : Str} {fs : List (Str × V)} {q : Addr → Addr → Addr → List (Str × V) → Prop} (e : H a = some (.ins C dx fs)) (c : Cls K C) (n : NoAttr K C f) (l : fs.length < 1000) (h : q a C dx fs) :
    ∃ a' C dx fs, V.ref a = .ref a' ∧ H a' = some (.ins C dx fs) ∧ Cls K C ∧ NoAttr K C f ∧ fs.length < 1000 ∧ q a' C dx fs := ⟨a, C, dx, fs, rfl, e, c, n, l, h⟩
theorem w_bm {ty : String} {r : V → List V → Hp → VK → Prop} {to : TE} {t : TA} (h : to σ H fun x H1 => tyV K ty x H1 ∧ t σ H1 fun xs H2 => r x xs H2 Q) : tBM K ty r to t σ H Q := h
theorem w_unp3 {a : Addr} {x y z : V} {g1 g2 g3 : TG} {q : L2.St → Hp → Prop} (e : H a = some (.tup [x, y, z])) (h : g1 x σ H fun σ' H' => g2 y σ' H' fun σ2 H2 => g3 z σ2 H2 q) : gTup K 3 (gCons g1 (gCons g2 (gCons g3 gNil))) (.ref a) σ H q := by
  have hq : (fun σ2 H2 => gNil [] σ2 H2 q) = q := by { funext a b; exact propext ⟨fun z => z.2, fun z => ⟨rfl, z⟩⟩ }
  have e3 : (fun (σ' : L2.St) (H' : Hp) => gCons g3 gNil [z] σ' H' q) = fun σ' H' => g3 z σ' H' q := by
    funext σ' H'
    exact propext ⟨fun ⟨v, r, er, hh⟩ => by cases er; rw [hq] at hh; exact hh, fun hh => ⟨z, [], rfl, by rw [hq]; exact hh⟩⟩
  have e2 : (fun (σ' : L2.St) (H' : Hp) => gCons g2 (gCons g3 gNil) [y, z] σ' H' q) = fun σ' H' => g2 y σ' H' fun σ2 H2 => g3 z σ2 H2 q := by
    funext σ' H'
    exact propext ⟨fun ⟨v, r, er, hh⟩ => by cases er; rw [e3] at hh; exact hh, fun hh => ⟨y, [z], rfl, by rw [e3]; exact hh⟩⟩
  exact ⟨a, [x, y, z], rfl, SqT.of e, rfl, x, [y, z], rfl, by rw [e2]; exact h⟩
theorem w_sub {to ti : TE} {q : L2.St → Hp → Prop} (h : to σ H fun o H1 => ti σ H1 fun i H2 => rSetL o i v H2 fun H3 => q σ H3) : gSub to ti rSetL v σ H q := h
theorem w_setL {p : Addr} {i : Int} {j : Nat} {q : Hp → Prop} (e : H p = some (.lst xs)) (a : ixN xs.length i = some j) (h : q (upd H p (.lst (xs.set j v)))) : rSetL (.ref p) (.int i) v H q := ⟨p, xs, i, j, rfl, rfl, e, a, h⟩
theorem w_max2 {i j : Int} (h : Q (.int (if j > i then j else i)) H) : ∃ a b, [V.int i, V.int j] = [.int a, .int b] ∧ Q (.int (if b > a then b else a)) H := ⟨i, j, rfl, h⟩
end
section
variable {K : Frag} {σ : L2.St} {H : Hp} {Q : VK} {D : Ends} {td ty te : TE} {tl th : TO}
theorem w_star {t : TA} {q : List V → Hp → Prop} (h : te σ H fun x H1 => ∃ p xs, x = V.ref p ∧ (SqT K H1 p xs ∨ SqL K H1 p xs) ∧ t σ H1 fun ys H2 => q (xs ++ ys) H2) : StX.tStar K te t σ H q := h
theorem w_lock {t : TS} (h : ∃ d u, H d = some u ∧ Mut (some u) ∧ ∀ od, t ⟨fun σ' H' => H' d = some (.frz od u) ∧ D.nx σ' (upd H' d u), fun v H' => H' d = some (.frz od u) ∧ D.rt v (upd H' d u), fun σ' H' => H' d = some (.frz od u) ∧ D.bk σ' (upd H' d u), fun σ' H' => H' d = some (.frz od u) ∧ D.ct σ' (upd H' d u)⟩ σ (upd H d (.frz od u))) : tLock t D σ H := h
theorem w_lockE (h : ∃ d u, H d = some u ∧ Mut (some u) ∧ ∀ od, te σ (upd H d (.frz od u)) fun v H' => H' d = some (.frz od u) ∧ Q v (upd H' d u)) : tLockE te σ H Q := h
theorem w_dget (h : td σ H fun x H1 => ty σ H1 fun y H2 => ∃ a v, x = .ref a ∧ DGet H2 a y (some v) ∧ Q v H2) : tDGet td ty σ H Q := h
theorem w_din (h : ty σ H fun y H1 => td σ H1 fun x H2 => ∃ a o, x = .ref a ∧ DGet H2 a y o ∧ Q (.bl o.isSome) H2) : tDIn ty td σ H Q := h
theorem w_dnotin (h : ty σ H fun y H1 => td σ H1 fun x H2 => ∃ a o, x = .ref a ∧ DGet H2 a y o ∧ Q (.bl (!o.isSome)) H2) : tDNotIn ty td σ H Q := h
theorem w_slice {r : V → Option Int → Option Int → Hp → VK → Prop} (h : te σ H fun x H1 => tl σ H1 fun l H2 => th σ H2 fun u H3 => r x l u H3 Q) : tSl r te tl th σ H Q := h
theorem w_on {q : Option Int → Hp → Prop} (h : q none H) : tNoPart σ H q := h
theorem w_os {q : Option Int → Hp → Prop} (h : te σ H fun x H1 => ∃ i, x = .int i ∧ q (some i) H1) : tPart te σ H q := h
theorem w_osL {i : Int} {q : Int → Prop} (h : q i) : ∃ j, V.int i = .int j ∧ q j := ⟨i, rfl, h⟩
/-- a part of a tuple -/
theorem w_slT {a : Addr} {xs : List V} {lo hi : Option Int} (e : H a = some (.tup xs)) (h : ∀ p H', Same H H' → H' p = some (.tup (cutV xs lo hi)) → Q (.ref p) H') : rSlU K (.ref a) lo hi H Q :=
  .inr ⟨a, xs, rfl, SqT.of e, fun z => h a H (Same.refl _) (by
      have : cutV xs lo hi = xs := by unfold cutV; rw [z.1, z.2]; simp
      rw [this]; exact e), fun _ p hp => h p _ (same_new hp (Same.refl _)) upd_same⟩
theorem w_slL {a : Addr} {xs : List V} {lo hi : Option Int} (e : SqL K H a xs) (h : ∀ p, H p = none → Q (.ref p) (upd H p (.lst (cutV xs lo hi)))) : rSlU K (.ref a) lo hi H Q := .inl ⟨a, xs, rfl, e, h⟩
end
end Bt

set_option Elab.async false
set_option linter.all false
set_option maxRecDepth 100000
set_option maxHeartbeats 4000000
/-! data, numbers' texts -/
namespace Bt
open PySem L2
theorem dp_ints {K : Frag} {H : Hp} : ∀ ks : List Int, DpAll K H (ks.map V.int) (ks.map PyData.int)
  | [] => .nil
  | k :: r => .cons (.int k) (dp_ints r)
theorem pl_ints : ∀ ks : List Int, PyData.plainAll (ks.map PyData.int) = true
  | [] => rfl
  | k :: r => by simp only [List.map_cons, PyData.plainAll, PyData.plain, pl_ints r, Bool.and_self]
theorem dep_ints : ∀ ks : List Int, PyData.depthAll (ks.map PyData.int) = 0
  | [] => rfl
  | k :: r => by simp only [List.map_cons, PyData.depthAll, PyData.depth, dep_ints r, Nat.max_self]
theorem ev_ints : ∀ ks ls : List Int, PyData.eqvAll (ks.map PyData.int) (ls.map PyData.int) = decide (ks = ls)
  | [], [] => by simp [PyData.eqvAll]
  | [], _ :: _ => by simp [PyData.eqvAll]
  | _ :: _, [] => by simp [PyData.eqvAll]
  | k :: r, l :: t => by
    have ih := ev_ints r t
    simp only [List.map_cons, PyData.eqvAll, PyData.eqv, ih]
    by_cases e : k = l <;> simp [e]
theorem dp_tupI {K : Frag} {H : Hp} {p : Addr} {ks : List Int} (e : H p = some (.tup (ks.map V.int))) : Dp K H (.ref p) (.tuple (ks.map PyData.int)) := .tup (SqT.of e) (dp_ints ks)
theorem dp_nilT {K : Frag} {H : Hp} {p : Addr} (e : H p = some (.tup [])) : Dp K H (.ref p) (.tuple []) := .tup (SqT.of e) .nil
theorem dp_nilL {K : Frag} {H : Hp} {p : Addr} (e : H p = some (.lst [])) : Dp K H (.ref p) (.list []) := .lst (SqL.of e) .nil
open SX
theorem num_tl (n : Nat) : (S (TL.numL n)).cps.toList = TL.numL n := rfl
theorem numL_head : ∀ n : Nat, ∀ c, (TL.numL n)[0]? = some c → c = 48 → n = 0 := by
  intro n
  induction n using Nat.strongRecOn with
  | ind n ih =>
    intro c h e
    by_cases hn : n < 10
    · rw [TL.numL_lt hn] at h
      simp at h; omega
    · rw [TL.numL_step (by omega)] at h
      have hne := TL.numL_ne (n / 10)
      rw [List.getElem?_append_left (by cases hq : TL.numL (n / 10) with | nil => exact absurd hq hne | cons => simp)] at h
      have := ih (n / 10) (by omega) c h e
      omega
theorem sjoin_len (y : Str) : ∀ ps : List Str, (Str.join y ps).length ≤ (ps.map (·.length)).sum + ps.length * y.length
  | [] => Nat.zero_le _
  | [x] => by show x.length ≤ _; simp only [List.map_cons, List.map_nil, List.sum_cons, List.sum_nil, List.length_cons, List.length_nil]; omega
  | x :: z :: r => by
    have ih := sjoin_len y (z :: r)
    show (x ++ y ++ Str.join y (z :: r)).length ≤ _
    rw [Str.length_append, Str.length_append, List.map_cons, List.sum_cons, List.length_cons, Nat.succ_mul]
    omega
theorem join_len (y : Str) (ps : List Str) : (Txt.join y ps).length ≤ (ps.map (·.length)).sum + ps.length * y.length := by
  rw [TL.join_eq]; exact sjoin_len y ps
end Bt

set_option Elab.async false
set_option linter.all false
set_option maxRecDepth 100000
set_option maxHeartbeats 4000000
/-! rules that the layer lacks: data in tuples, counted -/
namespace Bt
open PySem PySem.Spec PyProof.Rows L2
section
variable {X : Cx}
def rInDT (K : Frag) : R2 := fun x y H Q => ∃ d ds, Dp K H x d ∧ Dp K H y (.tuple ds) ∧ PyData.plainAll ds = true ∧ d.plain = true ∧ min (PyData.depthAll ds) d.depth ≤ 60 ∧ Q (.bl (ds.any fun z => PyData.eqv z d)) H
theorem op_inDT (hu : X.A.units + 65 < cLine) : OpR X (compareOp .In) (rInDT X.K) := by
  intro pins s σ H x y v u Q I rx ry h
  obtain ⟨d, ds, hd, he, pd, pe, m, q⟩ := h
  obtain ⟨as, r1⟩ := Dp.reads I d x v hd rx
  obtain ⟨bs, r2⟩ := Dp.reads I (.tuple ds) y u he ry
  exact SeqAt.in_tuple_data r2 r1 pd pe (by omega) ⟨.bl _, H, I, rfl, q⟩
/-- t.count(d), l.count(d) -/
def rCntT (K : Frag) : V → List V → Hp → VK → Prop := fun x xs H Q => ∃ p ds y d, x = V.ref p ∧ xs = [y] ∧ Dp K H (.ref p) (.tuple ds) ∧ Dp K H y d ∧ PyData.plainAll ds = true ∧ d.plain = true ∧ min (PyData.depthAll ds) d.depth ≤ 60 ∧ Q (.int ((ds.countP fun z => PyData.eqv z d : Nat) : Int)) H
def rCntL (K : Frag) : V → List V → Hp → VK → Prop := fun x xs H Q => ∃ p ds y d, x = V.ref p ∧ xs = [y] ∧ Dp K H (.ref p) (.list ds) ∧ Dp K H y d ∧ PyData.plainAll ds = true ∧ d.plain = true ∧ min (PyData.depthAll ds) d.depth ≤ 60 ∧ Q (.int ((ds.countP fun z => PyData.eqv z d : Nat) : Int)) H
theorem mt_tcountD (hu : X.A.units + 65 < cLine) : MtR X "tuple.count" (rCntT X.K) := by
  intro pins s σ H x xs v us Q I rx rxs h
  obtain ⟨p, ds, y, d, rfl, rfl, hs, hy, pl, pd, sd, q⟩ := h
  cases rx
  obtain ⟨u, rfl, ru⟩ := rxs.one
  obtain ⟨bs, r1⟩ := Dp.reads I d y u hy ru
  cases hs with
  | tup ht ha =>
    obtain ⟨its, rv, p', hlen⟩ := I.tuple ht
    obtain ⟨as, h4⟩ := Dp.readsAll I ds _ its ha rv
    refine SeqAt.count_tuple_data (vs := its.toArray) (show s.heap.IsTuple p its.toArray from p') (show ReadsAll s.heap its.toArray.toList ds as from h4) r1 pl pd (by omega) ?_
    exact ⟨.int _, H, I.tok _, ⟨_, rfl⟩, q⟩
theorem mt_lcountD (hu : X.A.units + 65 < cLine) : MtR X "list.count" (rCntL X.K) := by
  intro pins s σ H x xs v us Q I rx rxs h
  obtain ⟨p, ds, y, d, rfl, rfl, hs, hy, pl, pd, sd, q⟩ := h
  cases rx
  obtain ⟨u, rfl, ru⟩ := rxs.one
  obtain ⟨bs, r1⟩ := Dp.reads I d y u hy ru
  cases hs with
  | lst ht ha =>
    obtain ⟨its, rv, p', hlen⟩ := I.list ht
    obtain ⟨as, h4⟩ := Dp.readsAll I ds _ its ha rv
    refine SeqAt.count_list_data (vs := its.toArray) p'.isList (show ReadsAll s.heap its.toArray.toList ds as from h4) r1 pl pd (by omega) ?_
    exact ⟨.int _, H, I.tok _, ⟨_, rfl⟩, q⟩
end
section
variable {X : Cx}
/-! inside a comprehension the fragment is told by name -/
theorem ix_seqK (K0 : Frag) (hK : X.K = K0 := by rfl) : IxR X (rIx K0) := by subst hK; exact ix_seq
theorem op_eqUK (K0 : Frag) (hu : X.A.units + 64 < cLine) (hK : X.K = K0 := by rfl) : OpR X (compareOp .Eq) (rEqU K0) := by subst hK; exact op_eqU hu
theorem op_neUK (K0 : Frag) (hu : X.A.units + 64 < cLine) (hK : X.K = K0 := by rfl) : OpR X (compareOp .NotEq) (rNeU K0) := by subst hK; exact op_neU hu
theorem call_lenUK (K0 : Frag) (hK : X.K = K0 := by rfl) : CallR X (.builtin "len") (rLenU K0) := by subst hK; exact call_lenU
theorem sl_UK (K0 : Frag) (hK : X.K = K0 := by rfl) : SlR X (rSlU K0) := by subst hK; exact sl_U
theorem op_inDTK (K0 : Frag) (hu : X.A.units + 65 < cLine) (hK : X.K = K0 := by rfl) : OpR X (compareOp .In) (rInDT K0) := by subst hK; exact op_inDT hu
theorem pe_fldK (K0 : Frag) {o : Expr} {f : Str} {ta : TE} {pos : Pos} (ho : PE X o ta) (hb : attributeBase o f X.env (eval o X.env) = eval o X.env) (hK : X.K = K0 := by rfl) : PE X (.Attribute o f pos) (tFld K0 ta f) := by subst hK; exact pe_fld ho hb
end
/-! ### tuples that are known to have no dict -/
/-- the tuple of these stands at q, its object known -/
def TN (H : Hp) (q : Addr) (xs : List V) : Prop := ∃ o : Obj, H q = some (.frz o (.tup xs)) ∧ o.dict = none
section
variable {K : Frag} {H H' : Hp} {q p : Addr} {xs : List V} {o : HO}
theorem TN.sq (h : TN H q xs) : SqT K H q xs := by obtain ⟨o, h, _⟩ := h; exact .inl (.inr ⟨o, h⟩)
theorem TN.ty (h : TN H q xs) : TyX K H (.ref q) (.type "tuple") := by obtain ⟨o, h, _⟩ := h; exact .fTuple h
theorem TN.same (s : Same H H') (h : TN H q xs) : TN H' q xs := by obtain ⟨o, h, d⟩ := h; exact ⟨o, s _ _ h, d⟩
theorem TN.new (n : H p = none) (h : TN H q xs) : TN (upd H p o) q xs := by obtain ⟨u, h, d⟩ := h; exact ⟨u, at_new n h, d⟩
theorem TN.mut (n : q ≠ p) (h : TN H q xs) : TN (upd H p o) q xs := by obtain ⟨u, h, d⟩ := h; exact ⟨u, at_mut n h, d⟩
theorem TN.ne {u : HO} (h : TN H q xs) (e : H p = some u) (n : ∀ o, u ≠ .frz o (.tup xs)) : q ≠ p := by obtain ⟨o, h, _⟩ := h; exact fun z => n o (Option.some.inj (e.symm.trans (z ▸ h)))
end
section
variable {X : Cx}
theorem call_tuple_ofN : CallR X (.type "tuple") (fun xs H Q => ∃ p ys, xs = [.ref p] ∧ SqL X.K H p ys ∧ ∀ l H', H l = none → (∀ b, b ≠ l → H' b = H b) → TN H' l ys → Q (.ref l) H') := by
  intro pins s σ H xs us Q I r h
  obtain ⟨p, ys, rfl, hq, q⟩ := h
  obtain ⟨u, rfl, rx⟩ := vals1 r
  cases rx
  obtain ⟨its, r', pl, hz⟩ := I.list hq
  have hlen := r'.length
  refine call_tuple_list pl.isList (fun h' kp => ?_) (by simp only [List.size_toArray] <;> omega)
  have I1 : Inv X pins σ H { s with heap := h' } := I.kept (t' := s.toks) kp
  have I2 : Inv X pins σ (upd H h'.objs.size (.frz { cls := .type "tuple", data := .seq its.toArray } (.tup ys))) { s with heap := h'.push { cls := .type "tuple", data := .seq its.toArray } } :=
    I1.laid (t' := s.toks) (fun b o e => Heap.get?_push_of_some _ e) (Nat.le_refl _) (show ObjOk X.prog X.w _ _ _ (.frz _ (.tup ys)) from ⟨Heap.get?_push_size _ rfl, hz, its, r', IsTup.new _ _⟩)
  exact ⟨.ref h'.objs.size, _, I2, rfl, q _ _ (I1.hok.fresh (Nat.le_refl _)) (fun b n => upd_ne n) ⟨_, upd_same, rfl⟩⟩
def tBMN (r : V → List V → Hp → VK → Prop) (to : TE) (t : TA) : TE := fun σ H Q => to σ H fun x H1 => (∃ p xs, x = .ref p ∧ TN H1 p xs) ∧ t σ H1 fun xs H2 => r x xs H2 Q
theorem pe_bmN {name : Str} {id : String} {r : V → List V → Hp → VK → Prop} {o e : Expr} {es : List Expr} {to : TE} {t : TA} {apos cpos : Pos} (slot : Slot "tuple" name id) (hty : typeOf (.builtin id) = pure (.type "method_descriptor")) (hm : MtR X id r) (ho : PE X o to) (ha : PA X (e :: es) t)
    (hbase : attributeBase o name X.env (eval o X.env) = eval o X.env := by rfl)
    (hfew : ((backTo cpos (starEach (e :: es) X.env)).all (fun x => !x.1) && (backToKw cpos (keywordEach [] X.env)).all (fun x => x.1.isSome)
      && decide ((e :: es).length + ([] : List Keyword).length + (if ([] : List Keyword).isEmpty then 0 else 1) < 30)) = true := by rfl)
    (hline : (apos.endLine == cpos.line) = true := by rfl) (hs : starEach (e :: es) X.env = (false, eval e X.env) :: starEach es X.env := by rfl) (hplain : (backTo cpos (starEach es X.env)).any (·.1) = false := by rfl) :
    PE X (.Call (.Attribute o name apos) (e :: es) [] cpos) (tBMN r to t) := ⟨fun pins s σ H Q I h => by
  refine wpAny_Call_method_late hbase hfew hline rfl (thn (ho.run pins s σ H _ I h) fun v s1 ⟨x, H1, I1, r1, ty, q1⟩ => ?_)
  obtain ⟨p, xs, rfl, ob, hp, hd⟩ := ty
  cases r1
  obtain ⟨ho', _, its, _, ⟨oo, g1, g2, _⟩⟩ := (show ObjOk X.prog X.w H1 s1.heap p (.frz ob (.tup xs)) from I1.hok p _ hp)
  refine ⟨"tuple", id, PySem.F.plainAttrs_tuple, slot, hty, ⟨oo, g1, g2⟩, fun a e => (by cases e; exact ⟨ob, ho', hd⟩), ?_⟩
  have hA := ha.run cpos pins s1 σ H1 _ I1 q1
  rw [hs] at hA ⊢
  refine Calls.callWith_builtin (by show (false || (backTo cpos (starEach es X.env)).any (·.1)) = false; rw [hplain] <;> rfl) (Calls.evalArgs_plain ?_)
  exact thn hA fun us s2 ⟨vs, H2, I2, r2, q2⟩ => hm pins s2 σ H2 (.ref p) vs _ us Q I2 rfl r2 q2⟩
end
section
variable {X : Cx} {o e : Expr} {to : TE} {t : TA} {apos cpos : Pos}
/-- t.count(x) -/
theorem pe_tcount (K0 : Frag) (ho : PE X o to) (ha : PA X [e] t) (hu : X.A.units + 65 < cLine) (hK : X.K = K0 := by rfl) (hbase : attributeBase o "count" X.env (eval o X.env) = eval o X.env := by rfl) (hline : (apos.endLine == cpos.line) = true := by rfl) (hs : starEach [e] X.env = (false, eval e X.env) :: starEach [] X.env := by rfl) :
    PE X (.Call (.Attribute o "count" apos) [e] [] cpos) (tBMN (rCntT K0) to t) := by
  subst hK
  exact pe_bmN PySem.F.slot_tuple_count PySem.F.type_tuple_count (mt_tcountD hu) ho ha hbase (by rw [hs]; rfl) hline hs rfl
end
section
variable {K : Frag} {H : Hp} {Q : VK}
theorem cnt_ints (k : Int) : ∀ ks : List Int, (ks.map PyData.int).countP (fun z => PyData.eqv z (.int k)) = ks.count k
  | [] => rfl
  | l :: r => by
    have ih := cnt_ints k r
    rw [List.map_cons, List.countP_cons, List.count_cons, ih]
    simp only [PyData.eqv]
    rfl
theorem dp_tupN {p : Addr} {ks : List Int} (e : TN H p (ks.map V.int)) : Dp K H (.ref p) (.tuple (ks.map PyData.int)) := .tup e.sq (dp_ints ks)
theorem w_cntT {p : Addr} {ks : List Int} {k : Int} (e : TN H p (ks.map V.int)) (h : Q (.int (ks.count k : Nat)) H) : rCntT K (.ref p) [.int k] H Q :=
  ⟨p, ks.map PyData.int, .int k, .int k, rfl, rfl, dp_tupN e, .int k, pl_ints ks, rfl, by rw [dep_ints]; exact Nat.le_trans (Nat.min_le_left _ _) (by decide), by rw [cnt_ints]; exact h⟩
theorem w_cntL {p : Addr} {ks : List Int} {k : Int} (e : H p = some (.lst (ks.map V.int))) (h : Q (.int (ks.count k : Nat)) H) : rCntL K (.ref p) [.int k] H Q :=
  ⟨p, ks.map PyData.int, .int k, .int k, rfl, rfl, .lst (SqL.of e) (dp_ints ks), .int k, pl_ints ks, rfl, by rw [dep_ints]; exact Nat.le_trans (Nat.min_le_left _ _) (by decide), by rw [cnt_ints]; exact h⟩

theorem w_bmN {σ : L2.St} {r : V → List V → Hp → VK → Prop} {to : TE} {t : TA} (h : to σ H fun x H1 => (∃ p xs, x = .ref p ∧ TN H1 p xs) ∧ t σ H1 fun xs H2 => r x xs H2 Q) : tBMN r to t σ H Q := h
theorem w_bmNL {p : Addr} {xs : List V} {q : Prop} (e : TN H p xs) (h : q) : (∃ p' xs, V.ref p = .ref p' ∧ TN H p' xs) ∧ q := ⟨⟨p, xs, rfl, e⟩, h⟩
theorem w_ixN {p : Addr} {xs : List V} {i : Int} {v : V} (e : TN H p xs) (a : atI xs i = some v) (h : Q v H) : rIx K (.ref p) (.int i) H Q := w_ixT e.sq a h
theorem w_lenN {p : Addr} {ys : List V} (e : TN H p ys) (h : Q (.int ys.length) H) : rLenU K [.ref p] H Q := .inl ⟨p, ys, rfl, .inr e.sq, h⟩
theorem w_srcN {a : Addr} {xs : List V} {R : Addr → Prop} (e : TN H a xs) (h : R a) : ∃ a', V.ref a = .ref a' ∧ (∃ xs, SqT K H a' xs) ∧ R a' := ⟨a, rfl, ⟨xs, e.sq⟩, h⟩
theorem w_srcEN {a : Addr} {xs : List V} {R : Addr → Prop} (e : TN H a xs) (h : R a) : ∃ a' xs, [V.ref a] = [.ref a'] ∧ SqT K H a' xs ∧ R a' := ⟨a, xs, rfl, e.sq, h⟩
theorem yl_tupN {a : Addr} {xs : List V} (h : TN H a xs) : YL (Itt K a) xs H where
  go := fun i H' s hi => ⟨xs, xs[i], (h.same s).sq, by simp [hi]⟩
  yl := fun i H' x H2 s _ y => ⟨y.1, y.2 xs (h.same s).sq⟩
  st := fun i H' s hi => ⟨xs, (h.same s).sq, hi⟩
theorem w_isiN {p : Addr} {xs : List V} (e : TN H p xs) (h : Q (.bl true) H) : rIsi K [.ref p, .ty "tuple"] H Q := ⟨.ref p, .ty "tuple", .type "tuple", .type "tuple", true, rfl, .ty _, e.ty, kit_ty rfl, h⟩
theorem w_tupN {p : Addr} {ys : List V} (e : SqL K H p ys) (h : ∀ l H', H l = none → Same H H' → TN H' l ys → Q (.ref l) H') : ∃ p' ys, [V.ref p] = [.ref p'] ∧ SqL K H p' ys ∧ ∀ l H', H l = none → (∀ b, b ≠ l → H' b = H b) → TN H' l ys → Q (.ref l) H' :=
  ⟨p, ys, rfl, e, fun l H' hl k t => h l H' hl (fun b o eb => (k b (ne_of_none eb hl)).trans eb) t⟩
end
end Bt

set_option Elab.async false
set_option linter.all false
set_option maxRecDepth 100000
set_option maxHeartbeats 4000000
/-! rules that the layer lacks: d.get(k, x) of a written dict -/
namespace Bt
open PySem PySem.Spec PyProof.Rows L2
/-- what the written dict at a answers to the text -/
def KAns (K : Frag) (w : World) (a : Addr) (z : Str) (r : Option V) : Prop := ∃ es n o, K.lookup a = some ⟨.type "dict", none, .dict es n, #[]⟩ ∧ PySem.W.KeysLit w.params es.toList ∧ (a == sysModules) = false ∧ PySem.W.nsIn K a z = some o ∧
  ((r = none ∧ o = none) ∨ ∃ v u, r = some v ∧ o = some u ∧ RelV v u)
def tKGet2 (K : Frag) (w : World) (a : Addr) (ty tx : TE) : TE := fun σ H Q => ty σ H fun y H2 => tx σ H2 fun z H3 => ∃ k r, y = V.str k ∧ KAns K w a k r ∧ Q (r.getD z) H3
section
variable {X : Cx} {o e f : Expr} {apos cpos : Pos} {td ty tx : TE}
theorem pe_kget2 {a : Addr} (ho : PE X o (tC (.ref a))) (hk : ∃ es n, X.K.lookup a = some ⟨.type "dict", none, .dict es n, #[]⟩) (he : PE X e ty) (hf : PE X f tx) (m : M2 X o "get" apos e f cpos) : PE X (.Call (.Attribute o "get" apos) [e, f] [] cpos) (tKGet2 X.K X.w a ty tx) := ⟨fun pins s σ H Q I h => by
  obtain ⟨es, n, hl⟩ := hk
  refine wpAny_Call_method m.base m.few m.line PySem.F.plainAttrs_dict PySem.F.slot_dict_get PySem.F.type_dict_get (thn (ho.run pins s σ H (fun v H1 => v = .ref a ∧ H1 = H) I ⟨rfl, rfl⟩) fun u s1 ⟨x, H1, I1, rx, ex, eH⟩ => ?_)
  subst ex eH
  obtain rfl : u = Value.ref a := rx
  refine ⟨⟨_, I1.kIn a _ hl, rfl⟩, fun b eb => (by cases eb; exact ⟨_, I1.kIn a _ hl, rfl⟩), ?_⟩
  rw [m.trees]
  refine Calls.callWith_builtin rfl (Calls.evalArgs_plain (Calls.spliced_cons (thn (he.run pins s1 σ H1 _ I1 h) fun iv s2 ⟨y, H2, I2, ry, q2⟩ =>
    Calls.spliced_cons (thn (hf.run pins s2 σ H2 _ I2 q2) fun fv s3 ⟨z, H3, I3, rz, k, r, ek, ans, q3⟩ => Calls.spliced_nil ?_))))
  subst ek
  obtain ⟨t, rfl⟩ := (show ∃ t, iv = Value.str k t from ry)
  obtain ⟨es', n', ov, hl', hlit, low, hn, hr⟩ := ans
  have hm := PySem.W.mapOf_K (prog := X.prog) (w := X.w) I3.kIn hl' hlit
  refine call_meetsIn PySem.F.slot_dict_get hm.typeIs PySem.F.entry_dict_get (PySem.F.args_dict_get_3 _ _ _) (meets_dict_get_default (strKind X.prog X.w) a (strKind_is X.prog X.w k t) low fv) ⟨_, hm, ?_⟩
  rw [PySem.W.find_K hl' hn]
  rcases hr with ⟨rfl, rfl⟩ | ⟨v, u, rfl, rfl, rv⟩
  · exact ⟨z, H3, I3.tok _, rz, q3⟩
  · exact ⟨v, H3, I3.tok _, rv, q3⟩⟩
theorem w_kget {K : Frag} {w : World} {σ : L2.St} {H : Hp} {Q : VK} {a : Addr} (h : ty σ H fun y H2 => tx σ H2 fun z H3 => ∃ k r, y = V.str k ∧ KAns K w a k r ∧ Q (r.getD z) H3) : tKGet2 K w a ty tx σ H Q := h
end
end Bt

set_option Elab.async false
set_option linter.all false
set_option maxRecDepth 100000
set_option maxHeartbeats 4000000
/-! rules that the layer lacks: own exceptions over any base, their __init__ walked as a def -/
namespace Bt
section
open PySem PySem.W PySem.Calls PyProof.Rows PySem.HandSPX
open Builtin Builtin.ObjectAttr
theorem refsB_cases {tail : List Value} : ∀ l : List Value, refsB tail l = true → (∃ c r, l = .ref c :: r ∧ refsB tail r = true) ∨ l = tail := fun l e => by
  match l, e with
  | [], e => exact .inr (beq_iff_eq.mp e)
  | a :: r, e =>
    cases a with
    | ref c => exact .inl ⟨c, r, rfl, e⟩
    | _ => exact .inr (beq_iff_eq.mp e)
/-- what is asked of a row of classes -/
structure MroG (l : List Value) : Prop where
  pass : ∀ self : Value, refuseLoop self "__setattr__" l = pure ()
  ne : l.isEmpty = false
  ob : l.contains (.type "object") = true
theorem mroG_of {T : String} {tail : List Value} {a b : String} (F : StoreFacts T tail a b) (hb : tail.contains (.type "object") = true) (hn : tail.isEmpty = false) (hp : ∀ self : Value, refuseLoop self "__setattr__" tail = pure ()) : ∀ l : List Value, refsB tail l = true → MroG l := by
  intro l
  induction l with
  | nil =>
    intro e
    rcases refsB_cases [] e with ⟨c, r', q, h⟩ | q
    · cases q
    · rw [q]; exact ⟨hp, hn, hb⟩
  | cons a r ih =>
    intro e
    rcases refsB_cases (a :: r) e with ⟨c, r', q, h⟩ | q
    · obtain ⟨rfl, rfl⟩ := List.cons.inj q
      have i := ih h
      exact ⟨fun self => by rw [refuseLoop_ref]; exact i.pass self, rfl, by rw [List.contains_cons, i.ob, Bool.or_true]⟩
    · rw [q]; exact ⟨hp, hn, hb⟩
theorem refsB_has {tail : List Value} (X : String) : ∀ l : List Value, refsB tail l = true → l.contains (.type X) = tail.contains (.type X) := by
  intro l
  induction l with
  | nil =>
    intro e
    rcases refsB_cases [] e with ⟨c, r', q, h⟩ | q
    · cases q
    · rw [q]
  | cons a r ih =>
    intro e
    rcases refsB_cases (a :: r) e with ⟨c, r', q, h⟩ | q
    · obtain ⟨rfl, rfl⟩ := List.cons.inj q
      rw [List.contains_cons, ih h]; rfl
    · rw [q]
variable {prog : Program} {w : World} {A : Around} {E : Value → Shared → Prop} {R : Result → Shared → Prop} {hp : Heap} {g : Array GenState} {d : Drawn} {t : Nat} {os : OsState}
theorem osaG_new {K : W.Frag} {name : Str} {tk : Tok} {v : Value} {x C : Addr} {fv : Array Value} {cd : ClassData}
    (X : K.In hp) (hx : hp.get? x = some { cls := .ref C, data := .fields fv }) (hcd : W.clsIn K C = some cd) (hm : MroG cd.mro) (hh : cd.hasDict = true) (ha : W.findIn K (.ref C) name = some none)
    (hq : ∀ h' tk' dx, (∀ b o, b ≠ x → hp.get? b = some o → h'.get? b = some o) → hp.objs.size ≤ dx → dx ≠ x → h'.get? x = some { cls := .ref C, dict := some dx, data := .fields fv } →
      h'.Ns1 dx (fun y => if y = name then some v else none) → R (.ok (.ret .none)) ⟨h', g, d, tk', os⟩) :
    codeAny (model prog w) A (.call (.builtin "object.__setattr__") ⟨[.ref x, .str name tk, v], []⟩) R ⟨hp, g, d, t, os⟩ := by
  have I : W.InstAt hp x { cls := .ref C, data := .fields fv } C none := ⟨hx, rfl, rfl, trivial⟩
  have SF := F.store_object
  have hxs : x ≠ hp.objs.size := Nat.ne_of_lt (Heap.lt_size hx)
  have sub : W.Looks (model prog w) hp (isInstance (.ref x) (.type "object")) true := I.type.andThen (W.looks_mroIn X (by unfold W.mroIn; rw [hcd, Option.bind_some, if_neg (by rw [hm.ne]; decide), hm.ob]))
  refine codeAny_call_builtin SF.slot.plain SF.entry (@W.check_slot (model prog w) _ _ ⟨hp, g, d, t, os⟩ "object.__setattr__" "object" "__setattr__" (.ref x) [.str name tk, v] [] _ SF.kind SF.split sub (SF.args (.ref x) (.str name tk) v) ?_)
  have hmr : W.Looks (model prog w) hp (mroOf (.ref C)) cd.mro := (W.looks_clsIn X hcd).andThen .now
  have L3 : W.Looks (model prog w) hp (storeTaker? none) none := .now
  have hcls : W.Looks (model prog w) hp (classData C) cd := W.looks_clsIn X hcd
  rw [W.osa_eq, refuse_eq]
  refine wpAny_bind (wpAny_bind (I.type.at (wpAny_bind (hmr.at ?_))))
  rw [hm.pass]
  refine wpAny_pure (wpAny_bind (I.type.at (wpAny_bind ((W.looks_findIn X ha).at (wpAny_bind (L3.at ?_))))))
  show wpAny _ _ (storeInOwnDict (.ref x) (.ref C) (.str name tk) name v false) _ _ _
  obtain ⟨nm, bs, mro, ns, qn, hd, sn, sb, ab, col, del⟩ := cd
  dsimp only at hh
  subst hh
  unfold storeInOwnDict ownDictForStores
  repeat (first | with_reducible refine store_in_new ?_ ?_ | with_reducible refine wpAny_loadPart_at hx ?_ | with_reducible refine hcls.at ?_ | wp_step)
  · exact ⟨_, #[], _, (Heap.get?_update_ne _ _ _ _ hxs.symm).trans (Heap.get?_push_at rfl rfl), rfl, fun e he => absurd he (by simp), fun _ => rfl⟩
  · intro h' tk' hn' hs
    have hx₁ : (hp.push { cls := .type "dict", data := .dict #[] }).get? x = some { cls := .ref C, data := .fields fv } := Heap.get?_push_of_some _ hx
    refine hq h' tk' hp.objs.size (fun b o hb ho => ?_) (Nat.le_refl _) hxs.symm ?_ hn'
    · exact (hs.2 b (Nat.ne_of_lt (Heap.lt_size ho))).trans ((Heap.get?_update_ne _ _ _ _ hb).trans (Heap.get?_push_of_some _ ho))
    · exact (hs.2 x hxs).trans (Heap.get?_update_self _ hx₁ rfl)
theorem osaG_old {K : W.Frag} {name : Str} {tk : Tok} {v : Value} {x C dx : Addr} {fv : Array Value} {cd : ClassData} {m0 : Str → Option Value} {nl : List Str}
    (X : K.In hp) (hx : hp.get? x = some { cls := .ref C, dict := some dx, data := .fields fv }) (hns : hp.Ns1 dx m0) (hw : Within m0 nl) (hz : nl.length ≤ 1000) (hcd : W.clsIn K C = some cd) (hm : MroG cd.mro) (hh : cd.hasDict = true)
    (ha : W.findIn K (.ref C) name = some none)
    (hq : ∀ h' tk', (∀ b o, b ≠ dx → hp.get? b = some o → h'.get? b = some o) → h'.Ns1 dx (fun y => if y = name then some v else m0 y) → R (.ok (.ret .none)) ⟨h', g, d, tk', os⟩) :
    codeAny (model prog w) A (.call (.builtin "object.__setattr__") ⟨[.ref x, .str name tk, v], []⟩) R ⟨hp, g, d, t, os⟩ := by
  obtain ⟨oD, esD, epD, hoD, hdD, _⟩ := hns.count hw
  have I : W.InstAt hp x { cls := .ref C, dict := some dx, data := .fields fv } C (some oD) := ⟨hx, rfl, rfl, hoD⟩
  have SF := F.store_object
  have sub : W.Looks (model prog w) hp (isInstance (.ref x) (.type "object")) true := I.type.andThen (W.looks_mroIn X (by unfold W.mroIn; rw [hcd, Option.bind_some, if_neg (by rw [hm.ne]; decide), hm.ob]))
  refine codeAny_call_builtin SF.slot.plain SF.entry (@W.check_slot (model prog w) _ _ ⟨hp, g, d, t, os⟩ "object.__setattr__" "object" "__setattr__" (.ref x) [.str name tk, v] [] _ SF.kind SF.split sub (SF.args (.ref x) (.str name tk) v) ?_)
  have hmr : W.Looks (model prog w) hp (mroOf (.ref C)) cd.mro := (W.looks_clsIn X hcd).andThen .now
  have L3 : W.Looks (model prog w) hp (storeTaker? none) none := .now
  have hcls : W.Looks (model prog w) hp (classData C) cd := W.looks_clsIn X hcd
  rw [W.osa_eq, refuse_eq]
  refine wpAny_bind (wpAny_bind (I.type.at (wpAny_bind (hmr.at ?_))))
  rw [hm.pass]
  refine wpAny_pure (wpAny_bind (I.type.at (wpAny_bind ((W.looks_findIn X ha).at (wpAny_bind (L3.at ?_))))))
  show wpAny _ _ (storeInOwnDict (.ref x) (.ref C) (.str name tk) name v false) _ _ _
  obtain ⟨nm, bs, mro, ns, qn, hd, sn, sb, ab, col, del⟩ := cd
  dsimp only at hh
  subst hh
  unfold storeInOwnDict ownDictForStores
  repeat (first | with_reducible refine PySem.OEX.store_in_old hns hw hz ?_ | with_reducible refine wpAny_loadPart_at hx ?_ | with_reducible refine hcls.at ?_ | wp_step)
  intro h' tk' hn' hs
  exact hq h' tk' (fun b o hb ho => (hs.2 b hb).trans ho) hn'
end
section
open PySem PySem.Spec PyProof.Rows L2
/-- what the written part says of an own class of exceptions -/
structure ExG (K : Frag) (C : Addr) : Prop where
  cls : ∃ (B newId initId : String) (bmB : List Value) (nm q : Str) (N : Addr) (bs bm : List Value) (sn : List Str) (sub : List Value) (ab : Bool) (col : Option Bool) (dd : Option Addr) (k0 k1 k2 k3 k5 : Option Value),
    ExcBaseFacts B newId initId bmB ∧ K.lookup C = some (excClassObj nm q C N bs bm true sn sub ab col dd k0 k1 k2 k3 k5 newId) ∧ (∀ Y : String, bm.contains (.type Y) = bmB.contains (.type Y)) ∧ MroG (.ref C :: bm)
  sa : PySem.W.findIn K (.ref C) "__setattr__" = some (some (.builtin "object.__setattr__"))
  exC : PySem.W.subIn K (.ref C) (.type "BaseException") = some true
  tyC : PySem.W.typeIn K (.ref C) = some (.type "type")
  kC : PySem.W.keepIn K (.ref C) = true
variable {X : Cx} {pins : List (Addr × Obj)} {σ : L2.St} {H : Hp} {s : Shared} {a C dx : Addr} {f : Str} {y : V} {u : Value} {fs : List (Str × V)} {Q : Unit → Shared → Prop} {E : Value → Shared → Prop} {A : Around}
theorem osg_new (T : ExG X.K C) (I : Inv X pins σ H s) (e : H a = some (exo a C none)) (hno : PySem.W.findIn X.K (.ref C) f = some none) (ry : RelV y u)
    (h : ∀ dx s', H dx = none → dx ≠ a → Inv X pins σ (upd (upd H dx (exd dx [(f, y)])) a (exo a C (some dx))) s' → Q () s') : wpAny (model X.prog X.w) A (setAttr (.ref a) f u) Q E s := by
  obtain ⟨B, newId, initId, bmB, nm, q, N, bs, bm, sn, sub, ab, col, dd, k0, k1, k2, k3, k5, FB, hC, hY, hbm⟩ := T.cls
  have hcl : PySem.W.clsIn X.K C = some { name := nm, bases := bs, mro := .ref C :: bm, ns := N, qualname := q, hasDict := true, slotNames := sn, subclasses := sub, abstract := ab, collection := col, hasDel := false } := by unfold PySem.W.clsIn; rw [hC] <;> rfl
  obtain ⟨t1, ho⟩ := exo_at I.hok e
  obtain ⟨hp, g, d, t, os⟩ := s
  refine PySem.W.set_plain I.kIn (ox := { cls := .ref C, dict := none, data := .fields #[.ref t1, .none, .none, .none, .bool false, .none] }) (od := none) ⟨ho, rfl, rfl, trivial⟩ T.sa ?_
  refine osaG_new I.kIn ho hcl hbm rfl hno (fun h' tk' dx k dn dne hx hn => ?_)
  have hnd : H dx = none := I.hok.fresh dn
  have nd : ∀ {b : Addr} {o : Obj}, hp.get? b = some o → b ≠ dx := fun {b o} q => Nat.ne_of_lt (Nat.lt_of_lt_of_le (Heap.lt_size q) dn)
  have na : ∀ {b : Addr}, H b = none → b ≠ a := fun {b} n z => by
    rw [z, e] at n
    cases n
  have Un1 : Un X.fs [] H (upd (upd H dx (exd dx [(f, y)])) a (exo a C (some dx))) hp h' := {
    keep := fun b o q n _ _ => k b o (na n) q
    slot := fun b o q n _ _ => ⟨o.slots, k b o (na n) q⟩
    free := fun b o q n _ => by rw [upd_ne (na n), upd_ne (nd q)]; exact n
    there := fun b o q _ => by
      by_cases hb : b = a
      · exact ⟨_, by rw [hb]; exact hx⟩
      · exact ⟨o, k b o hb q⟩
    tups := fun b xs q => by rw [upd_ne (at_ne e q exo_tup), upd_ne (ne_of_none q hnd)]; exact q
    frzs := fun b o v q => by rw [upd_ne (at_ne e q exo_frz), upd_ne (ne_of_none q hnd)]; exact q
    tbls := fun b ps q => ⟨#[], by rw [upd_ne (at_ne e q exo_tbl), upd_ne (ne_of_none q hnd), q]; simp⟩ }
  refine h dx _ hnd dne (I.un (t' := tk') Un1 fun b o q => ?_)
  by_cases hb : b = a
  · subst hb
    rw [upd_same] at q
    cases q
    exact exo_ok hx
  · rw [upd_ne hb] at q
    by_cases hd : b = dx
    · subst hd
      rw [upd_same] at q
      cases q
      exact exd_ok hn (relO_put (fs := []) ry fun g => True.intro)
    · rw [upd_ne hd] at q
      exact (I.hok b o q).stay (fun c v hc z => k c v (by
          rcases hc with hc | hc
          · rw [hc]
            exact hb
          · exact at_ne e hc exo_own) z)
        (fun c hc => by rw [upd_ne (at_ne e hc exo_own), upd_ne (ne_of_none hc hnd)]; exact hc) (fun c xs hc => by rw [upd_ne (at_ne e hc exo_tup), upd_ne (ne_of_none hc hnd)]; exact hc)
theorem osg_old (T : ExG X.K C) (I : Inv X pins σ H s) (e : H a = some (exo a C (some dx))) (ed : H dx = some (exd dx fs)) (hl : fs.length ≤ 900) (hno : PySem.W.findIn X.K (.ref C) f = some none) (ry : RelV y u)
    (h : ∀ s', Inv X pins σ (upd H dx (exd dx ((f, y) :: fs))) s' → Q () s') : wpAny (model X.prog X.w) A (setAttr (.ref a) f u) Q E s := by
  obtain ⟨B, newId, initId, bmB, nm, q, N, bs, bm, sn, sub, ab, col, dd, k0, k1, k2, k3, k5, FB, hC, hY, hbm⟩ := T.cls
  have hcl : PySem.W.clsIn X.K C = some { name := nm, bases := bs, mro := .ref C :: bm, ns := N, qualname := q, hasDict := true, slotNames := sn, subclasses := sub, abstract := ab, collection := col, hasDel := false } := by unfold PySem.W.clsIn; rw [hC] <;> rfl
  obtain ⟨t1, ho⟩ := exo_at I.hok e
  obtain ⟨mA, hns, rel⟩ := exd_at I.hok ed
  have hw := within_of rel
  obtain ⟨hp, g, d, t, os⟩ := s
  obtain ⟨oD, _, _, hoD, _, _⟩ := hns.count hw
  refine PySem.W.set_plain I.kIn (ox := { cls := .ref C, dict := some dx, data := .fields #[.ref t1, .none, .none, .none, .bool false, .none] }) (od := some oD) ⟨ho, rfl, rfl, hoD⟩ T.sa ?_
  refine osaG_old I.kIn ho hns hw (by rw [List.length_map]; omega) hcl hbm rfl hno (fun h' tk' k hn => ?_)
  have hd : ∃ o, h'.get? dx = some o := by
    obtain ⟨o, _, _, e', _⟩ := hn
    exact ⟨o, e'⟩
  exact h _ (I.write (t' := tk') (x := dx) (e := dx) (o := exd dx ((f, y) :: fs)) (by rw [ed]; exact True.intro) (.inl rfl) k hd (exd_ok hn (relO_put ry rel)))
/-- self.f = e in the __init__ of an exception -/
def tOsg (K : Frag) (f : Str) (to te : TE) : TS := fun D σ H => te σ H fun y H1 => to σ H1 fun x H2 => ∃ a C : Addr, x = .ref a ∧ ExG K C ∧ PySem.W.findIn K (.ref C) f = some none ∧
  ((H2 a = some (exo a C none) ∧ ∀ dx, H2 dx = none → dx ≠ a → D.nx σ (upd (upd H2 dx (exd dx [(f, y)])) a (exo a C (some dx)))) ∨
    ∃ (dx : Addr) (fs : List (Str × V)), H2 a = some (exo a C (some dx)) ∧ H2 dx = some (exd dx fs) ∧ fs.length ≤ 900 ∧ D.nx σ (upd H2 dx (exd dx ((f, y) :: fs))))
variable {o e : Expr} {es : List Expr} {to te : TE} {ta : TA} {p p' p1 p2 pos : Pos}
theorem ps_osg (ho : PE X o to) (he : PE X e te) (hs : swapsWith e (some (.Attribute o f p')) pos.line X.env = pure false := by rfl) : PS X (.Assign [.Attribute o f p'] e pos) (tOsg X.K f to te) := ⟨fun pins s σ H D I h => by
  refine plainObj_wpAny_Assign_Attribute (thn (he.run pins s σ H _ I h) fun v s1 ⟨y, H1, I1, r1, q1⟩ => thn (ho.run pins s1 σ H1 _ I1 q1) fun u s2 ⟨x, H2, I2, r2, a, C, ex, T, hno, q⟩ => ?_) hs
  subst ex
  obtain rfl : u = Value.ref a := r2
  rcases q with ⟨ea, q⟩ | ⟨dx, fs, ea, ed, hl, q⟩
  · exact osg_new T I2 ea hno r1 fun dx s' n ne J => ⟨σ, _, J, q dx n ne⟩
  · exact osg_old T I2 ea ed hl hno r1 fun s' J => ⟨σ, _, J, q⟩⟩
/-- an exception made by its own __init__, its context None -/
theorem mk_endN {pins : List (Addr × Obj)} {σ : L2.St} {H1 H2 : Hp} {Q : XK} {hp hp2 h2 : Heap} {g1 g2 : Array GenState} {d1 d2 : Drawn} {t1 t2 : Nat} {os1 os2 : OsState} {a C d : Addr} {fs : List (Str × V)} (T : Raises X (.ref C)) (I1 : Inv X pins σ H1 ⟨hp, g1, d1, t1, os1⟩)
    (ha : hp.objs.size ≤ a) (k : ∀ b o, hp.get? b = some o → hp2.get? b = some o) (un : Un (frs X.stack) [] (upd H1 a (exo a C none)) H2 hp2 h2) (hok : HOk X.prog X.w H2 h2) (ho : os2 = os1) (hb : AllBare g2)
    (ea : H2 a = some (exo a C (some d))) (ed : H2 d = some (exd d fs)) (hd1 : H1 d = none) (q : Q (.ref C) (some d) (upd (del H2 a) d (.xd fs))) : L2N.MkP X pins σ Q (.ref a) ⟨h2, g2, d2, t2, os2⟩ := by
  obtain ⟨_, _, J, z1, z2, z3, z4⟩ := mk_end0 (d2 := d2) (t2 := t2) I1 ha k un hok ho hb ea ed hd1
  exact ⟨a, _, _, _, _, _, _, rfl, J, z1, z2, z3, ⟨rfl, rfl, fun vs e => by cases e; rfl⟩, rfl, rfl, z4, rfl, hb, T, q⟩
/-- C(e, ..) that is raised, C's own __init__ keeping sp -/
theorem pmk_osg {CX : CXT} {x : Str} {C fI : Addr} {k : Nat} {fd : FuncData} {ps : List Str} {sp : Sp} (T : ExG X.K C) (iC : PySem.W.findIn X.K (.ref C) "__init__" = some (some (.ref fI))) (tI : PySem.W.typeIn X.K (.ref fI) = some (.type "function"))
    (F1 : FnOk X.prog X.w X.K X.mg X.base CX k fI fd ps sp) (hr : Room (k + 1) X.A) (hb : Binds X.K fd ps []) (hx : Passes CX X (fun _ _ _ => False)) (hg : Gl X x) (hm : X.mg x = some (.ref C)) (ha : PA X (e :: es) ta)
    (hdb : (x == ("__debug__" : Str)) = false := by decide) (he : starEach (e :: es) X.env = (false, eval e X.env) :: starEach es X.env := by rfl) (hpl : (backTo pos (starEach es X.env)).any (·.1) = false := by rfl) :
    L2N.PMk X (.Call (.Name x p) (e :: es) [] pos) (tMkO C sp [] ta) := by
  intro pins s σ H Q I h
  obtain ⟨B, newId, initId, bmB, nm, q, N, bs, bm, sn, sub, ab, col, dd, k0, k1, k2, k3, k5, FB, hC, hY, hbm⟩ := T.cls
  refine wpAny_Call_Name_kw (ld_glob I hg hm ?_ hdb)
  refine PySem.W.callWith_K (h₀ := X.base) I.ok.mod.kin T.kC (thn (ha.run pos pins s σ H _ I h) fun us s1 ⟨vs, H1, I1, r1, hz, q1⟩ => ⟨I1.kIn, ?_⟩) he hpl
  show wpAny _ _ (call (.ref C) us) _ _ _
  obtain ⟨hp, g, dr, tk, os⟩ := s1
  have hsz : hp.objs.size ≤ hp.objs.size + 1 := Nat.le_succ _
  have hn : H1 (hp.objs.size + 1) = none := I1.hok.fresh hsz
  have hq := q1 (hp.objs.size + 1) hn
  have kk : ∀ b o, hp.get? b = some o → ((hp.push (PySem.W.kdv_tup us)).push (PySem.HandSPX.excO C hp.objs.size)).get? b = some o := fun b o e => Heap.get?_push_of_some _ (Heap.get?_push_of_some _ e)
  have hget : ((hp.push (PySem.W.kdv_tup us)).push (PySem.HandSPX.excO C hp.objs.size)).get? (hp.objs.size + 1) = some (PySem.HandSPX.excO C hp.objs.size) := by heap_get
  have I2 : Inv X pins σ (upd H1 (hp.objs.size + 1) (exo (hp.objs.size + 1) C none)) ⟨(hp.push (PySem.W.kdv_tup us)).push (PySem.HandSPX.excO C hp.objs.size), g, dr, tk, os⟩ :=
    I1.laid (t' := tk) (a := hp.objs.size + 1) (o := exo (hp.objs.size + 1) C none) (h' := (hp.push (PySem.W.kdv_tup us)).push (PySem.HandSPX.excO C hp.objs.size)) kk hsz (exo_ok hget)
  have r2 : Vals (V.ref (hp.objs.size + 1) :: (vs ++ [])) (Value.ref (hp.objs.size + 1) :: (us ++ [])) := .cons rfl (r1.append .nil)
  have hl : (Value.ref (hp.objs.size + 1) :: us ++ []).length = ps.length := by
    have e := r2.length
    rw [F1.len _ _ _ _ hq] at e
    exact e.symm
  have hus : us.length ≤ sizeLine := by
    rw [← Paired.length r1, sizeLine_eq]
    omega
  refine wpAny_call (PySem.HandSPX.call_own FB hY (I1.kIn _ _ hC) (PySem.W.looks_findIn I1.kIn iC) (fun self => PySem.W.bind_fn I1.kIn self tI) hus
    (codeAny_mono (F1.run _ X.stack _ _ ⟨Value.ref (hp.objs.size + 1) :: us, []⟩ (Value.ref (hp.objs.size + 1) :: (us ++ [])) _ _ (fun _ _ _ => False) (hr.make C us []) (I2.env0.make C us []) (by have z := hb _ (Value.ref (hp.objs.size + 1) :: us) I2.kIn hl; rw [List.cons_append] at z; exact z) r2 hq) fun r s' hq' => ?_))
  cases r with
  | error er => exact hx pins σ _ _ er s' I2 hq'
  | ok fl =>
    cases fl with
    | ret u =>
      obtain ⟨v, H2, os2, bare2, un2, hok2, rv, ev, d, fs, ea, ed, hd1, q2⟩ := hq'
      subst ev
      obtain ⟨h2, g2, d2, t2, os'⟩ := s'
      exact ⟨rv, mk_endN (raises_own T.exC T.tyC) I1 hsz kk un2 hok2 os2 bare2 ea ed hd1 q2⟩
    | next => exact False.elim hq'
    | brk => exact False.elim hq'
    | cont => exact False.elim hq'
/-- C() that is raised, C without an own __init__ -/
theorem pmk_own0 {x : Str} {bmB : List Value} {B newId initId : String} (F : ExcBaseFacts B newId initId bmB) (q : PySem.W.excIn X.K C bmB newId = true) (gC : X.mg x = some (.ref C)) (kC : PySem.W.keepIn X.K (.ref C) = true) (r : Raises X (.ref C)) (hg : Gl X x)
    (hdb : (x == ("__debug__" : Str)) = false := by decide) : L2N.PMk X (.Call (.Name x p) [] [] pos) (fun _ H Q => Q (.ref C) none H) := by
  intro pins s σ H Q I h
  refine wpAny_Call_Name_kw (ld_glob I hg gC ?_ hdb)
  refine PySem.W.callWith_K0 I.kIn kC ?_
  show wpAny _ _ (call (.ref C) []) _ _ _
  obtain ⟨bm, N, nm, qn, bs, hdct, sn, sub, ab, col, dd, k0, k1, k2, k3, k5, mN, hC, hN, hni, T⟩ := exc_obj I.kIn q
  refine wpAny_call_exc_subT F T hC hN hni (fun h' e hm => ?_) (Nat.zero_le _)
  exact L2N.mk_of I hm r h (I.hok.gone hm.new)
end
end Bt

set_option Elab.async false
set_option linter.all false
set_option maxRecDepth 100000
set_option maxHeartbeats 4000000
/-! rules that the layer lacks: {**d, k: v}; an attribute as a target -/
namespace Bt
open PySem PySem.Spec PyProof.Rows L2
section
variable {prog : Program} {w : World} {A : Around} {E : Value → Shared → Prop} {s : Shared}
theorem put_pairs {d : Addr} {kvs : List (Key × Value)} {k : Key} {key v : Value} {Q : Unit → Shared → Prop} (hkey : (mixKind prog w).is k key = true) (hm : s.heap.DictOf (mixKind prog w) d kvs)
    (hQ : ∀ h', h'.DictOf (mixKind prog w) d (stored kvs k v) → Heap.SameBut d s.heap h' → Q () { s with heap := h' }) (hsz : kvs.length ≤ sizeLine) :
    wpAny (model prog w) A (dictPut d ((mixKind prog w).hash k) key v) Q E s := by
  obtain ⟨o, es, ep, ho, hc, hd, hk, hp, hn⟩ := hm
  have hes : es.size ≤ sizeLine := by
    have e1 := hp.length
    have e2 : es.toList.length = es.size := by simp
    omega
  unfold dictPut
  refine wpAny_bind (wpAny_dictFind_of hkey ho hd hk ?_)
  have hidx : (es.findIdx? fun e => (mixKind prog w).is k e.key) = kvs.findIdx? fun kv => decide (kv.1 = k) := by
    rw [← hp.findIdx k]; obtain ⟨l⟩ := es; simp
  cases hi : es.findIdx? fun e => (mixKind prog w).is k e.key with
  | some i =>
    refine wpAny_updateDict ho hd (hQ _ ⟨_, _, ep, Heap.get?_update_self _ ho (Obj.isFreed_of_dict (Obj.data_mapDict hd _)), hc.mapDict _, Obj.data_mapDict hd _, hk.modify _ _, ?_, ?_⟩ (Heap.SameBut.update ..))
    · rw [stored, if_pos (any_of_findIdx_some (hidx ▸ hi))]
      have hl : (es.toList.findIdx? fun e => (mixKind prog w).is k e.key) = some i := by rw [← hi]; obtain ⟨l⟩ := es; simp
      have := hp.modify hn hl v
      obtain ⟨l⟩ := es
      simpa using this
    · rw [stored, if_pos (any_of_findIdx_some (hidx ▸ hi)), keys_map_store]; exact hn
  | none =>
    have hnot : k ∉ kvs.map (·.1) := not_mem_of_findIdx_none (hidx ▸ hi)
    have hany : ¬ (kvs.any fun kv => decide (kv.1 = k)) = true := by
      rw [List.any_eq_true]; rintro ⟨kv, hkv, he⟩
      exact hnot (List.mem_map.mpr ⟨kv, hkv, of_decide_eq_true he⟩)
    refine wpAny_updateDictKeys (hz := hes) ho hd (hQ _ ⟨_, _, ep + 1, Heap.get?_update_self _ ho (Obj.isFreed_of_dict (Obj.data_mapDictKeys hd _)), hc.mapDictKeys _, Obj.data_mapDictKeys hd _, hk.push hkey _, ?_, ?_⟩ (Heap.SameBut.update ..))
    · rw [stored, if_neg hany]
      have := hp.append hkey ((mixKind prog w).hash k) v
      obtain ⟨l⟩ := es
      simpa using this
    · rw [stored, if_neg hany, List.map_append, List.nodup_append]
      refine ⟨hn, by simp, ?_⟩
      intro a ha b hb
      simp only [List.map_cons, List.map_nil, List.mem_singleton] at hb
      subst hb
      exact fun e => hnot (e ▸ ha)
theorem merge_loop {d o : Addr} {kvs more : List (Key × Value)} {Q : Unit → Shared → Prop} {oo : Obj} {eso : Array DictEntry} {epo : Nat} (hdo : d ≠ o) (hd : s.heap.DictOf (mixKind prog w) d kvs)
    (hoo : s.heap.get? o = some oo) (hdo' : oo.data = .dict eso epo) (hco : oo.ExactDict) (hko : PySem.KeysOf (mixKind prog w) eso) (hpo : Pairs (mixKind prog w) eso.toList more) (hno : (more.map (·.1)).Nodup) (hlen : more.length = eso.size)
    (hQ : ∀ h', h'.DictOf (mixKind prog w) d (merged kvs more) → Heap.SameBut d s.heap h' → Q () { s with heap := h' }) (hsz : kvs.length + more.length ≤ sizeLine) :
    wpAny (model prog w) A
    (do
      let __do_lift ← dictEntries o
      let epoch ← dictEpoch o
      forIn (List.range __do_lift.size) PUnit.unit fun i _ => do
          let __do_lift ← dictEntries o
          match __do_lift[i]? with
            | some e => do
              holding [e.key, e.val]
                  (if false = true then do
                    let __do_lift ← dictFind d e.key e.hash
                    if __do_lift.isSome = true then do
                        rule "dict.merge.duplicate-key"
                        let __do_lift ← newExc (Value.type "KeyError") [e.key]
                        raiseNew __do_lift
                        dictPut d e.hash e.key e.val
                      else dictPut d e.hash e.key e.val
                  else dictPut d e.hash e.key e.val)
              let __do_lift ← dictEpoch o
              if (__do_lift != epoch) = true then do
                  (unsupported "dict.changed-during-merge" : Sem PUnit)
                  pure (ForInStep.yield PUnit.unit)
                else pure (ForInStep.yield PUnit.unit)
            | _ => do
              (unsupported "dict.changed-during-merge" : Sem PUnit)
              pure (ForInStep.yield PUnit.unit)
      pure ()) Q E s := by
  refine wpAny_bind (wpAny_dictEntries hoo hdo' (wpAny_bind (wpAny_dictEpoch hoo hdo' (wpAny_bind ?_))))
  rw [List.range_eq_range']
  refine wpAny_forIn_list _
    (fun rest _ s' => ∃ h' i, s' = { s with heap := h' } ∧ rest = List.range' i (eso.size - i) ∧ i ≤ eso.size ∧ h'.DictOf (mixKind prog w) d (merged kvs (more.take i)) ∧ h'.get? o = some oo ∧ Heap.SameBut d s.heap h')
    _ ?_ ?_ _ _ ⟨s.heap, 0, rfl, by simp, Nat.zero_le _, by simpa [merged] using hd, hoo, Heap.SameBut.refl _ _⟩
  · rintro x rest b s' ⟨h', i, rfl, hr, hi, hd', hoo', hs'⟩
    have hlt : i < eso.size := by
      rcases Nat.lt_or_ge i eso.size with h | h
      · exact h
      · rw [Nat.sub_eq_zero_of_le h] at hr; simp at hr
    obtain ⟨rfl, hrest⟩ : x = i ∧ rest = List.range' (i + 1) (eso.size - (i + 1)) := by
      have e : eso.size - i = (eso.size - (i + 1)) + 1 := by omega
      rw [e, List.range'_succ] at hr
      injection hr with h1 h2
      exact ⟨h1, h2⟩
    refine wpAny_bind (wpAny_dictEntries hoo' hdo' ?_)
    rw [Array.getElem?_eq_getElem hlt]
    obtain ⟨kv, hkv⟩ : ∃ kv, more[x]? = some kv := ⟨more[x]'(by rw [hlen]; exact hlt), List.getElem?_eq_getElem _⟩
    obtain ⟨k, v⟩ := kv
    obtain ⟨hkey, hval⟩ := hpo.get? (e := eso[x]) (by simp [hlt]) hkv
    obtain ⟨k', hkey', hhash⟩ := hko eso[x] (Array.getElem_mem hlt)
    obtain rfl : k' = k := (mixKind prog w).inj _ _ _ hkey' hkey
    show wpAny _ _ (holding [eso[x].key, eso[x].val] (dictPut d eso[x].hash eso[x].key eso[x].val) >>= _) _ _ _
    rw [hhash, hval]
    have hmx : (merged kvs (more.take x)).length ≤ sizeLine := by
      have e1 := merged_length_le kvs (more.take x)
      have e2 : (more.take x).length ≤ more.length := by rw [List.length_take]; omega
      omega
    refine wpAny_bind (wpAny_holding (put_pairs hkey hd' (fun h'' hd'' hs'' => ?_) hmx))
    have hoo'' : h''.get? o = some oo := (hs''.2 o (Ne.symm hdo)).trans hoo'
    refine wpAny_bind (wpAny_dictEpoch hoo'' hdo' ?_)
    rw [if_neg (by simp)]
    exact wpAny_pure ⟨h'', x + 1, rfl, hrest, hlt, by rw [merged_take_succ kvs more x (k', v) hkv]; exact hd'', hoo'', hs'.trans hs''⟩
  · rintro b s' ⟨h', i, rfl, hr, hi, hd', hoo', hs'⟩
    have hin : i = eso.size := by
      rcases Nat.lt_or_ge i eso.size with h | h
      · have e : eso.size - i = (eso.size - (i + 1)) + 1 := by omega
        rw [e, List.range'_succ] at hr; exact nomatch hr
      · exact Nat.le_antisymm hi h
    refine wpAny_pure (hQ h' ?_ hs')
    rw [hin, ← hlen, List.take_length] at hd'; exact hd'
/-- d takes all of o -/
theorem merge_map {d o : Addr} {kvs more : List (Key × Value)} {Q : Unit → Shared → Prop} (hdo : d ≠ o) (hoS : (o == sysModules) = false) (hd : s.heap.DictOf (mixKind prog w) d kvs) (ho : s.heap.DictOf (mixKind prog w) o more)
    (hQ : ∀ h', h'.DictOf (mixKind prog w) d (merged kvs more) → Heap.SameBut d s.heap h' → Q () { s with heap := h' }) (hsz : kvs.length + more.length ≤ sizeLine) :
    wpAny (model prog w) A (mergeMapping d (.ref o) false) Q E s := by
  obtain ⟨od, esd, epd, hod, hcd, hdd, hkd, hpd, hnd⟩ := id hd
  obtain ⟨oo, eso, epo, hoo, hco, hdo', hko, hpo, hno⟩ := id ho
  have hlen : more.length = eso.size := by rw [← hpo.length]; simp
  unfold mergeMapping
  refine wpAny_bind (wpAny_isInstance ho.typeIs isSubtype_dict_dict ?_)
  dsimp only
  rw [if_pos rfl]
  refine wpAny_bind (wpAny_specialOf ho.typeIs F.slot_dict_iter.lookup (wpAny_bind (wpAny_pure ?_)))
  simp only [beq_self_eq_true]
  rw [if_neg (by rw [hoS]; exact Bool.false_ne_true)]
  refine wpAny_bind (wpAny_dictEntries hod hdd ?_)
  split
  · refine wpAny_bind (wpAny_dictEntries hoo hdo' ?_)
    refine wpAny_bind ?_
    rw [← Array.forIn_toList]
    refine wpAny_forIn_list _ (fun rest _ s' => s' = s ∧ ∀ e ∈ rest, ∃ k, (mixKind prog w).is k e.key = true) _ (fun e rest b s' hI => ?_) (fun b s' hI => ?_) _ _ ⟨rfl, fun e he => ?_⟩
    · obtain ⟨rfl, hI⟩ := hI
      obtain ⟨k, hk⟩ := hI e (List.mem_cons_self ..)
      have hk' : keyIs k e.key = true := hk
      rcases keyIs_shape hk' with ⟨i, t, _, ek⟩ | ⟨i, t, _, ek⟩ <;> rw [ek] <;> exact wpAny_pure ⟨rfl, fun e' he' => hI e' (List.mem_cons_of_mem _ he')⟩
    · obtain ⟨rfl, _⟩ := hI
      exact merge_loop hdo hd hoo hdo' hco hko hpo hno hlen hQ hsz
    · obtain ⟨k, hk, _⟩ := hko e (Array.mem_toList_iff.mp he)
      exact ⟨k, hk⟩
  · exact merge_loop hdo hd hoo hdo' hco hko hpo hno hlen hQ hsz
end
section
variable {X : Cx} {pos : Pos}
/-- {**m, k: v} -/
def tDst (td tk tv : TE) : TE := fun σ H Q => ∀ d, H d = none → td σ (upd H d (.dK [])) fun x H1 => ∃ a kvs, x = .ref a ∧ a ≠ d ∧ Rd H1 a (.dK kvs) ∧ H1 d = some (.dK []) ∧ kvs.length ≤ 1000 ∧
  ∀ u, H1 u = none → tk σ (upd (upd H1 d (.dK kvs)) u (.dK [])) fun y H2 => tv σ H2 fun z H3 => ∃ k, y = kV k ∧ H3 d = some (.dK kvs) ∧ H3 u = some (.dK []) ∧ Q (.ref d) (upd (upd H3 u (.dK [(k, z)])) d (.dK (putK kvs k z)))
theorem pe_dstar {m kx vx : Expr} {td tk tv : TE} (hm : PE X m td) (hk : PE X kx tk) (hv : PE X vx tv) : PE X (.Dict [none, some kx] [m, vx] pos) (tDst td tk tv) := ⟨fun pins s σ H Q I h => by
  have e : (evalEachOpt [none, some kx] X.env).zip ((evalEach [m, vx] X.env).map fun v => do let x ← v; standAt pos; pure x) = [(none, do let x ← eval m X.env; standAt pos; pure x), (some (eval kx X.env), do let x ← eval vx X.env; standAt pos; pure x)] := rfl
  rw [arm_eval_Dict, e]
  refine wpAny_bind (wpAny_standAt ?_)
  unfold dictDisplay
  simp only [List.forIn_cons, List.forIn_nil, List.isEmpty_nil, if_true, pure_bind, List.nil_append, List.length_cons, List.length_nil]
  have hd0 : H s.heap.objs.size = none := I.hok.fresh (Nat.le_refl _)
  refine wpAny_bind (wpAny_bind (wpAny_bind (wpAny_alloc (wpAny_bind (wpAny_holding (wpAny_bind ?_))))))
  have I1 : Inv X pins σ (upd H s.heap.objs.size (.dK [])) { s with heap := s.heap.push { cls := .type "dict", data := .dict #[] } } :=
    I.laid (a := s.heap.objs.size) (o := .dK []) (t' := s.toks) (fun _ _ q => Heap.get?_push_of_some _ q) (Nat.le_refl _) (dk_empty s.heap I.big)
  refine thn (hm.run pins _ σ _ _ I1 (h _ hd0)) fun u s2 ⟨x, H1, I2, rx, a, kvs, ex, hne, hra, hd, hl, q⟩ => ?_
  subst ex
  obtain rfl : u = Value.ref a := rx
  refine wpAny_bind (wpAny_standAt (wpAny_pure ?_))
  obtain ⟨z, lo, vs, rel, dd⟩ := dk_rd I2.hok hra
  obtain ⟨z0, lo0, vs0, rel0, dd0⟩ := dk_rd I2.hok (Rd.of hd)
  cases rel0
  have hvl : vs.length ≤ 1000 := by rw [← rel.length]; exact hl
  have hn : (vs.map (·.1)).Nodup := let ⟨_, _, _, _, _, _, _, _, hn⟩ := dd; hn
  refine wpAny_bind (wpAny_onRaise (wpAny_tryCatch (wpAny_onRaise (wpAny_holding (merge_map (Ne.symm hne) lo dd0 dd (fun h3 hd3 hs3 => ?_) (by rw [List.length_nil, sizeLine_eq]; omega))))))
  rw [merged_nil_of_nodup vs hn] at hd3
  have I3 : Inv X pins σ (upd H1 s.heap.objs.size (.dK kvs)) { s2 with heap := h3 } :=
    I2.write (t' := s2.toks) (x := s.heap.objs.size) (e := s.heap.objs.size) (o := .dK kvs) (by rw [hd]; exact True.intro) (.inl rfl) (fun b o hb e => (hs3.2 b hb).trans e) (let ⟨o, _, _, e, _⟩ := hd3; ⟨o, e⟩) ⟨z, lo0, vs, rel, hd3⟩
  refine wpAny_pure ?_
  dsimp only
  rw [if_neg (show ¬((([] ++ [(eval kx X.env, do let x ← eval vx X.env; standAt pos; pure x)] : List (Sem Value × Sem Value)).length == 17) = true) from fun z => nomatch z)]
  refine wpAny_bind (wpAny_pure (wpAny_pure ?_))
  dsimp only
  rw [if_neg (show ¬(([] ++ [(eval kx X.env, do let x ← eval vx X.env; standAt pos; pure x)] : List (Sem Value × Sem Value)).isEmpty = true) from fun z => nomatch z)]
  have hu0 : upd H1 s.heap.objs.size (.dK kvs) h3.objs.size = none := I3.hok.fresh (Nat.le_refl _)
  have nde : h3.objs.size ≠ s.heap.objs.size := fun z => by rw [z, upd_same] at hu0; cases hu0
  have hu1 : H1 h3.objs.size = none := by rw [upd_ne nde] at hu0; exact hu0
  have I4 : Inv X pins σ (upd (upd H1 s.heap.objs.size (.dK kvs)) h3.objs.size (.dK [])) { s2 with heap := h3.push { cls := .type "dict", data := .dict #[] } } :=
    I3.laid (a := h3.objs.size) (o := .dK []) (t' := s2.toks) (fun _ _ q => Heap.get?_push_of_some _ q) (Nat.le_refl _) (dk_empty h3 I3.big)
  refine wpAny_bind (wpAny_bind (wpAny_holding (wpAny_subDict (knd := mixKind X.prog X.w) (Nat.le_of_ble_eq_true rfl) (evalPairs_cons (thn (hk.run pins _ σ _ _ I4 (q _ hu1)) fun ku s5 ⟨y, H2, I5, ry, q5⟩ => wpAny_bind (thn (hv.run pins s5 σ H2 _ I5 q5) fun vu s6 ⟨zz, H3, I6, rz, k, ek, e3d, e3u, q6⟩ => wpAny_bind (wpAny_standAt (wpAny_pure (evalPairs_nil ?_)))))))))
  subst ek
  have hkey := kV_is (P := X.prog) (w := X.w) ry
  obtain ⟨_, lou, vs1, rel1, ddu⟩ := dk_rd I6.hok (Rd.of e3u)
  cases rel1
  obtain ⟨_, lod, vs2, rel2, ddd⟩ := dk_rd I6.hok (Rd.of e3d)
  refine ⟨[(k, vu)], ⟨hkey, rfl, trivial⟩, ddu, fun h7 hd7 hs7 => ?_⟩
  have I7 : Inv X pins σ (upd H3 h3.objs.size (.dK [(k, zz)])) { s6 with heap := h7, toks := s6.toks + 1 } :=
    I6.write (t' := s6.toks + 1) (x := h3.objs.size) (e := h3.objs.size) (o := .dK [(k, zz)]) (by rw [e3u]; exact True.intro) (.inl rfl) (fun b o hb e => (hs7.2 b hb).trans e) (let ⟨o, _, _, e, _⟩ := hd7; ⟨o, e⟩)
      ⟨by rw [List.length_singleton, sizeLine_eq]; omega, lou, [(k, vu)], .cons ⟨rfl, rz⟩ .nil, hd7⟩
  have e7d : upd H3 h3.objs.size (.dK [(k, zz)]) s.heap.objs.size = some (.dK kvs) := by rw [upd_ne (Ne.symm nde)]; exact e3d
  obtain ⟨_, _, vs3, rel3, dd3⟩ := dk_rd I7.hok (Rd.of e7d)
  have hv3 : vs3.length ≤ 1000 := by rw [← rel3.length]; exact hl
  refine wpAny_bind (wpAny_onRaise (wpAny_holding (merge_map (Ne.symm nde) lou dd3 hd7 (fun h8 hd8 hs8 => ?_) (by show vs3.length + 1 ≤ _; rw [sizeLine_eq]; omega))))
  have hp : (putK kvs k zz).length ≤ kvs.length + 1 := by
    unfold putK; split
    · rw [List.length_map]; omega
    · rw [List.length_append, List.length_singleton]; omega
  have I8 : Inv X pins σ (upd (upd H3 h3.objs.size (.dK [(k, zz)])) s.heap.objs.size (.dK (putK kvs k zz))) { s6 with heap := h8, toks := s6.toks + 1 } :=
    I7.write (t' := s6.toks + 1) (x := s.heap.objs.size) (e := s.heap.objs.size) (o := .dK (putK kvs k zz)) (by rw [e7d]; exact True.intro) (.inl rfl) (fun b o hb e => (hs8.2 b hb).trans e) (let ⟨o, _, _, e, _⟩ := hd8; ⟨o, e⟩)
      ⟨by rw [sizeLine_eq]; omega, lod, _, rel3.put k rz, hd8⟩
  exact wpAny_pure (wpAny_pure ⟨.ref s.heap.objs.size, _, I8, rfl, q6⟩)⟩
end
end Bt

set_option Elab.async false
set_option linter.all false
set_option maxRecDepth 100000
set_option maxHeartbeats 4000000
/-! rules that the layer lacks: x in an instance; a != b of instances with an own __eq__; an attribute as a target -/
namespace Bt
open PySem PySem.Spec PyProof.Rows L2
section
variable {X : Cx} {C : Addr} {k j : Nat} {ps : List Str} {sp : Sp}
/-- v in x, x an instance of the class at C -/
def rOwnIn (C : Addr) (sp : Sp) (E : XK) (neg : Bool) : R2 := fun v x H Q => ∃ a dx fs, x = .ref a ∧ H a = some (.ins C dx fs) ∧ sp [.ref a, v] H (fun r H' => ∃ t, r = .bl t ∧ Q (.bl (if neg = true then !t else t)) H') E
theorem op_ownIn {E : XK} (O : OwnM X.prog X.w X.K X.mg X.base C "__contains__" j ps sp) (hr : Room k X.A) (hx : Passes (L2N.CX X.prog X.w) X E) (hj : j ≤ k := by decide) : OpR X (compareOp .In) (rOwnIn C sp E false) := by
  intro pins s σ H v x u ux Q I rv rx h
  obtain ⟨f, fd, F, M, hb⟩ := O
  obtain ⟨a, dx, fs, rfl, ha, q⟩ := h
  cases (show ux = Value.ref a from rx)
  obtain ⟨mA, J, _⟩ := ins_get I.hok ha
  obtain ⟨od, J, _⟩ := J.look
  obtain ⟨m, hF⟩ := I.fr
  refine PySem.W.in_K hF I.ok.mod.kin J M.at_ M.fn (wpAny_mono (run_fn (us := [.ref a, u]) (vs := [.ref a, v]) (dvs := []) F (hr.mono hj) hb .nil hx I (.cons rfl (.cons rv .nil)) q) (fun w s' z => ?_) fun _ _ x => x)
  obtain ⟨z', H', I', rz, t, rfl, qz⟩ := z
  cases (show w = Value.bool t from rz)
  exact wpAny_truthy_bool ⟨.bl t, H', I', rfl, qz⟩
theorem op_ownNotIn {E : XK} (O : OwnM X.prog X.w X.K X.mg X.base C "__contains__" j ps sp) (hr : Room k X.A) (hx : Passes (L2N.CX X.prog X.w) X E) (hj : j ≤ k := by decide) : OpR X (compareOp .NotIn) (rOwnIn C sp E true) := by
  intro pins s σ H v x u ux Q I rv rx h
  obtain ⟨f, fd, F, M, hb⟩ := O
  obtain ⟨a, dx, fs, rfl, ha, q⟩ := h
  cases (show ux = Value.ref a from rx)
  obtain ⟨mA, J, _⟩ := ins_get I.hok ha
  obtain ⟨od, J, _⟩ := J.look
  obtain ⟨m, hF⟩ := I.fr
  refine PySem.W.notIn_K hF I.ok.mod.kin J M.at_ M.fn (wpAny_mono (run_fn (us := [.ref a, u]) (vs := [.ref a, v]) (dvs := []) F (hr.mono hj) hb .nil hx I (.cons rfl (.cons rv .nil)) q) (fun w s' z => ?_) fun _ _ x => x)
  obtain ⟨z', H', I', rz, t, rfl, qz⟩ := z
  cases (show w = Value.bool t from rz)
  exact wpAny_truthy_bool ⟨.bl (!t), H', I', rfl, qz⟩
/-- o.f as a target -/
def gFld (K : Frag) (ta : TE) (f : Str) : TG := fun v σ H Q => ta σ H fun x H1 => ∃ a C dx fs, x = .ref a ∧ H1 a = some (.ins C dx fs) ∧ Cls K C ∧ NoAttr K C f ∧ fs.length < 1000 ∧ Q σ (upd H1 a (.ins C dx (putF f v fs)))
theorem pg_fld {o : Expr} {ta : TE} {f : Str} {pos : Pos} (ho : PE X o ta)
    (ha : ∀ v, assign (.Attribute o f pos) X.env v = (do
      let ov ← holding [v] (eval o X.env)
      standAt pos.atName
      holding [v, ov] (setAttr ov f v)
      release [v, ov] []) := by intro _; rfl) : PG X (.Attribute o f pos) (gFld X.K ta f) := ⟨fun pins s σ H v u Q I r h => by
  rw [ha]
  refine wpAny_bind (wpAny_holding (thn (ho.run pins s σ H _ I h) fun ov s1 ⟨x, H1, I1, r1, a, C, dx, fs, ex, ea, c, n, l, q⟩ => ?_))
  subst ex
  obtain rfl : ov = Value.ref a := r1
  exact wpAny_bind (wpAny_standAt (wpAny_bind (wpAny_holding (setattr_ok I1 ea c n l r fun s3 I3 => wpAny_release ⟨σ, _, I3, q⟩))))⟩
end
section
open PySem.W PySem.Calls
variable {prog : Program} {w : World} {A : Around} {E : Value → Shared → Prop} {s : Shared} {K : Frag} {x C f : Addr} {ox : Obj} {od : Option Obj}
theorem ne_entry (X : K.In s.heap) (I : InstAt s.heap x ox C od) (heq : findIn K (.ref C) "__eq__" = some (some (.ref f))) (hf : isFn K (.ref f) = true) (hu : A.units < cLine) {y : Addr} {Q : Fin → Shared → Prop}
    (hcall : wpAny (model prog w) A (call (.ref f) [.ref x, .ref y]) (fun v s' => ∃ b, v = .bool b ∧ Q (.done (.ret (.bool (!b)))) s') E s) :
    wpAny (model prog w) A (Builtin.«object.__ne__» ⟨[.ref x, .ref y], []⟩) Q E s := by
  unfold Builtin.«object.__ne__»
  repeat (first
    | with_reducible refine wpAny_cRoomFor hu ?_
    | (refine wpAny_bind (m := callSpecialIfBound? (.ref x) (Str.ofString "__eq__") [.ref y])
        (ifBound_K X I heq hf (wpAny_mono hcall (fun r s' hr => by
          obtain ⟨b, rfl, hq⟩ := hr
          repeat (first | exact hq | exact wpAny_pure hq | exact wpAny_truthy_bool hq | (refine wpAny_bind (m := truthy (.bool _)) (wpAny_truthy_bool ?_)) | wp_step)) fun _ _ e => e)))
    | wp_step)
theorem ne_own (X : K.In s.heap) (I : InstAt s.heap x ox C od) {y : Addr} (hy : Looks (model prog w) s.heap (typeOf (.ref y)) (.ref C)) (hne : findIn K (.ref C) "__ne__" = some (some (.builtin "object.__ne__"))) (heq : findIn K (.ref C) "__eq__" = some (some (.ref f)))
    (hf : isFn K (.ref f) = true) (hm : mroIn K C (.type "object") = some true) (hu : A.units + 1 < cLine) {Q : Value → Shared → Prop}
    (hcall : wpAny (model prog w) A.in1 (call (.ref f) [.ref x, .ref y]) (fun v s' => ∃ b, v = .bool b ∧ Q (.bool (!b)) s') E s) : wpAny (model prog w) A (compareOp .NotEq (.ref x) (.ref y)) Q E s := by
  have SL := F.cmp_object.ne
  have sub : Looks (model prog w) s.heap (isInstance (.ref x) (.type "object")) true := I.type.andThen (looks_mroIn X hm)
  have one : wpAny (model prog w) A (tryCompare (.ref x) (cmpInfo .NotEq).2.1 (.ref y)) (fun r s' => ∃ v, r = some v ∧ Q v s') E s := by
    unfold tryCompare
    simp only [callSpecialIfBound?, bindSpecialIfBound?]
    refine wpAny_bind (wpAny_holding (wpAny_bind (wpAny_bind (wpAny_bind (I.type.here ((looks_findIn X hne).here ?_))))))
    simp only [SL.bind]
    have fin : wpAny (model prog w) A (call (.builtin "object.__ne__") ([.ref x] ++ [.ref y])) (fun v s' => ∃ b, v = .bool b ∧ Q (.bool b) s') E s := by
      refine wpAny_call (codeAny_call_builtin SL.plain F.cmpEntry_ne (check_slot F.cmpKind_ne F.cmpSplit_ne sub (F.cmpArgs_ne _ _) (ne_entry (A := A.in1) X I heq hf hu (wpAny_mono hcall (fun v s' hv => ?_) fun _ _ e => e))))
      obtain ⟨b, rfl, hq⟩ := hv
      exact ⟨b, rfl, !b, rfl, hq⟩
    refine wpAny_bind (wpAny_askSetting (wpAny_ite ?_))
    split
    · refine wpAny_pure (wpAny_bind (wpAny_mono fin (fun v s' hv => ?_) fun _ _ e => e))
      obtain ⟨b, rfl, hq⟩ := hv
      exact wpAny_pure (wpAny_pure ⟨_, rfl, hq⟩)
    · refine wpAny_tryCatch (wpAny_pure (wpAny_bind (wpAny_mono fin (fun v s' hv => ?_) fun _ _ e => e)))
      obtain ⟨b, rfl, hq⟩ := hv
      exact wpAny_pure (wpAny_pure ⟨_, rfl, hq⟩)
  show wpAny _ _ (richCompare .NotEq (.ref x) (.ref y)) _ _ _
  unfold richCompare
  simp only [oneThing_ref]
  refine wpAny_holding (wpAny_bind (wpAny_cRoomFor (Nat.lt_of_succ_lt hu) ?_))
  refine wpAny_bind (I.type.here (wpAny_bind (hy.here ?_)))
  rw [if_neg (show ¬ (Value.ref C != Value.ref C) = true by simp)]
  refine wpAny_bind (wpAny_pure ?_)
  rw [if_neg Bool.false_ne_true]
  refine wpAny_bind (wpAny_mono one (fun r s' hr => ?_) fun _ _ e => e)
  obtain ⟨v, rfl, hq⟩ := hr
  exact wpAny_pure hq
end
section
variable {X : Cx} {C : Addr} {k j : Nat} {ps : List Str} {sp : Sp}
/-- what the class at C has for a != b -/
structure NeC (K : Frag) (C : Addr) : Prop where
  ne : PySem.W.findIn K (.ref C) "__ne__" = some (some (.builtin "object.__ne__"))
  ob : PySem.W.mroIn K C (.type "object") = some true
def rOwnNe (C : Addr) (sp : Sp) (E : XK) : R2 := fun x y H Q => ∃ a dx fs b dy gs, x = .ref a ∧ y = .ref b ∧ H a = some (.ins C dx fs) ∧ H b = some (.ins C dy gs) ∧ sp [.ref a, .ref b] H (fun r H' => ∃ t, r = .bl t ∧ Q (.bl (!t)) H') E
theorem op_ownNe {E : XK} (N : NeC X.K C) (O : OwnM X.prog X.w X.K X.mg X.base C "__eq__" j ps sp) (hr : Room k X.A) (hx : Passes (L2N.CX X.prog X.w) X E) (hj : j + 1 ≤ k := by decide) : OpR X (compareOp .NotEq) (rOwnNe C sp E) := by
  intro pins s σ H v x u ux Q I rv rx h
  obtain ⟨f, fd, F, M, hb⟩ := O
  obtain ⟨a, dx, fs, b, dy, gs, rfl, rfl, ha, hb', q⟩ := h
  cases (show u = Value.ref a from rv)
  cases (show ux = Value.ref b from rx)
  obtain ⟨mA, J, _⟩ := ins_get I.hok ha
  obtain ⟨mB, J', _⟩ := ins_get I.hok hb'
  obtain ⟨od, J, _⟩ := J.look
  obtain ⟨od', J', _⟩ := J'.look
  have hr1 : Room (j + 1) X.A := hr.mono hj
  have r2 : Vals [V.ref a, V.ref b] [Value.ref a, Value.ref b] := .cons rfl (.cons rfl .nil)
  refine ne_own I.kIn J J'.type N.ne M.at_ M.fn N.ob (by have := hr.un; omega) ?_
  refine wpAny_call (codeAny_mono (F.run X.A.in1 X.stack s H ⟨[.ref a, .ref b], []⟩ [.ref a, .ref b] [.ref a, .ref b] _ E hr1.in1 I.env0.in1 (by
    have z := hb s [.ref a, .ref b] I.kIn (by rw [List.append_nil, ← r2.length]; exact F.len _ _ _ _ q)
    simpa using z) r2 q) fun r s' hq => ?_)
  cases r with
  | error e => exact hx pins σ H s e s' I hq
  | ok fl =>
    cases fl with
    | ret w =>
      obtain ⟨z', H', I', rz, t, rfl, qz⟩ := I.after hq
      cases (show w = Value.bool t from rz)
      exact ⟨t, rfl, .bl (!t), H', I', rfl, qz⟩
    | next => exact False.elim hq
    | brk => exact False.elim hq
    | cont => exact False.elim hq
end
end Bt

set_option Elab.async false
set_option linter.all false
set_option maxRecDepth 100000
set_option maxHeartbeats 4000000
/-! own exceptions, their promises -/
namespace Bt
open PySem L2
/-- an own exception class with an own __init__, as the top has it -/
def ExAt (K : Frag) (mg : Str → Option Value) (x qual : Str) (st : Stmt) (fs : List Str) : Prop := ∃ (f : Addr) (fd : FuncData), FunD K "__init__" qual (defArgs st) (defBody st) (defScope st) [] [] f fd ∧ ExG K (He.ga K x) ∧
  PySem.W.findIn K (.ref (He.ga K x)) "__init__" = some (some (.ref f)) ∧ PySem.W.typeIn K (.ref f) = some (.type "function") ∧ mg x = some (.ref (He.ga K x)) ∧ ∀ n ∈ fs, PySem.W.findIn K (.ref (He.ga K x)) n = some none
/-- one without -/
structure ExNo (K : Frag) (mg : Str → Option Value) (x : Str) (bm : List Value) (newId : String) : Prop where
  q : PySem.W.excIn K (He.ga K x) bm newId = true
  g : mg x = some (.ref (He.ga K x))
  kC : PySem.W.keepIn K (.ref (He.ga K x)) = true
  exC : PySem.W.subIn K (.ref (He.ga K x)) (.type "BaseException") = some true
  tyC : PySem.W.typeIn K (.ref (He.ga K x)) = some (.type "type")
/-- .. by its promise -/
def OwnX (P : Program) (w : World) (K : Frag) (mg : Str → Option Value) (base : Heap) (x : Str) (k : Nat) (ps : List Str) (sp : Sp) : Prop :=
  ∃ (f : Addr) (fd : FuncData), FnOk P w K mg base (L2N.CX P w) k f fd ps sp ∧ ExG K (He.ga K x) ∧ PySem.W.findIn K (.ref (He.ga K x)) "__init__" = some (some (.ref f)) ∧ PySem.W.typeIn K (.ref f) = some (.type "function") ∧ mg x = some (.ref (He.ga K x)) ∧ Binds K fd ps []
theorem own_ofX {P : Program} {w : World} {K : Frag} {mg : Str → Option Value} {base : Heap} {x qual : Str} {st : Stmt} {N ps fs : List Str} {k : Nat} {sp : Sp} (F : ExAt K mg x qual st fs) (S : FnScope N ps (defScope st)) (b : BindP "__init__" qual st ps)
    (len : ∀ vs H Q E, sp vs H Q E → vs.length = ps.length) (body : BodyOk P w K mg base N qual st k sp) : OwnX P w K mg base x (k + 1) ps sp := by
  obtain ⟨f, fd, F, h1, h2, h3, h4, _⟩ := F
  exact ⟨f, fd, F.ok S len fun cdv A outer s H vs Q E hr h => body f cdv A outer s H vs Q E hr h, h1, h2, h3, h4, F.bindsN b⟩
section
variable {X : Cx} {k j : Nat} {x : Str} {ps : List Str} {sp : Sp} {e : Expr} {es : List Expr} {ta : TA} {p pos : Pos}
/-- a callee's errors go on as they are -/
theorem passX {P : Program} {w : World} {K : Frag} {mg : Str → Option Value} {base : Heap} {N : List Str} {qual : Str} {sc : Scope} {f : Addr} {cd : Value} {A : Around} {outer : List Env} {s : Shared} {H : Hp} {E : XK} :
    Passes (L2N.CX P w) (cxOf (L2N.CX P w) P w K mg base N qual sc f cd A outer s H E) E := L2N.passes_call (L2N.takes_of rfl rfl rfl rfl) fun _ _ _ _ h => h
theorem pmk_ownX (O : OwnX X.prog X.w X.K X.mg X.base x j ps sp) (hr : Room k X.A) (ha : PA X (e :: es) ta) (hj : j + 1 ≤ k := by decide) (hg : Gl X x := by rfl) (hdb : (x == ("__debug__" : Str)) = false := by decide)
    (he : starEach (e :: es) X.env = (false, eval e X.env) :: starEach es X.env := by rfl) (hpl : (backTo pos (starEach es X.env)).any (·.1) = false := by rfl) : L2N.PMk X (.Call (.Name x p) (e :: es) [] pos) (tMkO (He.ga X.K x) sp [] ta) := by
  obtain ⟨f, fd, F, T, h2, h3, h4, hb⟩ := O
  exact pmk_osg T h2 h3 F (hr.mono hj) hb passN hg h4 ha hdb he hpl
theorem pmk_ownX0 {bm : List Value} {newId B initId : String} (F : ExcBaseFacts B newId initId bm) (O : ExNo X.K X.mg x bm newId) (hg : Gl X x := by rfl) (hdb : (x == ("__debug__" : Str)) = false := by decide) :
    L2N.PMk X (.Call (.Name x p) [] [] pos) (fun _ H Q => Q (.ref (He.ga X.K x)) none H) := pmk_own0 F O.q O.g O.kC (raises_own O.exC O.tyC) hg hdb
end
section
variable {P : Program} {w : World} {K : Frag} {mg : Str → Option Value} {base : Heap} {H : Hp} {Q : VK} {σ : L2.St} {E : XK} {D : Ends}
/-- the __init__ of an exception with one field, with two -/
def spEx1 (K : Frag) (x f : Str) : Sp := fun vs H Q _ => ∃ a y, vs = [.ref a, y] ∧ H a = some (exo a (He.ga K x) none) ∧ ∀ dx, H dx = none → dx ≠ a → Q .non (upd (upd H dx (exd dx [(f, y)])) a (exo a (He.ga K x) (some dx)))
def spEx2 (K : Frag) (x f g : Str) : Sp := fun vs H Q _ => ∃ a y z, vs = [.ref a, y, z] ∧ H a = some (exo a (He.ga K x) none) ∧ ∀ dx, H dx = none → dx ≠ a → Q .non (upd (upd (upd H dx (exd dx [(f, y)])) a (exo a (He.ga K x) (some dx))) dx (exd dx [(g, z), (f, y)]))
/-- an error of this class with these fields is looked for, all that stood stands -/
def XErr (K : Frag) (x : Str) (fs : List (Str × V)) (H : Hp) (E : XK) : Prop := ∀ d H', Same H H' → H' d = some (.xd fs) → E (.ref (He.ga K x)) (some d) H'
theorem w_mkO {C : Addr} {sp : Sp} {ta : TA} (h : ta σ H fun vs H1 => vs.length ≤ 1000 ∧ ∀ a, H1 a = none → sp (.ref a :: (vs ++ [])) (upd H1 a (exo a C none))
    (fun v H2 => v = .non ∧ ∃ (d : Addr) (fs : List (Str × V)), H2 a = some (exo a C (some d)) ∧ H2 d = some (exd d fs) ∧ H1 d = none ∧ E (.ref C) (some d) (upd (del H2 a) d (.xd fs))) (fun _ _ _ => False)) : tMkO C sp [] ta σ H E := h
theorem w_mk1 {x f : Str} {y : V} (q : XErr K x [(f, y)] H E) : ([y] : List V).length ≤ 1000 ∧ ∀ a, H a = none → spEx1 K x f (.ref a :: ([y] ++ [])) (upd H a (exo a (He.ga K x) none))
      (fun v H2 => v = .non ∧ ∃ (d : Addr) (fs : List (Str × V)), H2 a = some (exo a (He.ga K x) (some d)) ∧ H2 d = some (exd d fs) ∧ H d = none ∧ E (.ref (He.ga K x)) (some d) (upd (del H2 a) d (.xd fs))) (fun _ _ _ => False) :=
    ⟨Nat.le_of_ble_eq_true rfl, fun a ha => ⟨a, y, rfl, upd_same, fun dx hdx hne => by
      have hd1 : H dx = none := by rw [upd_ne hne] at hdx; exact hdx
      refine ⟨rfl, dx, [(f, y)], upd_same, by rw [upd_ne hne, upd_same], hd1, q dx _ (fun b o e => ?_) upd_same⟩
      have n1 : b ≠ dx := ne_of_none e hd1
      have n2 : b ≠ a := ne_of_none e ha
      rw [upd_ne n1, del_ne n2, upd_ne n2, upd_ne n1, upd_ne n2]; exact e⟩⟩
theorem w_mk2 {x f g : Str} {y z : V} (q : XErr K x [(g, z), (f, y)] H E) : ([y, z] : List V).length ≤ 1000 ∧ ∀ a, H a = none → spEx2 K x f g (.ref a :: ([y, z] ++ [])) (upd H a (exo a (He.ga K x) none))
      (fun v H2 => v = .non ∧ ∃ (d : Addr) (fs : List (Str × V)), H2 a = some (exo a (He.ga K x) (some d)) ∧ H2 d = some (exd d fs) ∧ H d = none ∧ E (.ref (He.ga K x)) (some d) (upd (del H2 a) d (.xd fs))) (fun _ _ _ => False) :=
    ⟨Nat.le_of_ble_eq_true rfl, fun a ha => ⟨a, y, z, rfl, upd_same, fun dx hdx hne => by
      have hd1 : H dx = none := by rw [upd_ne hne] at hdx; exact hdx
      refine ⟨rfl, dx, [(g, z), (f, y)], by rw [upd_ne (Ne.symm hne), upd_same], upd_same, hd1, q dx _ (fun b o e => ?_) upd_same⟩
      have n1 : b ≠ dx := ne_of_none e hd1
      have n2 : b ≠ a := ne_of_none e ha
      rw [upd_ne n1, del_ne n2, upd_ne n1, upd_ne n2, upd_ne n1, upd_ne n2]; exact e⟩⟩
theorem w_raise {t : L2.St → Hp → XK → Prop} {W : WX} (h : t σ H fun cls d H' => W cls d σ H') : (fun (_ : Ends) (σ : L2.St) (H : Hp) => t σ H fun cls d H' => W cls d σ H') D σ H := h
theorem w_osg {f : Str} {to te : TE} (h : te σ H fun y H1 => to σ H1 fun x H2 => ∃ a C : Addr, x = .ref a ∧ ExG K C ∧ PySem.W.findIn K (.ref C) f = some none ∧
  ((H2 a = some (exo a C none) ∧ ∀ dx, H2 dx = none → dx ≠ a → D.nx σ (upd (upd H2 dx (exd dx [(f, y)])) a (exo a C (some dx)))) ∨
    ∃ (dx : Addr) (fs : List (Str × V)), H2 a = some (exo a C (some dx)) ∧ H2 dx = some (exd dx fs) ∧ fs.length ≤ 900 ∧ D.nx σ (upd H2 dx (exd dx ((f, y) :: fs))))) : tOsg K f to te D σ H := h
theorem w_dst {td tk tv : TE} (h : ∀ d, H d = none → td σ (upd H d (.dK [])) fun x H1 => ∃ a kvs, x = .ref a ∧ a ≠ d ∧ Rd H1 a (.dK kvs) ∧ H1 d = some (.dK []) ∧ kvs.length ≤ 1000 ∧
  ∀ u, H1 u = none → tk σ (upd (upd H1 d (.dK kvs)) u (.dK [])) fun y H2 => tv σ H2 fun z H3 => ∃ k, y = kV k ∧ H3 d = some (.dK kvs) ∧ H3 u = some (.dK []) ∧ Q (.ref d) (upd (upd H3 u (.dK [(k, z)])) d (.dK (putK kvs k z)))) : tDst td tk tv σ H Q := h
theorem w_gfld {ta : TE} {f : Str} {v : V} {q : L2.St → Hp → Prop} (h : ta σ H fun x H1 => ∃ a C dx fs, x = .ref a ∧ H1 a = some (.ins C dx fs) ∧ Cls K C ∧ NoAttr K C f ∧ fs.length < 1000 ∧ q σ (upd H1 a (.ins C dx (putF f v fs)))) : gFld K ta f v σ H q := h
end
end Bt

set_option Elab.async false
set_option linter.all false
set_option maxRecDepth 100000
set_option maxHeartbeats 4000000
/-! what the walk asks of the top -/
namespace Bt
open PySem L2
/-- what the top has left -/
structure Txt (w : World) (K : Frag) (mg : Str → Option Value) : Prop where
  f_is_integer : FnAt K mg "is_integer" (top 31)
  f_is_between : FnAt K mg "is_between" (top 32)
  f_is_name : FnAt K mg "is_name" (top 34)
  f_number_in : FnAt K mg "number_in" (top 35)
  f_is_place : FnAt K mg "is_place" (top 36)
  f_are_places : FnAt K mg "are_places" (top 38)
  f_places_fault : FnAt K mg "places_fault" (top 39)
  f_check_places : FnAt K mg "check_places" (top 40)
  f_knots_fault : FnAt K mg "knots_fault" (top 45)
  f_check_frame : FnAt K mg "check_frame" (top 47)
  f_within : FnAt K mg "within" (top 48)
  f_is_up : FnAt K mg "is_up" (top 63)
  f_lengths_from : FnAt K mg "lengths_from" (top 66)
  f_rank_of : FnAt K mg "rank_of" (top 67)
  f_check_both : FnAt K mg "check_both" (top 68)
  f_rank : FnAt K mg "rank" (top 69)
  f_is_claim : FnAt K mg "is_claim" (top 72)
  f_names_in : FnAt K mg "names_in" (top 73)
  f_is_kept : FnAt K mg "is_kept" (top 74)
  f_shown_by : FnAt K mg "shown_by" (top 75)
  f_check_kept : FnAt K mg "check_kept" (top 78)
  f_numbers_in : FnAt K mg "numbers_in" (top 96)
  f_claim_in : FnAt K mg "claim_in" (top 98)
  f_put_in_words : FnAt K mg "put_in_words" (top 99)
  f_short_in : FnAt K mg "short_in" (top 101)
  f_parts_in : FnAt K mg "parts_in" (top 102)
  f_law_urn : FnAt K mg "_law_urn" (top 105)
  f_law_grab : FnAt K mg "_law_grab" (top 106)
  f_law_take : FnAt K mg "_law_take" (top 107)
  f_law_shape : FnAt K mg "_law_shape" (top 108)
  f_law_many : FnAt K mg "_law_many" (top 109)
  f_law_framed : FnAt K mg "_law_framed" (top 110)
  f_law_sites : FnAt K mg "_law_sites" (top 111)
  f_law_is_up : FnAt K mg "_law_is_up" (top 112)
  f_law_free : FnAt K mg "_law_free" (top 113)
  f_law_want : FnAt K mg "_law_want" (top 114)
  f_law_shown : FnAt K mg "_law_shown" (top 115)
  f_law_broken : FnAt K mg "_law_broken" (top 116)
  f_law_behind : FnAt K mg "_law_behind" (top 117)
  f_law_new_deed : FnAt K mg "_law_new_deed" (top 118)
  f_law_near : FnAt K mg "_law_near" (top 119)
  f_law_desk_is : FnAt K mg "_law_desk_is" (top 121)
  f_law_written : FnAt K mg "_law_written" (top 122)
  f_law_slip : FnAt K mg "_law_slip" (top 123)
  f_law_heard : FnAt K mg "_law_heard" (top 124)
  f_law_right : FnAt K mg "_law_right" (top 125)
  f_law : FnAt K mg "law" (top 126)
  m_Frame_eq : MtAt K (He.ga K "Frame") "__eq__" "Frame.__eq__" (inClass (top 46) 6)
  m_Desk_contains : MtAt K (He.ga K "Desk") "__contains__" "Desk.__contains__" (inClass (top 79) 1)
  m_Desk_need : MtAt K (He.ga K "Desk") "need" "Desk.need" (inClass (top 79) 5)
  m_Desk_put : MtAt K (He.ga K "Desk") "put" "Desk.put" (inClass (top 79) 6)
  m_Desk_thing : MtAt K (He.ga K "Desk") "thing" "Desk.thing" (inClass (top 79) 7)
  m_Desk_drop : MtAt K (He.ga K "Desk") "drop" "Desk.drop" (inClass (top 79) 8)
  m_Desk_claim : MtAt K (He.ga K "Desk") "claim" "Desk.claim" (inClass (top 79) 9)
  m_Desk_lift : MtAt K (He.ga K "Desk") "lift" "Desk.lift" (inClass (top 79) 10)
  m_Desk_undo : MtAt K (He.ga K "Desk") "undo" "Desk.undo" (inClass (top 79) 11)
  m_Console_run : MtAt K (He.ga K "Console") "run" "Console.run" (inClass (top 103) 2)
  m_Console_change : MtAt K (He.ga K "Console") "change" "Console.change" (inClass (top 103) 3)
  m_Console_answer : MtAt K (He.ga K "Console") "answer" "Console.answer" (inClass (top 103) 4)
  p_Frame_degree : PrAt K (He.ga K "Frame") "degree" "Frame.degree" (inClass (top 46) 2)
  p_Frame_knots : PrAt K (He.ga K "Frame") "knots" "Frame.knots" (inClass (top 46) 3)
  p_Frame_hills : PrAt K (He.ga K "Frame") "hills" "Frame.hills" (inClass (top 46) 4)
  p_Frame_text : PrAt K (He.ga K "Frame") "text" "Frame.text" (inClass (top 46) 5)
  p_Desk_names : PrAt K (He.ga K "Desk") "names" "Desk.names" (inClass (top 79) 2)
  p_Desk_claims : PrAt K (He.ga K "Desk") "claims" "Desk.claims" (inClass (top 79) 3)
  p_Desk_changes : PrAt K (He.ga K "Desk") "changes" "Desk.changes" (inClass (top 79) 4)
  p_Console_desk : PrAt K (He.ga K "Console") "desk" "Console.desk" (inClass (top 103) 1)
  n_Frame : InAt K mg "Frame" "Frame.__init__" (inClass (top 46) 0)
  n_Page : InAt K mg "Page" "Page.__init__" (inClass (top 77) 0)
  n_Desk : InAt K mg "Desk" "Desk.__init__" (inClass (top 79) 0)
  n_Console : InAt K mg "Console" "Console.__init__" (inClass (top 103) 0)
  k_Frame : Cls K (He.ga K "Frame")
  k_Page : Cls K (He.ga K "Page")
  k_Desk : Cls K (He.ga K "Desk")
  k_Console : Cls K (He.ga K "Console")
  x_InvalidIndex : ExAt K mg "InvalidIndex" "InvalidIndex.__init__" (inClass (top 6) 0) ["given"]
  x_UnknownName : ExAt K mg "UnknownName" "UnknownName.__init__" (inClass (top 16) 0) ["given"]
  x_InUse : ExAt K mg "InUse" "InUse.__init__" (inClass (top 17) 0) ["index"]
  x_Broken : ExAt K mg "Broken" "Broken.__init__" (inClass (top 20) 0) ["index", "shown"]
  x_NothingToUndo : ExNo K mg "NothingToUndo" [.type "LookupError", .type "Exception", .type "BaseException", .type "object"] "LookupError.__new__"
  q_Frame : NeC K (He.ga K "Frame")
  c_Frame : C8.InsC K (He.ga K "Frame")
  a_Frame_parts : NoAttr K (He.ga K "Frame") "parts"
  a_Page_shelf : NoAttr K (He.ga K "Page") "shelf"
  a_Page_wanted : NoAttr K (He.ga K "Page") "wanted"
  a_Page_ahead : NoAttr K (He.ga K "Page") "ahead"
  a_Page_depth : NoAttr K (He.ga K "Page") "depth"
  a_Desk_page : NoAttr K (He.ga K "Desk") "page"
  a_Console_table : NoAttr K (He.ga K "Console") "table"
  g_Frame : mg "Frame" = some (.ref (He.ga K "Frame"))
  g_Page : mg "Page" = some (.ref (He.ga K "Page"))
  g_Desk : mg "Desk" = some (.ref (He.ga K "Desk"))
  g_Console : mg "Console" = some (.ref (He.ga K "Console"))
  b_len : mg "len" = none
  b_range : mg "range" = none
  b_isinstance : mg "isinstance" = none
  b_int : mg "int" = none
  b_str : mg "str" = none
  b_bool : mg "bool" = none
  b_tuple : mg "tuple" = none
  b_list : mg "list" = none
  b_dict : mg "dict" = none
  b_set : mg "set" = none
  b_abs : mg "abs" = none
  b_all : mg "all" = none
  b_max : mg "max" = none
  b_min : mg "min" = none
  b_sorted : mg "sorted" = none
  b_repr : mg "repr" = none
  b_enumerate : mg "enumerate" = none
  b_ValueError : mg "ValueError" = none
  b_LookupError : mg "LookupError" = none
  b_ArithmeticError : mg "ArithmeticError" = none
  i_MOST_DEGREE : ∃ t, mg "MOST_DEGREE" = some (.int 4 t)
  i_MOST_KNOT : ∃ t, mg "MOST_KNOT" = some (.int 1000000 t)
  i_MOST_HILLS : ∃ t, mg "MOST_HILLS" = some (.int 10 t)
  i_MOST_PLACES : ∃ t, mg "MOST_PLACES" = some (.int 12 t)
  i_MOST_HEIGHT : ∃ t, mg "MOST_HEIGHT" = some (.int 100000000000000000000 t)
  i_MOST_LETTERS : ∃ t, mg "MOST_LETTERS" = some (.int 8 t)
  i_MOST_FIGURES : ∃ t, mg "MOST_FIGURES" = some (.int 60 t)
  i_MOST_NUMBERS : ∃ t, mg "MOST_NUMBERS" = some (.int 15 t)
  s_LETTERS : ∃ t, mg "LETTERS" = some (.str "abcdefghijklmnopqrstuvwxyz" t)
  s_FIGURES : ∃ t, mg "FIGURES" = some (.str "0123456789" t)
  g_CLAIMS : mg "CLAIMS" = some (.ref (He.ga K "CLAIMS"))
  t_CLAIMS : ∀ H, SqT K H (He.ga K "CLAIMS") [.str "all", .str "one"]
  g_SIZES : mg "SIZES" = some (.ref (He.ga K "SIZES"))
  l_SIZES : ∃ es n, K.lookup (He.ga K "SIZES") = some ⟨.type "dict", none, .dict es n, #[]⟩
  z_SIZES : ∀ (k : Str) (i : Int), (k, i) ∈ [(("all" : Str), (3 : Int)), ("one", 3), ("rank", 4), ("within", 3)] → KAns K w (He.ga K "SIZES") k (some (.int i))

end Bt

set_option Elab.async false
set_option linter.all false
set_option maxRecDepth 100000
set_option maxHeartbeats 4000000
/-! numbers, frames -/
namespace Bt
open PySem L2
set_option pp.maxSteps 900
local macro_rules | `(tactic| walk_at "lk") => `(tactic| first
  | assumption
  | exact upd_same
  | (refine at_new ?_ ?_; · assumption
     walk_at "lk")
  | (refine at_mut ?_ ?_; · assumption
     walk_at "lk")
  | (refine at_same ?_ ?_; · assumption
     walk_at "lk"))
local macro_rules | `(tactic| walk_at "w1") => `(tactic| with_reducible first
  | refine w_seq ?_ | refine w_asg ?_ | refine w_name ?_ | refine w_ret ?_ | refine w_retN ?_ | refine w_drop ?_ | refine w_next ?_
  | refine w_op ?_ | refine w_var rfl ?_ | refine w_c ?_ | refine w_un ?_ | refine w_test ?_ | refine w_tB ?_ | refine w_bl ?_ | refine w_chain ?_
  | refine w_and ?_ | refine w_or ?_ | refine w_not ?_ | refine w_andV ?_ | refine w_orV ?_ | refine w_notV ?_ | refine w_cons ?_ | refine w_nil ?_
  | refine w_par ?_ | refine w_parL ?_ | refine w_call ?_ | refine w_CB ?_ | refine w_prop ?_ | refine w_fld ?_ | refine w_meth ?_ | refine w_make ?_ | refine w_tup ?_ | refine w_lst ?_
  | refine w_I0 ?_ | refine w_U ?_ | refine w_addI ?_ | refine w_eqI ?_ | refine w_eqS ?_ | refine w_neI ?_ | refine w_neS ?_ | refine w_isN ?_ | refine w_notN ?_
  | refine w_tt ?_ | refine w_ff ?_ | refine w_nt ?_ | refine w_nf ?_ | refine w_ntt ?_ | refine w_att ?_ | refine w_js ?_ | refine w_jsN ?_ | refine w_fmtS ?_ | refine w_m1 ?_ | refine w_m1L ?_ | refine w_sfld ?_ | refine w_bm ?_ | refine w_dc ?_ | refine w_iIt ?_ | refine w_star ?_ | refine w_mkO ?_ | refine w_raise ?_ | refine w_osg ?_ | refine w_gfld ?_ | refine w_kget ?_ | refine w_dget ?_ | refine w_din ?_ | refine w_dnotin ?_ | refine w_slice ?_ | refine w_on ?_ | refine w_os ?_ | refine w_sub ?_ | refine w_bmN ?_ | refine w_intI ?_ | refine w_intB ?_ | refine w_strS ?_
  | refine w_lc ?_ | refine w_for ?_ | refine w_iL ?_ | refine w_iT ?_ | refine w_iS ?_ | refine w_iK ?_ | refine w_iR1 ?_ | refine w_iR3 ?_ | refine w_iET ?_ | refine w_srcS ?_)
local macro_rules | `(tactic| walk_at "w") => `(tactic| (repeat walk_at "w1"); try (with_reducible refine w_ifN ?_))
local macro_rules | `(tactic| walk_at "ws") => `(tactic| with_reducible first | refine w_seq ?_ | refine w_next ?_)
local macro_rules | `(tactic| walk_at "w2") => `(tactic| repeat with_reducible first | refine w_seq ?_ | refine w_asg ?_ | refine w_name ?_ | refine w_next ?_)
local macro_rules | `(tactic| walk_at "sz") => `(tactic| (rw [sizeLine_eq]; exact Nat.le_of_ble_eq_true rfl))
/-- a Frame stands at a -/
def FrameAt (K : Frag) (H : Hp) (a : Addr) (d : Int) (ks : List Int) : Prop := ∃ dx p q, H a = some (.ins (He.ga K "Frame") dx [("parts", .ref p)]) ∧ H p = some (.tup [.int d, .ref q]) ∧ TN H q (ks.map V.int)
def up (d : Int) (ks : List Int) (h x : Int) : Bool := (decide (kat ks h < x) && decide (x < kat ks (h + d + 1))) || ((decide (x = kat ks h) && decide (x = kat ks (h + d))) || (decide (x = kat ks ((ks.length : Int) - 1)) && decide (x = kat ks (h + 1))))
def spKnots (K : Frag) : Sp := fun vs H Q _ => ∃ a dx p dv q, vs = [.ref a] ∧ H a = some (.ins (He.ga K "Frame") dx [("parts", .ref p)]) ∧ H p = some (.tup [dv, q]) ∧ Q q H
def spDegree (K : Frag) : Sp := fun vs H Q _ => ∃ a dx p dv q, vs = [.ref a] ∧ H a = some (.ins (He.ga K "Frame") dx [("parts", .ref p)]) ∧ H p = some (.tup [dv, q]) ∧ Q dv H
def spUp (K : Frag) : Sp := fun vs H Q _ => ∃ a d ks h x, vs = [.ref a, .int h, .int x] ∧ FrameAt K H a d ks ∧ 0 ≤ d ∧ 0 ≤ h ∧ h + d + 1 < ks.length ∧ Q (.bl (up d ks h x)) H
section
variable {P : Program} {w : World} {K : Frag} {mg : Str → Option Value} {base : Heap}
theorem c_knots {a dx p : Addr} {dv q : V} {H : Hp} {Q : VK} {E : XK} (e1 : H a = some (.ins (He.ga K "Frame") dx [("parts", .ref p)])) (e2 : H p = some (.tup [dv, q])) (h : Q q H) : spKnots K [.ref a] H Q E := ⟨a, dx, p, dv, q, rfl, e1, e2, h⟩
theorem c_degree {a dx p : Addr} {dv q : V} {H : Hp} {Q : VK} {E : XK} (e1 : H a = some (.ins (He.ga K "Frame") dx [("parts", .ref p)])) (e2 : H p = some (.tup [dv, q])) (h : Q dv H) : spDegree K [.ref a] H Q E := ⟨a, dx, p, dv, q, rfl, e1, e2, h⟩
abbrev s_Frame_knots : Stmt := inClass (top 46) 3
theorem sc_Frame_knots : FnScope ["self"] ["self"] (defScope s_Frame_knots) := ⟨rfl, rfl, rfl, by decide +kernel, rfl, by decide +kernel, by decide +kernel⟩
theorem ok_Frame_knots (T : Txt w K mg) : OwnP P w K mg base (He.ga K "Frame") "knots" 1 (spKnots K) := by
  refine own_ofP T.p_Frame_knots sc_Frame_knots (fun _ _ _ _ _ _ us hl => match us, hl with | [_], _ => rfl) (fun vs H Q E h => ?_) (fun f cdv A outer s H vs Q E hr h => ?_)
  · obtain ⟨a, dx, p, dv, q, rfl, _⟩ := h; rfl
  · have sc := sc_Frame_knots
    obtain ⟨a, dx, p, dv, q, rfl, h1, h2, k⟩ := h
    refine ⟨_, (pss_one (ps_ret (pe_ix ix_seq (pe_fld (pv 0) rfl) pe_int (fun _ _ => rfl)))), ?_⟩
    walk_at "w"
    refine w_fldL h1 T.k_Frame T.a_Frame_parts rfl ?_
    walk_at "w"
    exact w_ixTa h2 rfl k
abbrev s_Frame_degree : Stmt := inClass (top 46) 2
theorem sc_Frame_degree : FnScope ["self"] ["self"] (defScope s_Frame_degree) := ⟨rfl, rfl, rfl, by decide +kernel, rfl, by decide +kernel, by decide +kernel⟩
theorem ok_Frame_degree (T : Txt w K mg) : OwnP P w K mg base (He.ga K "Frame") "degree" 1 (spDegree K) := by
  refine own_ofP T.p_Frame_degree sc_Frame_degree (fun _ _ _ _ _ _ us hl => match us, hl with | [_], _ => rfl) (fun vs H Q E h => ?_) (fun f cdv A outer s H vs Q E hr h => ?_)
  · obtain ⟨a, dx, p, dv, q, rfl, _⟩ := h; rfl
  · have sc := sc_Frame_degree
    obtain ⟨a, dx, p, dv, q, rfl, h1, h2, k⟩ := h
    refine ⟨_, (pss_one (ps_ret (pe_ix ix_seq (pe_fld (pv 0) rfl) pe_int (fun _ _ => rfl)))), ?_⟩
    walk_at "w"
    refine w_fldL h1 T.k_Frame T.a_Frame_parts rfl ?_
    walk_at "w"
    exact w_ixTa h2 rfl k
abbrev s_is_up : Stmt := top 63
theorem sc_is_up : FnScope ["frame", "hill", "place", "knots", "degree"] ["frame", "hill", "place"] (defScope s_is_up) := ⟨rfl, rfl, rfl, by decide +kernel, rfl, by decide +kernel, by decide +kernel⟩
theorem ok_is_up (T : Txt w K mg) : Own P w K mg base "is_up" 4 ["frame", "hill", "place"] (spUp K) := by
  refine own_of T.f_is_up sc_is_up (fun _ _ _ _ _ _ us hl => match us, hl with | [_, _, _], _ => rfl) (fun vs H Q E h => ?_) (fun f cdv A outer s H vs Q E hr h => ?_)
  · obtain ⟨a, d, ks, h, x, rfl, _⟩ := h; rfl
  · have sc := sc_is_up
    have hu64 := hr.units
    obtain ⟨a, d, ks, h, x, rfl, ⟨dx, p, q, ha, hp, hq⟩, d0, h0, h1, k⟩ := h
    refine ⟨_, (pss_cons (ps_par (i := 3) (j := 4) (by rfl) sc.nd rfl rfl (by decide) rfl rfl (pa_cons (pe_ownP (ok_Frame_knots T) T.k_Frame hr passN (pv 0)) (pa_cons (pe_ownP (ok_Frame_degree T) T.k_Frame hr passN (pv 0)) pa_nil)) (by rfl))
      (pss_cons (ps_if (pt_chain op_lt op_lt (pe_ix ix_seq (pv 3) (pv 1) (fun _ _ => rfl)) (pv 2) (pe_ix ix_seq (pv 3) (pe_op op_addU (pe_op op_addU (pv 1) (pv 4)) pe_int) (fun _ _ => rfl))) (pss_one (ps_ret pe_bl)) pss_nil)
      (pss_cons (ps_if (PW.pt (pw_and (pt_cmpR (op_eqU (by exact hu64)) (pv 2) (pe_ix ix_seq (pv 3) (pv 1) (fun _ _ => rfl)) (nomark _)) (pw_and1 (pt_cmpR (op_eqU (by exact hu64)) (pv 2) (pe_ix ix_seq (pv 3) (pe_op op_addU (pv 1) (pv 4)) (fun _ _ => rfl)) (nomark _))))) (pss_one (ps_ret pe_bl)) pss_nil)
      (pss_one (ps_ret (pe_and (pe_cmpR (op_eqU (by exact hu64)) (pv 2) (pe_ix ix_seq (pv 3) (pe_un un_neg pe_int) (fun _ _ => rfl)) (nomark _)) (pe_one (pe_cmpR (op_eqU (by exact hu64)) (pv 2) (pe_ix ix_seq (pv 3) (pe_op op_addU (pv 1) pe_int) (fun _ _ => rfl)) (nomark _))))))))), ?_⟩
    walk_at "w"
    refine w_propL ha (c_knots ha hp ?_)
    walk_at "w"
    refine w_propL ha (c_degree ha hp ?_)
    walk_at "w"
    have ge : ∀ {i : Int}, 0 ≤ i → i < ks.length → atI (ks.map V.int) i = some (.int (kat ks i)) := fun a b => atI_kat a b
    refine w_ifb (decide (kat ks h < x) && decide (x < kat ks (h + d + 1))) (fun q2 hq2 => ?_) (fun c => ?_) (fun c => ?_)
    · walk_at "w"
      refine w_ixN hq (ge (by omega) (by omega)) ?_
      walk_at "w"
      refine w_iteAT hq2 fun _ hq3 => ?_
      walk_at "w"
      refine w_ixN hq (ge (by omega) (by omega)) ?_
      walk_at "w"
      exact hq3
    · walk_at "w"
      rw [show up d ks h x = true by simp only [up, c, Bool.true_or]] at k
      exact k
    · walk_at "w"
      refine w_ifb (decide (x = kat ks h) && decide (x = kat ks (h + d))) (fun q2 hq2 => ?_) (fun c2 => ?_) (fun c2 => ?_)
      · walk_at "w"
        refine w_ixN hq (ge (by omega) (by omega)) ?_
        walk_at "w"
        refine w_iteA hq2 fun _ hq3 => ?_
        walk_at "w"
        refine w_ixN hq (ge (by omega) (by omega)) ?_
        walk_at "w"
        exact hq3
      · walk_at "w"
        rw [show up d ks h x = true by simp only [up, c2, Bool.true_or, Bool.or_true]] at k
        exact k
      · rw [show up d ks h x = (decide (x = kat ks ((ks.length : Int) - 1)) && decide (x = kat ks (h + 1))) by simp only [up, c, c2, Bool.false_or]] at k
        walk_at "w"
        refine w_ixN hq (atI_katLast (by omega)) ?_
        walk_at "w"
        refine w_iteAV k fun _ k2 => ?_
        walk_at "w"
        refine w_ixN hq (ge (by omega) (by omega)) ?_
        walk_at "w"
        exact k2
end
end Bt

set_option Elab.async false
set_option linter.all false
set_option maxRecDepth 100000
set_option maxHeartbeats 4000000
/-! words -/
namespace Bt
open PySem L2
set_option pp.maxSteps 900
local macro_rules | `(tactic| walk_at "lk") => `(tactic| first
  | assumption
  | exact upd_same
  | (refine at_new ?_ ?_; · assumption
     walk_at "lk")
  | (refine at_mut ?_ ?_; · assumption
     walk_at "lk")
  | (refine at_same ?_ ?_; · assumption
     walk_at "lk"))
local macro_rules | `(tactic| walk_at "w1") => `(tactic| with_reducible first
  | refine w_seq ?_ | refine w_asg ?_ | refine w_name ?_ | refine w_ret ?_ | refine w_retN ?_ | refine w_drop ?_ | refine w_next ?_
  | refine w_op ?_ | refine w_var rfl ?_ | refine w_c ?_ | refine w_un ?_ | refine w_test ?_ | refine w_tB ?_ | refine w_bl ?_ | refine w_chain ?_
  | refine w_and ?_ | refine w_or ?_ | refine w_not ?_ | refine w_andV ?_ | refine w_orV ?_ | refine w_notV ?_ | refine w_cons ?_ | refine w_nil ?_
  | refine w_par ?_ | refine w_parL ?_ | refine w_call ?_ | refine w_CB ?_ | refine w_prop ?_ | refine w_fld ?_ | refine w_meth ?_ | refine w_make ?_ | refine w_tup ?_ | refine w_lst ?_
  | refine w_I0 ?_ | refine w_U ?_ | refine w_addI ?_ | refine w_eqI ?_ | refine w_eqS ?_ | refine w_neI ?_ | refine w_neS ?_ | refine w_isN ?_ | refine w_notN ?_
  | refine w_tt ?_ | refine w_ff ?_ | refine w_nt ?_ | refine w_nf ?_ | refine w_ntt ?_ | refine w_att ?_ | refine w_js ?_ | refine w_jsN ?_ | refine w_fmtS ?_ | refine w_m1 ?_ | refine w_m1L ?_ | refine w_sfld ?_ | refine w_bm ?_ | refine w_dc ?_ | refine w_iIt ?_ | refine w_star ?_ | refine w_mkO ?_ | refine w_raise ?_ | refine w_osg ?_ | refine w_gfld ?_ | refine w_kget ?_ | refine w_dget ?_ | refine w_din ?_ | refine w_dnotin ?_ | refine w_slice ?_ | refine w_on ?_ | refine w_os ?_ | refine w_sub ?_ | refine w_bmN ?_ | refine w_intI ?_ | refine w_intB ?_ | refine w_strS ?_
  | refine w_lc ?_ | refine w_for ?_ | refine w_iL ?_ | refine w_iT ?_ | refine w_iS ?_ | refine w_iK ?_ | refine w_iR1 ?_ | refine w_iR3 ?_ | refine w_iET ?_ | refine w_srcS ?_)
local macro_rules | `(tactic| walk_at "w") => `(tactic| (repeat walk_at "w1"); try (with_reducible refine w_ifN ?_))
local macro_rules | `(tactic| walk_at "ws") => `(tactic| with_reducible first | refine w_seq ?_ | refine w_next ?_)
local macro_rules | `(tactic| walk_at "w2") => `(tactic| repeat with_reducible first | refine w_seq ?_ | refine w_asg ?_ | refine w_name ?_ | refine w_next ?_)
local macro_rules | `(tactic| walk_at "sz") => `(tactic| (rw [sizeLine_eq]; exact Nat.le_of_ble_eq_true rfl))
section
variable {P : Program} {w : World} {K : Frag} {mg : Str → Option Value} {base : Heap} {H : Hp} {Q : VK}
theorem w_isiI {i : Int} (h : Q (.bl true) H) : rIsi K [.int i, .ty "int"] H Q := ⟨.int i, .ty "int", .type "int", .type "int", true, rfl, .ty _, .base (.int i), kit_ty rfl, h⟩
theorem w_isiB {i : Int} (h : Q (.bl false) H) : rIsi K [.int i, .ty "bool"] H Q := ⟨.int i, .ty "bool", .type "int", .type "bool", false, rfl, .ty _, .base (.int i), kit_ty rfl, h⟩
theorem w_isiS {z : Str} (h : Q (.bl true) H) : rIsi K [.str z, .ty "str"] H Q := ⟨.str z, .ty "str", .type "str", .type "str", true, rfl, .ty _, .base (.str z), kit_ty rfl, h⟩
theorem w_isiT {p : Addr} {xs : List V} (e : H p = some (.tup xs)) (h : Q (.bl true) H) : rIsi K [.ref p, .ty "tuple"] H Q := ⟨.ref p, .ty "tuple", .type "tuple", .type "tuple", true, rfl, .ty _, .base (.tup e), kit_ty rfl, h⟩
theorem w_ixS {z : Str} {i : Int} {c : Nat} (l : z.length ≤ sizeLine) (a : atI z.cps.toList i = some c) (h : Q (.str ⟨#[c]⟩) H) : rIx K (.str z) (.int i) H Q := .inr (.inr ⟨z, i, c, rfl, rfl, l, a, h⟩)
theorem w_all {a : Addr} {bs : List Bool} (e : SqL K H a (bs.map V.bl)) (h : Q (.bl (bs.all id)) H) : rAll K [.ref a] H Q := ⟨a, bs, rfl, e, h⟩
def spIsInt : Sp := fun vs H Q _ => ∃ i : Int, vs = [.int i] ∧ Q (.bl true) H
abbrev s_is_integer : Stmt := top 31
theorem sc_is_integer : FnScope ["value"] ["value"] (defScope s_is_integer) := ⟨rfl, rfl, rfl, by decide +kernel, rfl, by decide +kernel, by decide +kernel⟩
theorem ok_is_integer (T : Txt w K mg) : Own P w K mg base "is_integer" 1 ["value"] spIsInt := by
  refine own_of T.f_is_integer sc_is_integer (fun _ _ _ _ _ _ us hl => match us, hl with | [_], _ => rfl) (fun vs H Q E h => ?_) (fun f cdv A outer s H vs Q E hr h => ?_)
  · obtain ⟨i, rfl, _⟩ := h; rfl
  · have sc := sc_is_integer
    obtain ⟨i, rfl, k⟩ := h
    refine ⟨_, (pss_one (ps_ret (pe_and (pe_callB call_isi (by rfl) T.b_isinstance (by decide +kernel) (pa_cons (pv 0) (pa_cons (pe_bltn (v := .ty "int") (u := .type "int") rfl T.b_int (by decide +kernel) rfl) pa_nil))) (pe_one (pe_not (pe_callB call_isi (by rfl) T.b_isinstance (by decide +kernel) (pa_cons (pv 0) (pa_cons (pe_bltn (v := .ty "bool") (u := .type "bool") rfl T.b_bool (by decide +kernel) rfl) pa_nil)))))))), ?_⟩
    walk_at "w"
    refine w_isiI ?_
    walk_at "w"
    refine w_isiB ?_
    walk_at "w"
    exact k
def spBetween : Sp := fun vs H Q _ => ∃ v l m : Int, vs = [.int v, .int l, .int m] ∧ Q (.bl (decide (l ≤ v) && decide (v ≤ m))) H
abbrev s_is_between : Stmt := top 32
theorem sc_is_between : FnScope ["value", "least", "most"] ["value", "least", "most"] (defScope s_is_between) := ⟨rfl, rfl, rfl, by decide +kernel, rfl, by decide +kernel, by decide +kernel⟩
theorem ok_is_between (T : Txt w K mg) : Own P w K mg base "is_between" 2 ["value", "least", "most"] spBetween := by
  refine own_of T.f_is_between sc_is_between (fun _ _ _ _ _ _ us hl => match us, hl with | [_, _, _], _ => rfl) (fun vs H Q E h => ?_) (fun f cdv A outer s H vs Q E hr h => ?_)
  · obtain ⟨v, l, m, rfl, _⟩ := h; rfl
  · have sc := sc_is_between
    obtain ⟨v, l, m, rfl, k⟩ := h
    refine ⟨_, (pss_one (ps_ret (pe_and (pe_own (ok_is_integer T) hr passN (pa_cons (pv 0) pa_nil)) (pe_one (pe_chain op_le op_le (pv 1) (pv 0) (pv 2)))))), ?_⟩
    walk_at "w"
    refine ⟨v, rfl, ?_⟩
    walk_at "w"
    refine w_iteAV k fun _ k2 => ?_
    walk_at "w"
    exact k2

open SX
def spName : Sp := fun vs H Q _ => ∃ z : Str, vs = [.str z] ∧ 1 ≤ z.length ∧ z.length ≤ 8 ∧ (∀ c ∈ z.cps.toList, c ∈ (Str.ofString "abcdefghijklmnopqrstuvwxyz").cps.toList) ∧ ∀ H', Same H H' → Q (.bl true) H'
/-- all signs of a text are among these -/
theorem w_signs {σ : L2.St} {z y : Str} {vs : List Nat} {j : Nat} {te : TE} (hz : z.length < 100000) (hs : ∀ c ∈ z.cps.toList, c ∈ y.cps.toList) (hw : ∀ x, wipe ((wipe σ vs).set j (some x)) vs = wipe σ vs)
    (hy : ∀ x H' (q : VK), (∃ (c : Nat) (z : Str), x = .str ⟨#[c]⟩ ∧ V.str y = .str z ∧ q (.bl (decide (c ∈ z.cps.toList))) H') → te ((wipe σ vs).set j (some x)) H' q)
    (h : ∀ p H' (bs : List Bool), bs.all id = true → H' p = some (.lst (bs.map V.bl)) → Same H H' → Q (.ref p) H') : lcB (gName j) tYes te vs σ Q (Its z) H := by
  refine w_lcM (yl_str z) (fun _ => .bl true) (by rw [List.length_map]; exact hz) hw (fun x hx H' s q hq => ?_) fun p H' hp s e => ?_
  · obtain ⟨c, hc, rfl⟩ := List.mem_map.mp hx
    refine hy _ _ _ ⟨c, y, rfl, rfl, ?_⟩
    rw [decide_eq_true (hs c hc)]
    exact hq H' (Same.refl _)
  · exact h p H' ((z.cps.toList.map fun c => V.str ⟨#[c]⟩).map fun _ => true) (by simp) (by rw [e, List.map_map, List.map_map, List.map_map]; rfl) s
abbrev s_is_name : Stmt := top 34
theorem sc_is_name : FnScope ["value", "sign"] ["value"] (defScope s_is_name) := ⟨rfl, rfl, rfl, by decide +kernel, rfl, by decide +kernel, by decide +kernel⟩
theorem ok_is_name (T : Txt w K mg) : Own P w K mg base "is_name" 1 ["value"] spName := by
  refine own_of T.f_is_name sc_is_name (fun _ _ _ _ _ _ us hl => match us, hl with | [_], _ => rfl) (fun vs H Q E h => ?_) (fun f cdv A outer s H vs Q E hr h => ?_)
  · obtain ⟨i, rfl, _⟩ := h; rfl
  · have sc := sc_is_name
    have hu64 := hr.units
    obtain ⟨z, rfl, l1, l2, hc, k⟩ := h
    have ll : z.length ≤ sizeLine := by rw [sizeLine_eq]; omega
    refine ⟨_, (pss_cons (ps_if (PW.pt (pw_or (pt_not (pt_val (pe_callB call_isi (by rfl) T.b_isinstance (by decide +kernel) (pa_cons (pv 0) (pa_cons (pe_bltn (v := .ty "str") (u := .type "str") rfl T.b_str (by decide +kernel) rfl) pa_nil))))) (pw_or1 (pt_not (pt_chain op_le op_le pe_int (pe_callB (call_lenU) (by rfl) T.b_len (by decide +kernel) (pa_cons (pv 0) pa_nil)) (pe_gint T.i_MOST_LETTERS)))))) (pss_one (ps_ret pe_bl)) pss_nil)
      (pss_one (ps_ret (pe_callB (cr_all rfl) (by rfl) T.b_all (by decide +kernel) (pa_cons (pe_lc (own := [("sign", 1)]) rfl sc.nd (pi_str (pv 0)) (blkOk_by (by rfl)) (fun _ _ _ _ _ => (pg_name (i := 1) sc.nd rfl (Or.inl rfl))) (fun _ _ _ _ _ => pts_nil) (fun _ _ _ _ _ => (pe_cmpR op_in_sign (pv 1) (pe_gstr T.s_LETTERS) (by rfl)))) pa_nil))))), ?_⟩
    walk_at "w"
    refine w_ifb false (fun q hq => ?_) (fun c => nomatch c) fun _ => ?_
    · walk_at "w"
      refine w_isiS ?_
      walk_at "w"
      refine w_lenS ll ?_
      walk_at "w"
      rw [show decide ((1 : Int) ≤ (z.length : Int)) = true from decide_eq_true (by omega)]
      walk_at "w"
      rw [show decide ((z.length : Int) ≤ 8) = true from decide_eq_true (by omega)]
      exact hq
    · walk_at "w"
      refine w_signs (y := Str.ofString "abcdefghijklmnopqrstuvwxyz") (by omega) hc (fun _ => rfl) (fun x H' q hq => ?_) fun p H' bs eb ep s => ?_
      · walk_at "w"
        exact hq
      · walk_at "w"
        refine w_all (SqL.of ep) ?_
        rw [eb]
        exact k H' s
def spNum : Sp := fun vs H Q _ => ∃ (n : Nat) (m : Int), vs = [.str (S (TL.numL n)), .int m] ∧ n < 10 ^ 50 ∧ (n : Int) ≤ m ∧ ∀ H', Same H H' → Q (.int n) H'
abbrev s_number_in : Stmt := top 35
theorem sc_number_in : FnScope ["word", "most", "sign"] ["word", "most"] (defScope s_number_in) := ⟨rfl, rfl, rfl, by decide +kernel, rfl, by decide +kernel, by decide +kernel⟩
theorem ok_number_in (T : Txt w K mg) : Own P w K mg base "number_in" 1 ["word", "most"] spNum := by
  refine own_of T.f_number_in sc_number_in (fun _ _ _ _ _ _ us hl => match us, hl with | [_, _], _ => rfl) (fun vs H Q E h => ?_) (fun f cdv A outer s H vs Q E hr h => ?_)
  · obtain ⟨n, m, rfl, _⟩ := h; rfl
  · have sc := sc_number_in
    have hu64 := hr.units
    obtain ⟨n, m, rfl, hn, hm, k⟩ := h
    have l1 : (S (TL.numL n)).length ≤ 50 := TL.numL_len (by decide) hn
    have l0 : 1 ≤ (S (TL.numL n)).length := Nat.pos_of_ne_zero fun e => TL.numL_ne n (List.length_eq_zero_iff.mp e)
    have ll : (S (TL.numL n)).length ≤ sizeLine := by rw [sizeLine_eq]; omega
    have hd : ∀ c ∈ (S (TL.numL n)).cps.toList, c ∈ (Str.ofString "0123456789").cps.toList := fun c hc => by
      have h := TL.numL_digits n c hc
      rw [show (Str.ofString "0123456789").cps.toList = [48, 49, 50, 51, 52, 53, 54, 55, 56, 57] from by decide]
      obtain ⟨h1, h2⟩ := h
      simp only [List.mem_cons, List.not_mem_nil, or_false]; omega
    have hi : PySem.intText? (S (TL.numL n)) = some (n : Int) := by
      have e := TL.int_num (n := n) (by have := l1; simp only [S] at this; have q : (TL.numL n).length ≤ 50 := this; omega)
      rwa [num_S] at e
    refine ⟨_, (pss_cons (ps_if (PW.pt (pw_or (pt_not (pt_chain op_le op_le pe_int (pe_callB (call_lenU) (by rfl) T.b_len (by decide +kernel) (pa_cons (pv 0) pa_nil)) (pe_gint T.i_MOST_FIGURES))) (pw_or1 (pt_not (pt_val (pe_callB (cr_all rfl) (by rfl) T.b_all (by decide +kernel) (pa_cons (pe_lc (own := [("sign", 2)]) rfl sc.nd (pi_str (pv 0)) (blkOk_by (by rfl)) (fun _ _ _ _ _ => (pg_name (i := 2) sc.nd rfl (Or.inl rfl))) (fun _ _ _ _ _ => pts_nil) (fun _ _ _ _ _ => (pe_cmpR op_in_sign (pv 2) (pe_gstr T.s_FIGURES) (by rfl)))) pa_nil))))))) (pss_one (ps_ret pe_non)) pss_nil)
      (pss_cons (ps_if (PW.pt (pw_and (pt_cmpR (op_eqU (by exact hu64)) (pe_ix ix_seq (pv 0) pe_int (fun _ _ => rfl)) pe_str (nomark _)) (pw_and1 (pt_cmpR (op_neU (by exact hu64)) (pv 0) pe_str (nomark _))))) (pss_one (ps_ret pe_non)) pss_nil)
      (pss_one (ps_ret (pe_ifExp (pt_cmpR op_le (pe_callTy call_intU (by rfl) T.b_int (by decide +kernel) (pa_cons (pv 0) pa_nil)) (pv 1) (nomark _)) (pe_callTy call_intU (by rfl) T.b_int (by decide +kernel) (pa_cons (pv 0) pa_nil)) pe_non))))), ?_⟩
    walk_at "w"
    refine w_ifg false (fun q hq => ?_) (fun c => nomatch c) fun _ H1 s1 => ?_
    · walk_at "w"
      refine w_lenS ll ?_
      walk_at "w"
      rw [show decide ((1 : Int) ≤ ((S (TL.numL n)).length : Int)) = true from decide_eq_true (by omega)]
      walk_at "w"
      rw [show decide (((S (TL.numL n)).length : Int) ≤ 60) = true from decide_eq_true (by omega)]
      walk_at "w"
      refine w_signs (y := Str.ofString "0123456789") (by omega) hd (fun _ => rfl) (fun x H' q hq => ?_) fun p H' bs eb ep s => ?_
      · walk_at "w"
        exact hq
      · walk_at "w"
        refine w_all (SqL.of ep) ?_
        rw [eb]
        walk_at "w"
        exact hq H' s
    · obtain ⟨c, hc⟩ : ∃ c, (TL.numL n)[0]? = some c := ⟨_, List.getElem?_eq_getElem l0⟩
      walk_at "w"
      refine w_ifb false (fun q hq => ?_) (fun c => nomatch c) fun _ => ?_
      · walk_at "w"
        refine w_ixS ll (show atI (S (TL.numL n)).cps.toList ((0 : Nat) : Int) = some c from atI_nat hc) ?_
        walk_at "w"
        by_cases e : c = 48
        · subst e
          obtain rfl := numL_head n 48 hc rfl
          rw [show decide ((⟨#[48]⟩ : Str) = Str.ofString "0") = true by decide]
          walk_at "w"
          exact hq
        · rw [show decide ((⟨#[c]⟩ : Str) = Str.ofString "0") = false from decide_eq_false fun h => e (List.head_eq_of_cons_eq (congrArg (fun z : Str => z.cps.toList) h : [c] = [48]))]
          walk_at "w"
          exact hq
      · walk_at "w"
        refine w_ifE ?_
        walk_at "w"
        refine w_intS hi (by omega) ?_
        walk_at "w"
        rw [show decide ((n : Int) ≤ m) = true from decide_eq_true hm]
        walk_at "w"
        refine w_intS hi (by omega) (k _ s1)
end
end Bt

set_option Elab.async false
set_option linter.all false
set_option maxRecDepth 100000
set_option maxHeartbeats 4000000
/-! places, knots, frames -/
namespace Bt
open PySem L2
set_option pp.maxSteps 900
local macro_rules | `(tactic| walk_at "lk") => `(tactic| first
  | assumption
  | exact upd_same
  | (refine at_new ?_ ?_; · assumption
     walk_at "lk")
  | (refine at_mut ?_ ?_; · assumption
     walk_at "lk")
  | (refine at_same ?_ ?_; · assumption
     walk_at "lk"))
local macro_rules | `(tactic| walk_at "w1") => `(tactic| with_reducible first
  | refine w_seq ?_ | refine w_asg ?_ | refine w_name ?_ | refine w_ret ?_ | refine w_retN ?_ | refine w_drop ?_ | refine w_next ?_
  | refine w_op ?_ | refine w_var rfl ?_ | refine w_c ?_ | refine w_un ?_ | refine w_test ?_ | refine w_tB ?_ | refine w_bl ?_ | refine w_chain ?_
  | refine w_and ?_ | refine w_or ?_ | refine w_not ?_ | refine w_andV ?_ | refine w_orV ?_ | refine w_notV ?_ | refine w_cons ?_ | refine w_nil ?_
  | refine w_par ?_ | refine w_parL ?_ | refine w_call ?_ | refine w_CB ?_ | refine w_prop ?_ | refine w_fld ?_ | refine w_meth ?_ | refine w_make ?_ | refine w_tup ?_ | refine w_lst ?_
  | refine w_I0 ?_ | refine w_U ?_ | refine w_addI ?_ | refine w_eqI ?_ | refine w_eqS ?_ | refine w_neI ?_ | refine w_neS ?_ | refine w_isN ?_ | refine w_notN ?_
  | refine w_tt ?_ | refine w_ff ?_ | refine w_nt ?_ | refine w_nf ?_ | refine w_ntt ?_ | refine w_att ?_ | refine w_js ?_ | refine w_jsN ?_ | refine w_fmtS ?_ | refine w_m1 ?_ | refine w_m1L ?_ | refine w_sfld ?_ | refine w_bm ?_ | refine w_dc ?_ | refine w_iIt ?_ | refine w_star ?_ | refine w_mkO ?_ | refine w_raise ?_ | refine w_osg ?_ | refine w_gfld ?_ | refine w_kget ?_ | refine w_dget ?_ | refine w_din ?_ | refine w_dnotin ?_ | refine w_slice ?_ | refine w_on ?_ | refine w_os ?_ | refine w_sub ?_ | refine w_bmN ?_ | refine w_intI ?_ | refine w_intB ?_ | refine w_strS ?_
  | refine w_lc ?_ | refine w_for ?_ | refine w_iL ?_ | refine w_iT ?_ | refine w_iS ?_ | refine w_iK ?_ | refine w_iR1 ?_ | refine w_iR3 ?_ | refine w_iET ?_ | refine w_srcS ?_)
local macro_rules | `(tactic| walk_at "w") => `(tactic| (repeat walk_at "w1"); try (with_reducible refine w_ifN ?_))
local macro_rules | `(tactic| walk_at "ws") => `(tactic| with_reducible first | refine w_seq ?_ | refine w_next ?_)
local macro_rules | `(tactic| walk_at "w2") => `(tactic| repeat with_reducible first | refine w_seq ?_ | refine w_asg ?_ | refine w_name ?_ | refine w_next ?_)
local macro_rules | `(tactic| walk_at "sz") => `(tactic| (rw [sizeLine_eq]; exact Nat.le_of_ble_eq_true rfl))
structure PlOk (xs : List Int) : Prop where
  l1 : 1 ≤ xs.length
  l12 : xs.length ≤ 12
  rg : ∀ i : Int, 0 ≤ i → i < xs.length → 0 ≤ kat xs i ∧ kat xs i ≤ 1000000
  up : ∀ i : Int, 0 < i → i < xs.length → kat xs (i - 1) < kat xs i
structure PlanOk (d : Int) (ks : List Int) : Prop where
  d0 : 0 ≤ d
  d4 : d ≤ 4
  l0 : d + 2 ≤ ks.length
  l1 : ks.length ≤ d + 11
  rg : ∀ i : Int, 0 ≤ i → i < ks.length → 0 ≤ kat ks i ∧ kat ks i ≤ 1000000
  up : ∀ i : Int, 0 < i → i < ks.length → kat ks (i - 1) ≤ kat ks i
  mu : ∀ i : Int, d < i → i < ks.length → kat ks (i - d - 1) ≠ kat ks i
theorem getE_kat {ks : List Int} {i : Nat} {x : V} (h : (ks.map V.int)[i]? = some x) : i < ks.length ∧ x = .int (kat ks i) := by
  rw [List.getElem?_map] at h
  cases e : ks[i]? with
  | none => rw [e] at h; cases h
  | some k =>
    rw [e] at h
    obtain ⟨hi, hk⟩ := List.getElem?_eq_some_iff.mp e
    refine ⟨hi, ?_⟩
    cases h
    simp [kat, List.getD_eq_getElem?_getD, e]
section
variable {P : Program} {w : World} {K : Frag} {mg : Str → Option Value} {base : Heap} {H : Hp} {Q : VK}
theorem w_eqTN {p q : Addr} {xs : List Int} (e : TN H p (xs.map V.int)) (e2 : H q = some (.tup [])) (h : Q (.bl (decide (xs = []))) H) : rEqU K (.ref p) (.ref q) H Q :=
  w_eqD (dp_tupN e) (dp_nilT e2) (pl_ints xs) rfl (Nat.le_trans (Nat.min_le_right _ _) (by decide)) (by
    have z := ev_ints xs []
    simp only [List.map_nil] at z
    simp only [PyData.eqv, z]; exact h)
def spPlace : Sp := fun vs H Q _ => ∃ v : Int, vs = [.int v] ∧ Q (.bl (decide (0 ≤ v) && decide (v ≤ 1000000))) H
abbrev s_is_place : Stmt := top 36
theorem sc_is_place : FnScope ["value"] ["value"] (defScope s_is_place) := ⟨rfl, rfl, rfl, by decide +kernel, rfl, by decide +kernel, by decide +kernel⟩
theorem ok_is_place (T : Txt w K mg) : Own P w K mg base "is_place" 3 ["value"] spPlace := by
  refine own_of T.f_is_place sc_is_place (fun _ _ _ _ _ _ us hl => match us, hl with | [_], _ => rfl) (fun vs H Q E h => ?_) (fun f cdv A outer s H vs Q E hr h => ?_)
  · obtain ⟨i, rfl, _⟩ := h; rfl
  · have sc := sc_is_place
    obtain ⟨v, rfl, k⟩ := h
    refine ⟨_, (pss_one (ps_ret (pe_own (ok_is_between T) hr passN (pa_cons (pv 0) (pa_cons pe_int (pa_cons (pe_gint T.i_MOST_KNOT) pa_nil)))))), ?_⟩
    walk_at "w"
    refine ⟨v, 0, 1000000, rfl, ?_⟩
    exact k
def spPlF (r : V) : Sp := fun vs H Q _ => ∃ p xs, vs = [.ref p] ∧ TN H p (xs.map V.int) ∧ PlOk xs ∧ ∀ H', Same H H' → Q r H'
abbrev s_places_fault : Stmt := top 39
theorem sc_places_fault : FnScope ["value", "index", "place"] ["value"] (defScope s_places_fault) := ⟨rfl, rfl, rfl, by decide +kernel, rfl, by decide +kernel, by decide +kernel⟩
theorem ok_places_fault (T : Txt w K mg) : Own P w K mg base "places_fault" 4 ["value"] (spPlF (.int (-1))) := by
  refine own_of T.f_places_fault sc_places_fault (fun _ _ _ _ _ _ us hl => match us, hl with | [_], _ => rfl) (fun vs H Q E h => ?_) (fun f cdv A outer s H vs Q E hr h => ?_)
  · obtain ⟨p, xs, rfl, _⟩ := h; rfl
  · have sc := sc_places_fault
    have hu64 := hr.units
    obtain ⟨p, xs, rfl, e, ok, k⟩ := h
    refine ⟨_, (pss_cons (ps_if (PW.pt (pw_or (pt_not (pt_val (pe_callB call_isi (by rfl) T.b_isinstance (by decide +kernel) (pa_cons (pv 0) (pa_cons (pe_bltn (v := .ty "tuple") (u := .type "tuple") rfl T.b_tuple (by decide +kernel) rfl) pa_nil))))) (pw_or1 (pt_cmpR (op_eqU (by exact hu64)) (pv 0) (pe_tup pa_nil) (nomark _))))) (pss_one (ps_ret pe_non)) pss_nil)
      (pss_cons (ps_for (passes_of rfl) rfl (pi_enumT rfl T.b_enumerate (pa_cons (pv 0) pa_nil)) (pg_tup rfl (pgs_cons (pg_name (i := 1) sc.nd rfl (Or.inl rfl)) (pgs_cons (pg_name (i := 2) sc.nd rfl (Or.inl rfl)) pgs_nil))) (pss_one (ps_if (PW.pt (pw_or (pt_cmpR (op_eqU (by exact hu64)) (pv 1) (pe_gint T.i_MOST_PLACES) (nomark _)) (pw_or (pt_not (pt_val (pe_own (ok_is_place T) hr passN (pa_cons (pv 2) pa_nil)))) (pw_or1 (PW.pt (pw_and (pt_cmpR op_gt (pv 1) pe_int (nomark _)) (pw_and1 (pt_cmpR op_le (pv 2) (pe_ix ix_seq (pv 0) (pe_op op_sub (pv 1) pe_int) (fun _ _ => rfl)) (nomark _))))))))) (pss_one (ps_ret (pv 1))) pss_nil)))
      (pss_one (ps_ret (pe_un un_neg pe_int))))), ?_⟩
    walk_at "w"
    refine w_ifg false (fun q hq => ?_) (fun c => nomatch c) fun _ H1 s1 => ?_
    · walk_at "w"
      refine w_isiN e ?_
      walk_at "w"
      refine ⟨by decide, fun u hu => ?_⟩
      refine w_eqTN (e.new hu) upd_same ?_
      rw [decide_eq_false (fun z => by have := ok.l1; rw [z] at this; simp at this)]
      walk_at "w"
      exact hq _ (same_new hu (Same.refl _))
    · walk_at "w"
      refine w_srcEN (e.same s1) ?_
      refine forB_enumT (xs := xs.map V.int) (fun i σ H' => ∃ a b, σ = [some (.ref p), a, b] ∧ Same H H') ⟨_, _, rfl, s1⟩ (fun i σ H' _ h => by obtain ⟨_, _, _, s⟩ := h; exact (e.same s).sq) (fun i x σ H' U hx h hU => ?_) fun σ H' h => ?_
      · obtain ⟨a, b, rfl, s⟩ := h
        obtain ⟨hi, rfl⟩ := getE_kat hx
        have s2 := same_new (o := .tup [.int (i : Nat), .int (kat xs i)]) hU s
        refine w_unp2 upd_same ?_
        walk_at "w"
        refine w_ifb false (fun q hq => ?_) (fun c => nomatch c) fun _ => ?_
        · walk_at "w"
          rw [decide_eq_false (show ¬ ((i : Nat) : Int) = 12 from by have := ok.l12; omega)]
          walk_at "w"
          refine ⟨kat xs i, rfl, ?_⟩
          have r := ok.rg i (by omega) (by omega)
          rw [decide_eq_true r.1, decide_eq_true r.2]
          walk_at "w"
          by_cases h0 : (0 : Int) < ((i : Nat) : Int)
          · rw [decide_eq_true h0]
            walk_at "w"
            refine w_ixN (e.same s2) (atI_kat (by omega) (by omega)) ?_
            walk_at "w"
            rw [decide_eq_false (show ¬ kat xs i ≤ kat xs (i - 1) from by have := ok.up i h0 (by omega); omega)]
            exact hq
          · rw [decide_eq_false h0]
            walk_at "w"
            exact hq
        · walk_at "w"
          exact ⟨_, _, rfl, s2⟩
      · obtain ⟨a, b, rfl, s⟩ := h
        walk_at "w"
        exact k _ s
abbrev s_are_places : Stmt := top 38
theorem sc_are_places : FnScope ["value"] ["value"] (defScope s_are_places) := ⟨rfl, rfl, rfl, by decide +kernel, rfl, by decide +kernel, by decide +kernel⟩
theorem ok_are_places (T : Txt w K mg) : Own P w K mg base "are_places" 5 ["value"] (spPlF (.bl true)) := by
  refine own_of T.f_are_places sc_are_places (fun _ _ _ _ _ _ us hl => match us, hl with | [_], _ => rfl) (fun vs H Q E h => ?_) (fun f cdv A outer s H vs Q E hr h => ?_)
  · obtain ⟨p, xs, rfl, _⟩ := h; rfl
  · have sc := sc_are_places
    have hu64 := hr.units
    obtain ⟨p, xs, rfl, e, ok, k⟩ := h
    refine ⟨_, (pss_one (ps_ret (pe_cmpR (op_eqU (by exact hu64)) (pe_own (ok_places_fault T) hr passN (pa_cons (pv 0) pa_nil)) (pe_un un_neg pe_int) (nomark _)))), ?_⟩
    walk_at "w"
    refine ⟨p, xs, rfl, e, ok, fun H1 s1 => ?_⟩
    walk_at "w"
    exact k _ s1
abbrev s_check_places : Stmt := top 40
theorem sc_check_places : FnScope ["value"] ["value"] (defScope s_check_places) := ⟨rfl, rfl, rfl, by decide +kernel, rfl, by decide +kernel, by decide +kernel⟩
theorem ok_check_places (T : Txt w K mg) : Own P w K mg base "check_places" 5 ["value"] (spPlF .non) := by
  refine own_of T.f_check_places sc_check_places (fun _ _ _ _ _ _ us hl => match us, hl with | [_], _ => rfl) (fun vs H Q E h => ?_) (fun f cdv A outer s H vs Q E hr h => ?_)
  · obtain ⟨p, xs, rfl, _⟩ := h; rfl
  · have sc := sc_check_places
    have hu64 := hr.units
    obtain ⟨p, xs, rfl, e, ok, k⟩ := h
    refine ⟨_, (pss_one (ps_if (pt_cmpR (op_neU (by exact hu64)) (pe_own (ok_places_fault T) hr passN (pa_cons (pv 0) pa_nil)) (pe_un un_neg pe_int) (nomark _)) (pss_one ps_never) pss_nil)), ?_⟩
    walk_at "w"
    refine w_ifg false (fun q hq => ?_) (fun c => nomatch c) fun _ H1 s1 => ?_
    · walk_at "w"
      refine ⟨p, xs, rfl, e, ok, fun H1 s1 => ?_⟩
      walk_at "w"
      exact hq _ s1
    · walk_at "w"
      exact k _ s1
def spKnF : Sp := fun vs H Q _ => ∃ d p ks, vs = [.int d, .ref p] ∧ TN H p (ks.map V.int) ∧ PlanOk d ks ∧ ∀ H', Same H H' → Q (.int (-1)) H'
abbrev s_knots_fault : Stmt := top 45
theorem sc_knots_fault : FnScope ["degree", "value", "index", "knot"] ["degree", "value"] (defScope s_knots_fault) := ⟨rfl, rfl, rfl, by decide +kernel, rfl, by decide +kernel, by decide +kernel⟩
theorem ok_knots_fault (T : Txt w K mg) : Own P w K mg base "knots_fault" 4 ["degree", "value"] spKnF := by
  refine own_of T.f_knots_fault sc_knots_fault (fun _ _ _ _ _ _ us hl => match us, hl with | [_, _], _ => rfl) (fun vs H Q E h => ?_) (fun f cdv A outer s H vs Q E hr h => ?_)
  · obtain ⟨d, p, xs, rfl, _⟩ := h; rfl
  · have sc := sc_knots_fault
    have hu64 := hr.units
    obtain ⟨d, p, xs, rfl, e, ok, k⟩ := h
    obtain ⟨d0, d4, l0, l1, rg, up, mu⟩ := ok
    refine ⟨_, (pss_cons (ps_if (PW.pt (pw_or (pt_not (pt_val (pe_callB call_isi (by rfl) T.b_isinstance (by decide +kernel) (pa_cons (pv 1) (pa_cons (pe_bltn (v := .ty "tuple") (u := .type "tuple") rfl T.b_tuple (by decide +kernel) rfl) pa_nil))))) (pw_or1 (pt_cmpR op_lt (pe_callB (call_lenU) (by rfl) T.b_len (by decide +kernel) (pa_cons (pv 1) pa_nil)) (pe_op op_addU (pv 0) pe_int) (nomark _))))) (pss_one (ps_ret pe_non)) pss_nil)
      (pss_cons (ps_for (passes_of rfl) rfl (pi_enumT rfl T.b_enumerate (pa_cons (pv 1) pa_nil)) (pg_tup rfl (pgs_cons (pg_name (i := 2) sc.nd rfl (Or.inl rfl)) (pgs_cons (pg_name (i := 3) sc.nd rfl (Or.inl rfl)) pgs_nil))) (pss_cons (ps_if (PW.pt (pw_or (pt_cmpR (op_eqU (by exact hu64)) (pv 2) (pe_op op_addU (pe_op op_addU (pv 0) pe_int) (pe_gint T.i_MOST_HILLS)) (nomark _)) (pw_or1 (pt_not (pt_val (pe_own (ok_is_between T) hr passN (pa_cons (pv 3) (pa_cons pe_int (pa_cons (pe_gint T.i_MOST_KNOT) pa_nil))))))))) (pss_one (ps_ret (pv 2))) pss_nil)
      (pss_cons (ps_if (PW.pt (pw_and (pt_cmpR op_gt (pv 2) pe_int (nomark _)) (pw_and1 (pt_cmpR op_lt (pv 3) (pe_ix ix_seq (pv 1) (pe_op op_sub (pv 2) pe_int) (fun _ _ => rfl)) (nomark _))))) (pss_one (ps_ret (pv 2))) pss_nil)
      (pss_one (ps_if (PW.pt (pw_and (pt_cmpR op_gt (pv 2) (pv 0) (nomark _)) (pw_and1 (pt_cmpR (op_eqU (by exact hu64)) (pe_ix ix_seq (pv 1) (pe_op op_sub (pe_op op_sub (pv 2) (pv 0)) pe_int) (fun _ _ => rfl)) (pv 3) (nomark _))))) (pss_one (ps_ret (pv 2))) pss_nil)))))
      (pss_one (ps_ret (pe_un un_neg pe_int))))), ?_⟩
    walk_at "w"
    refine w_ifb false (fun q hq => ?_) (fun c => nomatch c) fun _ => ?_
    · walk_at "w"
      refine w_isiN e ?_
      walk_at "w"
      refine w_lenN e ?_
      walk_at "w"
      rw [List.length_map, decide_eq_false (show ¬ (xs.length : Int) < d + 2 from by omega)]
      exact hq
    · walk_at "w"
      refine w_srcEN e ?_
      refine forB_enumT (xs := xs.map V.int) (fun i σ H' => ∃ a b, σ = [some (.int d), some (.ref p), a, b] ∧ Same H H') ⟨_, _, rfl, Same.refl _⟩ (fun i σ H' _ h => by obtain ⟨_, _, _, s⟩ := h; exact (e.same s).sq) (fun i x σ H' U hx h hU => ?_) fun σ H' h => ?_
      · obtain ⟨a, b, rfl, s⟩ := h
        obtain ⟨hi, rfl⟩ := getE_kat hx
        have s2 := same_new (o := .tup [.int (i : Nat), .int (kat xs i)]) hU s
        have r := rg i (by omega) (by omega)
        refine w_unp2 upd_same ?_
        walk_at "w"
        refine w_ifb false (fun q hq => ?_) (fun c => nomatch c) fun _ => ?_
        · walk_at "w"
          rw [decide_eq_false (show ¬ ((i : Nat) : Int) = d + 1 + 10 from by omega)]
          walk_at "w"
          refine ⟨kat xs i, 0, 1000000, rfl, ?_⟩
          rw [decide_eq_true r.1, decide_eq_true r.2]
          walk_at "w"
          exact hq
        · walk_at "w"
          refine w_ifb false (fun q hq => ?_) (fun c => nomatch c) fun _ => ?_
          · walk_at "w"
            by_cases h0 : (0 : Int) < ((i : Nat) : Int)
            · rw [decide_eq_true h0]
              walk_at "w"
              refine w_ixN (e.same s2) (atI_kat (by omega) (by omega)) ?_
              walk_at "w"
              rw [decide_eq_false (show ¬ kat xs i < kat xs (i - 1) from by have := up i h0 (by omega); omega)]
              exact hq
            · rw [decide_eq_false h0]
              walk_at "w"
              exact hq
          · walk_at "w"
            refine w_ifb false (fun q hq => ?_) (fun c => nomatch c) fun _ => ?_
            · walk_at "w"
              by_cases h0 : d < ((i : Nat) : Int)
              · rw [decide_eq_true h0]
                walk_at "w"
                refine w_ixN (e.same s2) (atI_kat (by omega) (by omega)) ?_
                walk_at "w"
                rw [decide_eq_false (mu i h0 (by omega))]
                exact hq
              · rw [decide_eq_false h0]
                walk_at "w"
                exact hq
            · walk_at "w"
              exact ⟨_, _, rfl, s2⟩
      · obtain ⟨a, b, rfl, s⟩ := h
        walk_at "w"
        exact k _ s
end
end Bt

set_option Elab.async false
set_option linter.all false
set_option maxRecDepth 100000
set_option maxHeartbeats 4000000
/-! frames -/
namespace Bt
open PySem L2
set_option pp.maxSteps 900
local macro_rules | `(tactic| walk_at "lk") => `(tactic| first
  | assumption
  | exact upd_same
  | (refine at_new ?_ ?_; · assumption
     walk_at "lk")
  | (refine at_mut ?_ ?_; · assumption
     walk_at "lk")
  | (refine at_same ?_ ?_; · assumption
     walk_at "lk"))
local macro_rules | `(tactic| walk_at "w1") => `(tactic| with_reducible first
  | refine w_seq ?_ | refine w_asg ?_ | refine w_name ?_ | refine w_ret ?_ | refine w_retN ?_ | refine w_drop ?_ | refine w_next ?_
  | refine w_op ?_ | refine w_var rfl ?_ | refine w_c ?_ | refine w_un ?_ | refine w_test ?_ | refine w_tB ?_ | refine w_bl ?_ | refine w_chain ?_
  | refine w_and ?_ | refine w_or ?_ | refine w_not ?_ | refine w_andV ?_ | refine w_orV ?_ | refine w_notV ?_ | refine w_cons ?_ | refine w_nil ?_
  | refine w_par ?_ | refine w_parL ?_ | refine w_call ?_ | refine w_CB ?_ | refine w_prop ?_ | refine w_fld ?_ | refine w_meth ?_ | refine w_make ?_ | refine w_tup ?_ | refine w_lst ?_
  | refine w_I0 ?_ | refine w_U ?_ | refine w_addI ?_ | refine w_eqI ?_ | refine w_eqS ?_ | refine w_neI ?_ | refine w_neS ?_ | refine w_isN ?_ | refine w_notN ?_
  | refine w_tt ?_ | refine w_ff ?_ | refine w_nt ?_ | refine w_nf ?_ | refine w_ntt ?_ | refine w_att ?_ | refine w_js ?_ | refine w_jsN ?_ | refine w_fmtS ?_ | refine w_m1 ?_ | refine w_m1L ?_ | refine w_sfld ?_ | refine w_bm ?_ | refine w_dc ?_ | refine w_iIt ?_ | refine w_star ?_ | refine w_mkO ?_ | refine w_raise ?_ | refine w_osg ?_ | refine w_gfld ?_ | refine w_kget ?_ | refine w_dget ?_ | refine w_din ?_ | refine w_dnotin ?_ | refine w_slice ?_ | refine w_on ?_ | refine w_os ?_ | refine w_sub ?_ | refine w_bmN ?_ | refine w_intI ?_ | refine w_intB ?_ | refine w_strS ?_
  | refine w_lc ?_ | refine w_for ?_ | refine w_iL ?_ | refine w_iT ?_ | refine w_iS ?_ | refine w_iK ?_ | refine w_iR1 ?_ | refine w_iR3 ?_ | refine w_iET ?_ | refine w_srcS ?_)
local macro_rules | `(tactic| walk_at "w") => `(tactic| (repeat walk_at "w1"); try (with_reducible refine w_ifN ?_))
local macro_rules | `(tactic| walk_at "ws") => `(tactic| with_reducible first | refine w_seq ?_ | refine w_next ?_)
local macro_rules | `(tactic| walk_at "w2") => `(tactic| repeat with_reducible first | refine w_seq ?_ | refine w_asg ?_ | refine w_name ?_ | refine w_next ?_)
local macro_rules | `(tactic| walk_at "sz") => `(tactic| (rw [sizeLine_eq]; exact Nat.le_of_ble_eq_true rfl))
section
variable {P : Program} {w : World} {K : Frag} {mg : Str → Option Value} {base : Heap} {H : Hp} {Q : VK} {σ : L2.St}
theorem w_isF (T : Txt w K mg) {a dx : Addr} {fs : List (Str × V)} (e : H a = some (.ins (He.ga K "Frame") dx fs)) (h : Q (.bl true) H) : rIsi K [.ref a, .ref (He.ga K "Frame")] H Q :=
  ⟨.ref a, .ref _, .ref _, .ref _, true, rfl, .own _, .base (.ins e T.c_Frame.cl T.c_Frame.ha T.c_Frame.hn T.c_Frame.htk T.c_Frame.hm), T.c_Frame.me, h⟩
/-- all but a stands -/
def Keep (a : Addr) (H H' : Hp) : Prop := ∀ b o, b ≠ a → H b = some o → H' b = some o
def spFrI (K : Frag) : Sp := fun vs H Q _ => ∃ a dx d q ks, vs = [.ref a, .int d, .ref q] ∧ H a = some (.ins (He.ga K "Frame") dx []) ∧ TN H q (ks.map V.int) ∧ PlanOk d ks ∧ ∀ H', Keep a H H' → FrameAt K H' a d ks → Q .non H'
abbrev s_Frame_init : Stmt := inClass (top 46) 0
theorem sc_Frame_init : FnScope ["self", "degree", "knots"] ["self", "degree", "knots"] (defScope s_Frame_init) := ⟨rfl, rfl, rfl, by decide +kernel, rfl, by decide +kernel, by decide +kernel⟩
theorem ok_Frame_init (T : Txt w K mg) : OwnC P w K mg base (He.ga K "Frame") "Frame" 5 ["self", "degree", "knots"] (spFrI K) := by
  refine own_ofC T.n_Frame sc_Frame_init (fun _ _ _ _ _ _ us hl => match us, hl with | [_, _, _], _ => rfl) (fun vs H Q E h => ?_) (fun f cdv A outer s H vs Q E hr h => ?_)
  · obtain ⟨a, dx, d, q, ks, rfl, _⟩ := h; rfl
  · have sc := sc_Frame_init
    have hu64 := hr.units
    obtain ⟨a, dx, d, q, ks, rfl, e, eq, ok, k⟩ := h
    refine ⟨_, (pss_cons (ps_if (pt_not (pt_val (pe_own (ok_is_between T) hr passN (pa_cons (pv 1) (pa_cons pe_int (pa_cons (pe_gint T.i_MOST_DEGREE) pa_nil)))))) (pss_one ps_never) pss_nil)
      (pss_cons (ps_if (pt_cmpR (op_neU (by exact hu64)) (pe_own (ok_knots_fault T) hr passN (pa_cons (pv 1) (pa_cons (pv 2) pa_nil))) (pe_un un_neg pe_int) (nomark _)) (pss_one ps_never) pss_nil)
      (pss_one (ps_fld (pv 0) (pe_tup (pa_cons (pv 1) (pa_cons (pv 2) pa_nil))) rfl)))), ?_⟩
    walk_at "w"
    refine w_ifb false (fun q hq => ?_) (fun c => nomatch c) fun _ => ?_
    · walk_at "w"
      refine ⟨d, 0, 4, rfl, ?_⟩
      rw [decide_eq_true ok.d0, decide_eq_true ok.d4]
      walk_at "w"
      exact hq
    · walk_at "w"
      refine w_ifg false (fun q hq => ?_) (fun c => nomatch c) fun _ H1 s1 => ?_
      · walk_at "w"
        refine ⟨d, _, ks, rfl, eq, ok, fun H1 s1 => ?_⟩
        walk_at "w"
        exact hq _ s1
      · walk_at "w"
        walk_at "w"
        refine ⟨by walk_at "sz", fun p hp => ?_⟩
        walk_at "w"
        refine w_sfldL (at_new hp (s1 _ _ e)) T.k_Frame T.a_Frame_parts (by decide) ?_
        walk_at "w"
        have n1 : p ≠ a := fun z => by rw [z] at hp; rw [s1 _ _ e] at hp; cases hp
        have n2 : q ≠ a := eq.ne e (fun o z => nomatch z)
        refine k _ (fun b o n h => at_mut n (at_new hp (s1 _ _ h))) ⟨dx, p, q, upd_same, ?_, ?_⟩
        · exact at_mut n1 upd_same
        · exact (TN.new hp (eq.same s1)).mut n2
def spHills (K : Frag) : Sp := fun vs H Q _ => ∃ a d ks, vs = [.ref a] ∧ FrameAt K H a d ks ∧ Q (.int ((ks.length : Int) - d - 1)) H
abbrev s_Frame_hills : Stmt := inClass (top 46) 4
theorem sc_Frame_hills : FnScope ["self"] ["self"] (defScope s_Frame_hills) := ⟨rfl, rfl, rfl, by decide +kernel, rfl, by decide +kernel, by decide +kernel⟩
theorem ok_Frame_hills (T : Txt w K mg) : OwnP P w K mg base (He.ga K "Frame") "hills" 1 (spHills K) := by
  refine own_ofP T.p_Frame_hills sc_Frame_hills (fun _ _ _ _ _ _ us hl => match us, hl with | [_], _ => rfl) (fun vs H Q E h => ?_) (fun f cdv A outer s H vs Q E hr h => ?_)
  · obtain ⟨a, d, ks, rfl, _⟩ := h; rfl
  · have sc := sc_Frame_hills
    obtain ⟨a, d, ks, rfl, ⟨dx, p, q, h1, h2, h3⟩, k⟩ := h
    refine ⟨_, (pss_one (ps_ret (pe_op op_sub (pe_op op_sub (pe_callB (call_lenU) (by rfl) T.b_len (by decide +kernel) (pa_cons (pe_ix ix_seq (pe_fld (pv 0) rfl) pe_int (fun _ _ => rfl)) pa_nil)) (pe_ix ix_seq (pe_fld (pv 0) rfl) pe_int (fun _ _ => rfl))) pe_int))), ?_⟩
    walk_at "w"
    refine w_fldL h1 T.k_Frame T.a_Frame_parts rfl ?_
    walk_at "w"
    refine w_ixTa h2 rfl ?_
    walk_at "w"
    refine w_lenN h3 ?_
    walk_at "w"
    refine w_fldL h1 T.k_Frame T.a_Frame_parts rfl ?_
    walk_at "w"
    refine w_ixTa h2 rfl ?_
    walk_at "w"
    rw [List.length_map]
    exact k

/-- a frame's text -/
def frTxt (d : Int) (ks : List Int) : Str := Str.empty ++ Str.ofString "degree " ++ Str.ofString (toString d) ++ Str.ofString " knots " ++ Txt.join (Str.ofString " ") (ks.map fun k => Str.ofString (toString k))
def spText (K : Frag) : Sp := fun vs H Q _ => ∃ a d ks, vs = [.ref a] ∧ FrameAt K H a d ks ∧ PlanOk d ks ∧ ∀ H', Same H H' → Q (.str (frTxt d ks)) H'
theorem num_small {i : Int} (h0 : 0 ≤ i) (h1 : i < 10 ^ 21) : i.natAbs.log2 < 1920 ∧ (Str.ofString (toString i)).length ≤ 21 := by
  obtain ⟨n, rfl⟩ := Int.eq_ofNat_of_zero_le h0
  refine ⟨?_, ?_⟩
  · show (n : Int).natAbs.log2 < 1920
    rw [Int.natAbs_natCast]
    by_cases hn : n = 0
    · subst hn; decide
    · rw [Nat.log2_lt hn]
      exact Nat.lt_of_lt_of_le (show n < 10 ^ 21 by omega) (by decide +kernel)
  · show (Str.ofString (toString ((n : Nat) : Int))).length ≤ 21
    rw [SX.num_S]
    exact TL.numL_len (by decide) (by omega)
theorem mem_kat {ks : List Int} {x : Int} (h : x ∈ ks) : ∃ i : Int, 0 ≤ i ∧ i < ks.length ∧ x = kat ks i := by
  obtain ⟨n, hn, rfl⟩ := List.getElem_of_mem h
  exact ⟨n, by omega, by omega, by simp [kat, List.getD_eq_getElem?_getD, List.getElem?_eq_getElem hn]⟩
theorem sum_le {f : Int → Nat} {b : Nat} : ∀ ks : List Int, (∀ k ∈ ks, f k ≤ b) → (ks.map f).sum ≤ ks.length * b
  | [], _ => by simp
  | k :: r, h => by
    have h1 := sum_le r (fun x hx => h x (List.mem_cons_of_mem _ hx))
    have h2 := h k (List.mem_cons_self ..)
    rw [List.map_cons, List.sum_cons, List.length_cons, Nat.succ_mul]; omega
/-- numbers joined by blanks are short -/
theorem join_small {ks : List Int} (h : ∀ k ∈ ks, 0 ≤ k ∧ k < 10 ^ 21) (l : ks.length ≤ 20) : ((ks.map fun k => Str.ofString (toString k)).map (·.length)).sum + (ks.map fun k => Str.ofString (toString k)).length * (Str.ofString " ").length ≤ 440 := by
  rw [List.map_map, List.length_map, show (Str.ofString " ").length = 1 from by decide]
  have h1 := sum_le (f := fun k => (Str.ofString (toString k)).length) (b := 21) ks fun k hk => (num_small (h k hk).1 (h k hk).2).2
  have h2 : ((ks.map ((fun x => Str.length x) ∘ fun k => Str.ofString (toString k)))).sum ≤ ks.length * 21 := h1
  omega
abbrev s_Frame_text : Stmt := inClass (top 46) 5
theorem sc_Frame_text : FnScope ["self", "knot"] ["self"] (defScope s_Frame_text) := ⟨rfl, rfl, rfl, by decide +kernel, rfl, by decide +kernel, by decide +kernel⟩
theorem ok_Frame_text (T : Txt w K mg) : OwnP P w K mg base (He.ga K "Frame") "text" 3 (spText K) := by
  refine own_ofP T.p_Frame_text sc_Frame_text (fun _ _ _ _ _ _ us hl => match us, hl with | [_], _ => rfl) (fun vs H Q E h => ?_) (fun f cdv A outer s H vs Q E hr h => ?_)
  · obtain ⟨a, d, ks, rfl, _⟩ := h; rfl
  · have sc := sc_Frame_text
    obtain ⟨a, d, ks, rfl, ⟨dx, p, q, h1, h2, h3⟩, ok, k⟩ := h
    have rg : ∀ x ∈ ks, 0 ≤ x ∧ x < 10 ^ 21 := fun x hx => by
      obtain ⟨i, h0, h1, rfl⟩ := mem_kat hx
      have := ok.rg i h0 h1; omega
    refine ⟨_, (pss_one (ps_ret (pe_joined (.cons pe_str (.cons (pe_fmt (pe_ownP (ok_Frame_degree T) T.k_Frame hr passN (pv 0))) (.cons pe_str (.cons (pe_fmt (pe_join pe_str (pe_lc (own := [("knot", 1)]) rfl sc.nd (pi_tup (pe_ownP (ok_Frame_knots T) T.k_Frame hr passN (pv 0))) (blkOk_by (by rfl)) (fun _ _ _ _ _ => (pg_name (i := 1) sc.nd rfl (Or.inl rfl))) (fun _ _ _ _ _ => pts_nil) (fun _ _ _ _ _ => (pe_callTy call_strU (by rfl) T.b_str (by decide +kernel) (pa_cons (pv 1) pa_nil)))))) .nil))))))), ?_⟩
    walk_at "w"
    refine w_jsL (by decide) ?_
    walk_at "w"
    refine w_propL h1 (c_degree h1 h2 ?_)
    have nd := num_small (i := d) ok.d0 (by have := ok.d4; omega)
    refine w_fmtI nd.1 ?_
    walk_at "w"
    have l1 : (Str.empty ++ Str.ofString "degree ").length = 7 := by decide
    have l2 := nd.2
    refine w_jsL (by omega) ?_
    walk_at "w"
    have l3 : (Str.empty ++ Str.ofString "degree " ++ Str.ofString (toString d)).length ≤ 28 := by rw [Str.length_append]; omega
    have l4 : (Str.ofString " knots ").length = 7 := by decide
    refine w_jsL (by omega) ?_
    walk_at "w"
    have l5 : (Str.empty ++ Str.ofString "degree " ++ Str.ofString (toString d) ++ Str.ofString " knots ").length ≤ 35 := by rw [Str.length_append]; omega
    refine w_propL h1 (c_knots h1 h2 ?_)
    refine w_srcN h3 ?_
    refine w_lcM (yl_tupN h3) (fun x => match x with | .int i => .str (Str.ofString (toString i)) | y => y) (by rw [List.length_map]; have := ok.l1; have := ok.d4; omega) (fun _ => rfl) (fun x hx H' s q hq => ?_) fun p2 H' hp s e => ?_
    · obtain ⟨i, hi, rfl⟩ := List.mem_map.mp hx
      walk_at "w"
      have r := rg i hi
      refine w_strI (num_small r.1 r.2).1 ?_
      exact hq H' (Same.refl _)
    · walk_at "w"
      have jb := join_small (ks := ks) rg (by have := ok.l1; have := ok.d4; omega)
      refine ⟨_, p2, ks.map fun k => Str.ofString (toString k), rfl, rfl, .inl (SqL.of (by rw [e, List.map_map, List.map_map]; rfl)), by omega, ?_⟩
      have jl : (Txt.join (Str.ofString " ") (ks.map fun k => Str.ofString (toString k))).length ≤ 440 := Nat.le_trans (join_len _ _) jb
      refine w_fmtT (by omega) ?_
      walk_at "w"
      refine w_jsL (by omega) ?_
      walk_at "w"
      exact k H' s
end
end Bt

set_option Elab.async false
set_option linter.all false
set_option maxRecDepth 100000
set_option maxHeartbeats 4000000
/-! within, the rank's table -/
namespace Bt
open PySem L2
set_option pp.maxSteps 900
local macro_rules | `(tactic| walk_at "lk") => `(tactic| first
  | assumption
  | exact upd_same
  | (refine at_new ?_ ?_; · assumption
     walk_at "lk")
  | (refine at_mut ?_ ?_; · assumption
     walk_at "lk")
  | (refine at_same ?_ ?_; · assumption
     walk_at "lk"))
local macro_rules | `(tactic| walk_at "w1") => `(tactic| with_reducible first
  | refine w_seq ?_ | refine w_asg ?_ | refine w_name ?_ | refine w_ret ?_ | refine w_retN ?_ | refine w_drop ?_ | refine w_next ?_
  | refine w_op ?_ | refine w_var rfl ?_ | refine w_c ?_ | refine w_un ?_ | refine w_test ?_ | refine w_tB ?_ | refine w_bl ?_ | refine w_chain ?_
  | refine w_and ?_ | refine w_or ?_ | refine w_not ?_ | refine w_andV ?_ | refine w_orV ?_ | refine w_notV ?_ | refine w_cons ?_ | refine w_nil ?_
  | refine w_par ?_ | refine w_parL ?_ | refine w_call ?_ | refine w_CB ?_ | refine w_prop ?_ | refine w_fld ?_ | refine w_meth ?_ | refine w_make ?_ | refine w_tup ?_ | refine w_lst ?_
  | refine w_I0 ?_ | refine w_U ?_ | refine w_addI ?_ | refine w_eqI ?_ | refine w_eqS ?_ | refine w_neI ?_ | refine w_neS ?_ | refine w_isN ?_ | refine w_notN ?_
  | refine w_tt ?_ | refine w_ff ?_ | refine w_nt ?_ | refine w_nf ?_ | refine w_ntt ?_ | refine w_att ?_ | refine w_js ?_ | refine w_jsN ?_ | refine w_fmtS ?_ | refine w_m1 ?_ | refine w_m1L ?_ | refine w_sfld ?_ | refine w_bm ?_ | refine w_dc ?_ | refine w_iIt ?_ | refine w_star ?_ | refine w_mkO ?_ | refine w_raise ?_ | refine w_osg ?_ | refine w_gfld ?_ | refine w_kget ?_ | refine w_dget ?_ | refine w_din ?_ | refine w_dnotin ?_ | refine w_slice ?_ | refine w_on ?_ | refine w_os ?_ | refine w_sub ?_ | refine w_bmN ?_ | refine w_intI ?_ | refine w_intB ?_ | refine w_strS ?_
  | refine w_lc ?_ | refine w_for ?_ | refine w_iL ?_ | refine w_iT ?_ | refine w_iS ?_ | refine w_iK ?_ | refine w_iR1 ?_ | refine w_iR3 ?_ | refine w_iET ?_ | refine w_srcS ?_)
local macro_rules | `(tactic| walk_at "w") => `(tactic| (repeat walk_at "w1"); try (with_reducible refine w_ifN ?_))
local macro_rules | `(tactic| walk_at "ws") => `(tactic| with_reducible first | refine w_seq ?_ | refine w_next ?_)
local macro_rules | `(tactic| walk_at "w2") => `(tactic| repeat with_reducible first | refine w_seq ?_ | refine w_asg ?_ | refine w_name ?_ | refine w_next ?_)
local macro_rules | `(tactic| walk_at "sz") => `(tactic| (rw [sizeLine_eq]; exact Nat.le_of_ble_eq_true rfl))
section
variable {P : Program} {w : World} {K : Frag} {mg : Str → Option Value} {base : Heap} {H : Hp} {Q : VK} {σ : L2.St}
theorem units65 {k : Nat} {A : Around} (r : Room k A) : A.units + 65 < cLine := by have := r.un; omega
theorem FrameAt.same {H H' : Hp} {a : Addr} {d : Int} {ks : List Int} (s : Same H H') (h : FrameAt K H a d ks) : FrameAt K H' a d ks := by
  obtain ⟨dx, p, q, h1, h2, h3⟩ := h
  exact ⟨dx, p, q, s _ _ h1, s _ _ h2, h3.same s⟩
def spChkF (K : Frag) : Sp := fun vs H Q _ => ∃ a d ks, vs = [.ref a] ∧ FrameAt K H a d ks ∧ Q .non H
abbrev s_check_frame : Stmt := top 47
theorem sc_check_frame : FnScope ["value"] ["value"] (defScope s_check_frame) := ⟨rfl, rfl, rfl, by decide +kernel, rfl, by decide +kernel, by decide +kernel⟩
theorem ok_check_frame (T : Txt w K mg) : Own P w K mg base "check_frame" 1 ["value"] (spChkF K) := by
  refine own_of T.f_check_frame sc_check_frame (fun _ _ _ _ _ _ us hl => match us, hl with | [_], _ => rfl) (fun vs H Q E h => ?_) (fun f cdv A outer s H vs Q E hr h => ?_)
  · obtain ⟨a, d, ks, rfl, _⟩ := h; rfl
  · have sc := sc_check_frame
    obtain ⟨a, d, ks, rfl, ⟨dx, p, q, h1, h2, h3⟩, k⟩ := h
    refine ⟨_, (pss_one (ps_if (pt_not (pt_val (pe_callB call_isi (by rfl) T.b_isinstance (by decide +kernel) (pa_cons (pv 0) (pa_cons (pe_gref T.g_Frame) pa_nil))))) (pss_one ps_never) pss_nil)), ?_⟩
    walk_at "w"
    refine w_ifb false (fun q hq => ?_) (fun c => nomatch c) fun _ => ?_
    · walk_at "w"
      refine w_isF T h1 ?_
      walk_at "w"
      exact hq
    · walk_at "w"
      exact k
/-- no knot is more often there than in the other -/
def inside (d : Int) (ks : List Int) (d2 : Int) (ls : List Int) : Bool := decide (d = d2) && ks.all fun k => decide (ks.count k ≤ ls.count k)
def spWithin (K : Frag) : Sp := fun vs H Q _ => ∃ a d ks b d2 ls, vs = [.ref a, .ref b] ∧ FrameAt K H a d ks ∧ FrameAt K H b d2 ls ∧ ks.length ≤ 20 ∧ ∀ H', Same H H' → Q (.bl (inside d ks d2 ls)) H'
abbrev s_within : Stmt := top 48
theorem sc_within : FnScope ["frame", "other", "knot"] ["frame", "other"] (defScope s_within) := ⟨rfl, rfl, rfl, by decide +kernel, rfl, by decide +kernel, by decide +kernel⟩
theorem ok_within (T : Txt w K mg) : Own P w K mg base "within" 3 ["frame", "other"] (spWithin K) := by
  refine own_of T.f_within sc_within (fun _ _ _ _ _ _ us hl => match us, hl with | [_, _], _ => rfl) (fun vs H Q E h => ?_) (fun f cdv A outer s H vs Q E hr h => ?_)
  · obtain ⟨a, d, ks, b, d2, ls, rfl, _⟩ := h; rfl
  · have sc := sc_within
    have hu64 := hr.units
    have hu65 := units65 hr
    obtain ⟨a, d, ks, b, d2, ls, rfl, fa, fb, l20, k⟩ := h
    obtain ⟨dx, p, q, h1, h2, h3⟩ := id fa
    obtain ⟨dy, p', q', g1, g2, g3⟩ := id fb
    refine ⟨_, (pss_cons (ps_expr (pe_own (ok_check_frame T) hr passN (pa_cons (pv 0) pa_nil)))
      (pss_cons (ps_expr (pe_own (ok_check_frame T) hr passN (pa_cons (pv 1) pa_nil)))
      (pss_cons (ps_if (pt_cmpR (op_neU (by exact hu64)) (pe_ownP (ok_Frame_degree T) T.k_Frame hr passN (pv 0)) (pe_ownP (ok_Frame_degree T) T.k_Frame hr passN (pv 1)) (nomark _)) (pss_one (ps_ret pe_bl)) pss_nil)
      (pss_one (ps_ret (pe_callB (cr_all rfl) (by rfl) T.b_all (by decide +kernel) (pa_cons (pe_lc (own := [("knot", 2)]) rfl sc.nd (pi_tup (pe_ownP (ok_Frame_knots T) T.k_Frame hr passN (pv 0))) (blkOk_by (by rfl)) (fun _ _ _ _ _ => (pg_name (i := 2) sc.nd rfl (Or.inl rfl))) (fun _ _ _ _ _ => pts_nil) (fun _ _ _ _ _ => (pe_cmpR op_le (pe_tcount K (pe_ownP (ok_Frame_knots T) T.k_Frame hr passN (pv 0)) (pa_cons (pv 2) pa_nil) (by exact hu65)) (pe_tcount K (pe_ownP (ok_Frame_knots T) T.k_Frame hr passN (pv 1)) (pa_cons (pv 2) pa_nil) (by exact hu65)) (nomark _)))) pa_nil))))))), ?_⟩
    walk_at "w"
    refine ⟨a, d, ks, rfl, fa, ?_⟩
    walk_at "w"
    refine ⟨b, d2, ls, rfl, fb, ?_⟩
    walk_at "w"
    refine w_ifb (!decide (d = d2)) (fun q hq => ?_) (fun c => ?_) fun c => ?_
    · walk_at "w"
      refine w_propL h1 (c_degree h1 h2 ?_)
      walk_at "w"
      refine w_propL g1 (c_degree g1 g2 ?_)
      walk_at "w"
      exact hq
    · walk_at "w"
      have k := k H (Same.refl _)
      rw [show inside d ks d2 ls = false by unfold inside; rw [show decide (d = d2) = false by simpa using c]; rfl] at k
      exact k
    · walk_at "w"
      refine w_propL h1 (c_knots h1 h2 ?_)
      refine w_srcN h3 ?_
      refine w_lcM (yl_tupN h3) (fun x => match x with | .int i => .bl (decide (ks.count i ≤ ls.count i)) | y => y) (by rw [List.length_map]; omega) (fun _ => rfl) (fun x hx H' s q2 hq => ?_) fun p2 H' hp s e => ?_
      · obtain ⟨i, hi, rfl⟩ := List.mem_map.mp hx
        walk_at "w"
        refine w_propL (s _ _ h1) (c_knots (s _ _ h1) (s _ _ h2) ?_)
        refine w_bmNL (h3.same s) ?_
        walk_at "w"
        refine w_cntT (h3.same s) ?_
        walk_at "w"
        refine w_propL (s _ _ g1) (c_knots (s _ _ g1) (s _ _ g2) ?_)
        refine w_bmNL (g3.same s) ?_
        walk_at "w"
        refine w_cntT (g3.same s) ?_
        walk_at "w"
        have hq := hq H' (Same.refl _)
        simpa using hq
      · walk_at "w"
        refine w_all (bs := ks.map fun k => decide (ks.count k ≤ ls.count k)) (SqL.of (by rw [e, List.map_map, List.map_map]; rfl)) ?_
        have k := k H' s
        rw [show inside d ks d2 ls = (ks.map fun k => decide (ks.count k ≤ ls.count k)).all id by unfold inside; rw [show decide (d = d2) = true by simpa using c, List.all_map]; rfl] at k
        exact k
end
end Bt

set_option Elab.async false
set_option linter.all false
/-! plain: the two tables of lengths end alike -/
namespace Bt
/-- from behind -/
def sfx (U : Nat → Nat → Bool) (n m : Nat) : Nat → Nat → Nat
  | 0, _ => 0
  | _ + 1, 0 => 0
  | a + 1, b + 1 => if U (n - (a + 1)) (m - (b + 1)) = true then max (max (sfx U n m a (b + 1)) (sfx U n m (a + 1) b)) (sfx U n m a b + 1) else max (sfx U n m a (b + 1)) (sfx U n m (a + 1) b)
/-- from before -/
def pfx (U : Nat → Nat → Bool) : Nat → Nat → Nat
  | 0, _ => 0
  | _ + 1, 0 => 0
  | h + 1, i + 1 => max (max (pfx U h (i + 1)) (pfx U (h + 1) i)) (pfx U h i + (if U h i = true then 1 else 0))
theorem sfx_0 {U : Nat → Nat → Bool} {n m a : Nat} : sfx U n m a 0 = 0 := by cases a <;> simp [sfx]
theorem pfx_0 {U : Nat → Nat → Bool} {h : Nat} : pfx U h 0 = 0 := by cases h <;> simp [pfx]
/-- a row of pairs, both ascending, between these bounds -/
structure Ch (U : Nat → Nat → Bool) (h0 i0 h1 i1 : Nat) (l : List (Nat × Nat)) : Prop where
  mem : ∀ p ∈ l, h0 ≤ p.1 ∧ p.1 < h1 ∧ i0 ≤ p.2 ∧ p.2 < i1 ∧ U p.1 p.2 = true
  asc : l.Pairwise fun p q => p.1 < q.1 ∧ p.2 < q.2
theorem sfx_ge {U : Nat → Nat → Bool} {n m : Nat} : ∀ (a b : Nat) (l : List (Nat × Nat)), a ≤ n → b ≤ m → Ch U (n - a) (m - b) n m l → l.length ≤ sfx U n m a b := by
  intro a
  induction a with
  | zero =>
    intro b l _ _ c
    cases l with
    | nil => exact Nat.zero_le _
    | cons p t => have := c.mem p (List.mem_cons_self ..); omega
  | succ a iha =>
    intro b
    induction b with
    | zero =>
      intro l _ _ c
      cases l with
      | nil => exact Nat.zero_le _
      | cons p t => have := c.mem p (List.mem_cons_self ..); omega
    | succ b ihb =>
      intro l ha hb c
      cases l with
      | nil => exact Nat.zero_le _
      | cons p t =>
        have hp := c.mem p (List.mem_cons_self ..)
        have hc := List.pairwise_cons.mp c.asc
        rw [sfx]
        by_cases e1 : p.1 = n - (a + 1)
        · by_cases e2 : p.2 = m - (b + 1)
          · have ct : Ch U (n - a) (m - b) n m t := ⟨fun q hq => by
              have h1 := hc.1 q hq
              have h2 := c.mem q (List.mem_cons_of_mem _ hq)
              refine ⟨by omega, h2.2.1, by omega, h2.2.2.2.1, h2.2.2.2.2⟩, hc.2⟩
            have h := iha b t (by omega) (by omega) ct
            rw [if_pos (by rw [← e1, ← e2]; exact hp.2.2.2.2)]
            rw [List.length_cons]; omega
          · have cl : Ch U (n - (a + 1)) (m - b) n m (p :: t) := ⟨fun q hq => by
              have h2 := c.mem q hq
              rcases List.mem_cons.mp hq with rfl | hq'
              · exact ⟨h2.1, h2.2.1, by omega, h2.2.2.2.1, h2.2.2.2.2⟩
              · have h1 := hc.1 q hq'
                exact ⟨h2.1, h2.2.1, by omega, h2.2.2.2.1, h2.2.2.2.2⟩, c.asc⟩
            have h := ihb (p :: t) ha (by omega) cl
            split <;> omega
        · have cl : Ch U (n - a) (m - (b + 1)) n m (p :: t) := ⟨fun q hq => by
            have h2 := c.mem q hq
            rcases List.mem_cons.mp hq with rfl | hq'
            · exact ⟨by omega, h2.2.1, h2.2.2.1, h2.2.2.2.1, h2.2.2.2.2⟩
            · have h1 := hc.1 q hq'
              exact ⟨by omega, h2.2.1, h2.2.2.1, h2.2.2.2.1, h2.2.2.2.2⟩, c.asc⟩
          have h := iha (b + 1) (p :: t) (by omega) hb cl
          split <;> omega
theorem Ch.wide {U : Nat → Nat → Bool} {h0 i0 h1 i1 h2 i2 h3 i3 : Nat} {l : List (Nat × Nat)} (c : Ch U h0 i0 h1 i1 l) (a : h2 ≤ h0) (b : i2 ≤ i0) (d : h1 ≤ h3) (e : i1 ≤ i3) : Ch U h2 i2 h3 i3 l :=
  ⟨fun p hp => by have := c.mem p hp; exact ⟨by omega, by omega, by omega, by omega, this.2.2.2.2⟩, c.asc⟩
theorem sfx_ex {U : Nat → Nat → Bool} {n m : Nat} : ∀ (a b : Nat), a ≤ n → b ≤ m → ∃ l, Ch U (n - a) (m - b) n m l ∧ l.length = sfx U n m a b := by
  intro a
  induction a with
  | zero => intro b _ _; exact ⟨[], ⟨(fun _ h => nomatch h), List.Pairwise.nil⟩, (by simp [sfx, pfx])⟩
  | succ a iha =>
    intro b
    induction b with
    | zero => intro _ _; exact ⟨[], ⟨(fun _ h => nomatch h), List.Pairwise.nil⟩, (by simp [sfx, pfx])⟩
    | succ b ihb =>
      intro ha hb
      obtain ⟨l1, c1, e1⟩ := iha (b + 1) (by omega) hb
      obtain ⟨l2, c2, e2⟩ := ihb ha (by omega)
      obtain ⟨l3, c3, e3⟩ := iha b (by omega) (by omega)
      have w1 : Ch U (n - (a + 1)) (m - (b + 1)) n m l1 := c1.wide (by omega) (by omega) (Nat.le_refl _) (Nat.le_refl _)
      have w2 : Ch U (n - (a + 1)) (m - (b + 1)) n m l2 := c2.wide (by omega) (by omega) (Nat.le_refl _) (Nat.le_refl _)
      rw [sfx]
      have w12 : ∃ l, Ch U (n - (a + 1)) (m - (b + 1)) n m l ∧ l.length = max (sfx U n m a (b + 1)) (sfx U n m (a + 1) b) := by
        by_cases h : sfx U n m a (b + 1) ≤ sfx U n m (a + 1) b
        · exact ⟨l2, w2, by omega⟩
        · exact ⟨l1, w1, by omega⟩
      by_cases u : U (n - (a + 1)) (m - (b + 1)) = true
      · rw [if_pos u]
        by_cases h : max (sfx U n m a (b + 1)) (sfx U n m (a + 1) b) ≤ sfx U n m a b + 1
        · refine ⟨(n - (a + 1), m - (b + 1)) :: l3, ⟨fun p hp => ?_, List.pairwise_cons.mpr ⟨fun q hq => ?_, c3.asc⟩⟩, by rw [List.length_cons]; omega⟩
          · rcases List.mem_cons.mp hp with rfl | hp
            · exact ⟨Nat.le_refl _, by show n - (a + 1) < n; omega, Nat.le_refl _, by show m - (b + 1) < m; omega, u⟩
            · have := c3.mem p hp; exact ⟨by omega, by omega, by omega, by omega, this.2.2.2.2⟩
          · have := c3.mem q hq
            show n - (a + 1) < q.1 ∧ m - (b + 1) < q.2
            omega
        · obtain ⟨l, c, e⟩ := w12
          exact ⟨l, c, by omega⟩
      · rw [if_neg u]; exact w12
theorem pfx_ge {U : Nat → Nat → Bool} : ∀ (h i : Nat) (l : List (Nat × Nat)), Ch U 0 0 h i l → l.length ≤ pfx U h i := by
  intro h
  induction h with
  | zero =>
    intro i l c
    cases l with
    | nil => exact Nat.zero_le _
    | cons p t => have := c.mem p (List.mem_cons_self ..); omega
  | succ h ihh =>
    intro i
    induction i with
    | zero =>
      intro l c
      cases l with
      | nil => exact Nat.zero_le _
      | cons p t => have := c.mem p (List.mem_cons_self ..); omega
    | succ i ihi =>
      intro l c
      rw [pfx]
      rcases List.eq_nil_or_concat l with rfl | ⟨t, p, rfl⟩
      · exact Nat.zero_le _
      · rw [List.concat_eq_append] at c ⊢
        have ha := List.pairwise_append.mp c.asc
        have hp := c.mem p (List.mem_append_right _ (List.mem_cons_self ..))
        by_cases e1 : p.1 = h
        · by_cases e2 : p.2 = i
          · have ct : Ch U 0 0 h i t := ⟨fun q hq => by
              have h1 := ha.2.2 q hq p (List.mem_cons_self ..)
              have h2 := c.mem q (List.mem_append_left _ hq)
              exact ⟨Nat.zero_le _, by omega, Nat.zero_le _, by omega, h2.2.2.2.2⟩, ha.1⟩
            have hh := ihh i t ct
            rw [if_pos (by rw [← e1, ← e2]; exact hp.2.2.2.2)]
            simp only [List.length_append, List.length_cons, List.length_nil]; omega
          · have cl : Ch U 0 0 (h + 1) i (t ++ [p]) := ⟨fun q hq => by
              have h2 := c.mem q hq
              rcases List.mem_append.mp hq with hq' | hq'
              · have h1 := ha.2.2 q hq' p (List.mem_cons_self ..)
                exact ⟨Nat.zero_le _, h2.2.1, Nat.zero_le _, by omega, h2.2.2.2.2⟩
              · obtain rfl := List.mem_singleton.mp hq'
                exact ⟨Nat.zero_le _, h2.2.1, Nat.zero_le _, by omega, h2.2.2.2.2⟩, c.asc⟩
            have hh := ihi (t ++ [p]) cl
            omega
        · have cl : Ch U 0 0 h (i + 1) (t ++ [p]) := ⟨fun q hq => by
            have h2 := c.mem q hq
            rcases List.mem_append.mp hq with hq' | hq'
            · have h1 := ha.2.2 q hq' p (List.mem_cons_self ..)
              exact ⟨Nat.zero_le _, by omega, Nat.zero_le _, h2.2.2.2.1, h2.2.2.2.2⟩
            · obtain rfl := List.mem_singleton.mp hq'
              exact ⟨Nat.zero_le _, by omega, Nat.zero_le _, h2.2.2.2.1, h2.2.2.2.2⟩, c.asc⟩
          have hh := ihh (i + 1) (t ++ [p]) cl
          omega
theorem pfx_ex {U : Nat → Nat → Bool} : ∀ (h i : Nat), ∃ l, Ch U 0 0 h i l ∧ l.length = pfx U h i := by
  intro h
  induction h with
  | zero => intro i; exact ⟨[], ⟨(fun _ h => nomatch h), List.Pairwise.nil⟩, (by simp [sfx, pfx])⟩
  | succ h ihh =>
    intro i
    induction i with
    | zero => exact ⟨[], ⟨(fun _ h => nomatch h), List.Pairwise.nil⟩, (by simp [sfx, pfx])⟩
    | succ i ihi =>
      obtain ⟨l1, c1, e1⟩ := ihh (i + 1)
      obtain ⟨l2, c2, e2⟩ := ihi
      obtain ⟨l3, c3, e3⟩ := ihh i
      have w1 : Ch U 0 0 (h + 1) (i + 1) l1 := c1.wide (Nat.le_refl _) (Nat.le_refl _) (by omega) (by omega)
      have w2 : Ch U 0 0 (h + 1) (i + 1) l2 := c2.wide (Nat.le_refl _) (Nat.le_refl _) (by omega) (by omega)
      have w3 : Ch U 0 0 (h + 1) (i + 1) l3 := c3.wide (Nat.le_refl _) (Nat.le_refl _) (by omega) (by omega)
      have k3 : ∃ l, Ch U 0 0 (h + 1) (i + 1) l ∧ l.length = pfx U h i + (if U h i = true then 1 else 0) := by
        by_cases u : U h i = true
        · rw [if_pos u]
          refine ⟨l3 ++ [(h, i)], ⟨fun p hp => ?_, List.pairwise_append.mpr ⟨c3.asc, List.pairwise_singleton _ _, fun q hq p hp => ?_⟩⟩, by simp only [List.length_append, List.length_cons, List.length_nil]; omega⟩
          · rcases List.mem_append.mp hp with hp | hp
            · have := w3.mem p hp; exact this
            · obtain rfl := List.mem_singleton.mp hp
              exact ⟨Nat.zero_le _, by show h < h + 1; omega, Nat.zero_le _, by show i < i + 1; omega, u⟩
          · obtain rfl := List.mem_singleton.mp hp
            have := c3.mem q hq
            show q.1 < h ∧ q.2 < i
            omega
        · rw [if_neg u]; exact ⟨l3, w3, by omega⟩
      obtain ⟨l4, w4, e4⟩ := k3
      rw [pfx]
      by_cases q1 : max (pfx U h (i + 1)) (pfx U (h + 1) i) ≤ pfx U h i + (if U h i = true then 1 else 0)
      · exact ⟨l4, w4, by omega⟩
      · by_cases q2 : pfx U h (i + 1) ≤ pfx U (h + 1) i
        · exact ⟨l2, w2, by omega⟩
        · exact ⟨l1, w1, by omega⟩
theorem sfx_pfx (U : Nat → Nat → Bool) (n m : Nat) : sfx U n m n m = pfx U n m := by
  obtain ⟨l1, c1, e1⟩ := sfx_ex (U := U) (n := n) (m := m) n m (Nat.le_refl _) (Nat.le_refl _)
  obtain ⟨l2, c2, e2⟩ := pfx_ex (U := U) n m
  rw [Nat.sub_self, Nat.sub_self] at c1
  have h1 := pfx_ge n m l1 c1
  have h2 := sfx_ge (U := U) (n := n) (m := m) n m l2 (Nat.le_refl _) (Nat.le_refl _) (by rw [Nat.sub_self, Nat.sub_self]; exact c2)
  omega
end Bt

set_option Elab.async false
set_option linter.all false
set_option maxRecDepth 100000
set_option maxHeartbeats 4000000
/-! the rank -/
namespace Bt
open PySem L2
set_option pp.maxSteps 900
local macro_rules | `(tactic| walk_at "lk") => `(tactic| first
  | assumption
  | exact upd_same
  | (refine at_new ?_ ?_; · assumption
     walk_at "lk")
  | (refine at_mut ?_ ?_; · assumption
     walk_at "lk")
  | (refine at_same ?_ ?_; · assumption
     walk_at "lk"))
local macro_rules | `(tactic| walk_at "w1") => `(tactic| with_reducible first
  | refine w_seq ?_ | refine w_asg ?_ | refine w_name ?_ | refine w_ret ?_ | refine w_retN ?_ | refine w_drop ?_ | refine w_next ?_
  | refine w_op ?_ | refine w_var rfl ?_ | refine w_c ?_ | refine w_un ?_ | refine w_test ?_ | refine w_tB ?_ | refine w_bl ?_ | refine w_chain ?_
  | refine w_and ?_ | refine w_or ?_ | refine w_not ?_ | refine w_andV ?_ | refine w_orV ?_ | refine w_notV ?_ | refine w_cons ?_ | refine w_nil ?_
  | refine w_par ?_ | refine w_parL ?_ | refine w_call ?_ | refine w_CB ?_ | refine w_prop ?_ | refine w_fld ?_ | refine w_meth ?_ | refine w_make ?_ | refine w_tup ?_ | refine w_lst ?_
  | refine w_I0 ?_ | refine w_U ?_ | refine w_addI ?_ | refine w_eqI ?_ | refine w_eqS ?_ | refine w_neI ?_ | refine w_neS ?_ | refine w_isN ?_ | refine w_notN ?_
  | refine w_tt ?_ | refine w_ff ?_ | refine w_nt ?_ | refine w_nf ?_ | refine w_ntt ?_ | refine w_att ?_ | refine w_js ?_ | refine w_jsN ?_ | refine w_fmtS ?_ | refine w_m1 ?_ | refine w_m1L ?_ | refine w_sfld ?_ | refine w_bm ?_ | refine w_dc ?_ | refine w_iIt ?_ | refine w_star ?_ | refine w_mkO ?_ | refine w_raise ?_ | refine w_osg ?_ | refine w_gfld ?_ | refine w_kget ?_ | refine w_dget ?_ | refine w_din ?_ | refine w_dnotin ?_ | refine w_slice ?_ | refine w_on ?_ | refine w_os ?_ | refine w_sub ?_ | refine w_bmN ?_ | refine w_intI ?_ | refine w_intB ?_ | refine w_strS ?_
  | refine w_lc ?_ | refine w_for ?_ | refine w_iL ?_ | refine w_iT ?_ | refine w_iS ?_ | refine w_iK ?_ | refine w_iR1 ?_ | refine w_iR3 ?_ | refine w_iET ?_ | refine w_srcS ?_)
local macro_rules | `(tactic| walk_at "w") => `(tactic| (repeat walk_at "w1"); try (with_reducible refine w_ifN ?_))
local macro_rules | `(tactic| walk_at "ws") => `(tactic| with_reducible first | refine w_seq ?_ | refine w_next ?_)
local macro_rules | `(tactic| walk_at "w2") => `(tactic| repeat with_reducible first | refine w_seq ?_ | refine w_asg ?_ | refine w_name ?_ | refine w_next ?_)
local macro_rules | `(tactic| walk_at "sz") => `(tactic| (rw [sizeLine_eq]; exact Nat.le_of_ble_eq_true rfl))
/-- a row of the table -/
def rowV (m : Nat) (f : Nat → Nat) : List V := (List.range (m + 1)).map fun i => V.int (f i : Nat)
theorem rowV_len (m : Nat) (f : Nat → Nat) : (rowV m f).length = m + 1 := by simp [rowV]
theorem rowV_at {m : Nat} {f : Nat → Nat} {i : Int} (h0 : 0 ≤ i) (h1 : i ≤ m) : atI (rowV m f) i = some (.int (f i.toNat : Nat)) := by
  obtain ⟨n, rfl⟩ := Int.eq_ofNat_of_zero_le h0
  refine atI_nat ?_
  rw [rowV, List.getElem?_map, List.getElem?_range (by omega)]
  rfl
theorem rowV_set {m : Nat} {f : Nat → Nat} {i v : Nat} (h : i ≤ m) : (rowV m f).set i (.int (v : Nat)) = rowV m fun j => if j = i then v else f j := by
  apply List.ext_getElem?
  intro j
  rw [List.getElem?_set]
  by_cases e : i = j
  · subst e
    rw [if_pos rfl, if_pos (by rw [rowV_len]; omega), rowV, List.getElem?_map, List.getElem?_range (by omega)]
    simp
  · rw [if_neg e, rowV, rowV, List.getElem?_map, List.getElem?_map]
    by_cases hj : j < m + 1
    · rw [List.getElem?_range hj]
      simp [Ne.symm e]
    · rw [List.getElem?_eq_none (by simp; omega)]
      rfl
theorem rowV_zero (m : Nat) : ((List.range (m + 1)).map fun i => V.int (i : Nat)).map (fun _ => V.int 0) = rowV m fun _ => 0 := by
  simp [rowV]
theorem atI_0 {v : V} {ys : List V} : atI (v :: ys) 0 = some v := atI_nat (j := 0) rfl
theorem nodup_at {α : Type} {l : List α} {i j : Nat} {x : α} (n : l.Nodup) (hi : l[i]? = some x) (hj : l[j]? = some x) : i = j := by
  obtain ⟨l1, e1⟩ := List.getElem?_eq_some_iff.mp hi
  obtain ⟨l2, e2⟩ := List.getElem?_eq_some_iff.mp hj
  have pw := List.pairwise_iff_getElem.mp n
  rcases Nat.lt_trichotomy i j with h | h | h
  · exact absurd (e1.trans e2.symm) (pw i j l1 l2 h)
  · exact h
  · exact absurd (e2.trans e1.symm) (pw j i l2 l1 h)
/-- the table stands -/
structure Rows (H0 H : Hp) (p : Addr) (rs : List Addr) (m : Nat) (Tb : Nat → Nat → Nat) : Prop where
  lst : H p = some (.lst (rs.map V.ref))
  nd : rs.Nodup
  ne : ∀ r ∈ rs, r ≠ p
  fr : ∀ r ∈ rs, H0 r = none
  at_ : ∀ h r, rs[h]? = some r → H r = some (.lst (rowV m (Tb h)))
theorem Rows.set {H0 H : Hp} {p r : Addr} {rs : List Addr} {m h i v : Nat} {Tb : Nat → Nat → Nat} (R : Rows H0 H p rs m Tb) (hr : rs[h]? = some r) (hi : i ≤ m) :
    Rows H0 (upd H r (.lst ((rowV m (Tb h)).set i (.int (v : Nat))))) p rs m fun h' j => if h' = h ∧ j = i then v else Tb h' j := by
  have hm := List.mem_of_getElem? hr
  refine ⟨at_mut (Ne.symm (R.ne r hm)) R.lst, R.nd, R.ne, R.fr, fun h' r' hr' => ?_⟩
  by_cases e : h' = h
  · subst e
    obtain rfl : r' = r := Option.some.inj (hr'.symm.trans hr)
    rw [upd_same, rowV_set hi]
    simp
  · have hne : r' ≠ r := fun z => by
      subst z
      exact e (nodup_at R.nd hr' hr)
    rw [upd_ne hne, R.at_ h' r' hr']
    simp [e]
theorem Rows.tb {H0 H : Hp} {p : Addr} {rs : List Addr} {m : Nat} {Tb Tb' : Nat → Nat → Nat} (R : Rows H0 H p rs m Tb) (e : ∀ h i, h < rs.length → i ≤ m → Tb h i = Tb' h i) : Rows H0 H p rs m Tb' :=
  ⟨R.lst, R.nd, R.ne, R.fr, fun h r hr => by
    rw [R.at_ h r hr]
    have hl := (List.getElem?_eq_some_iff.mp hr).1
    have : rowV m (Tb h) = rowV m (Tb' h) := List.map_congr_left fun i hi => by
      have := List.mem_range.mp hi
      rw [e h i hl (by omega)]
    rw [this]⟩
theorem Rows.row {H0 H : Hp} {p : Addr} {rs : List Addr} {m : Nat} {Tb : Nat → Nat → Nat} (R : Rows H0 H p rs m Tb) {i : Int} (h0 : 0 ≤ i) (h1 : i < rs.length) : ∃ r, atI (rs.map V.ref) i = some (.ref r) ∧ rs[i.toNat]? = some r := by
  obtain ⟨n, rfl⟩ := Int.eq_ofNat_of_zero_le h0
  have hn : n < rs.length := by omega
  exact ⟨rs[n], atI_nat (by rw [List.getElem?_map, List.getElem?_eq_getElem hn]; rfl), by simp [List.getElem?_eq_getElem hn]⟩
/-- how many hills and places can be paired -/
def upN (d : Int) (ks xs : List Int) : Nat → Nat → Bool := fun h i => up d ks h (kat xs i)
def hillsN (d : Int) (ks : List Int) : Nat := ((ks.length : Int) - d - 1).toNat
def rk (d : Int) (ks xs : List Int) : Nat := sfx (upN d ks xs) (hillsN d ks) xs.length (hillsN d ks) xs.length
/-- the table after so many turns -/
def tbO (U : Nat → Nat → Bool) (n m t : Nat) : Nat → Nat → Nat := fun h i => if n - t ≤ h then sfx U n m (n - h) (m - i) else 0
def tbI (U : Nat → Nat → Bool) (n m t u : Nat) : Nat → Nat → Nat := fun h i => if n - t ≤ h then sfx U n m (n - h) (m - i) else if h + 1 = n - t ∧ m - u ≤ i then sfx U n m (n - h) (m - i) else 0
theorem tbO_0 {U : Nat → Nat → Bool} {n m h i : Nat} (hh : h < n + 1) : (0 : Nat) = tbO U n m 0 h i := by
  unfold tbO
  split
  · rw [show n - h = 0 by omega]; simp [sfx]
  · rfl
theorem tbI_0 {U : Nat → Nat → Bool} {n m t h i : Nat} (hi : i ≤ m) : tbO U n m t h i = tbI U n m t 0 h i := by
  unfold tbO tbI
  split
  · rfl
  · split
    · rw [show m - i = 0 by omega, sfx_0]
    · rfl
theorem tbI_m {U : Nat → Nat → Bool} {n m t h i : Nat} (ht : t < n) : tbI U n m t m h i = tbO U n m (t + 1) h i := by
  unfold tbO tbI
  by_cases h1 : n - t ≤ h
  · rw [if_pos h1, if_pos (by omega)]
  · rw [if_neg h1]
    by_cases h2 : h + 1 = n - t
    · rw [if_pos ⟨h2, by omega⟩, if_pos (by omega)]
    · rw [if_neg (fun z => h2 z.1), if_neg (by omega)]
theorem tbI_s {U : Nat → Nat → Bool} {n m t u h i : Nat} (ht : t < n) (hu : u < m) (hi : i ≤ m) : (if h = n - 1 - t ∧ i = m - 1 - u then sfx U n m (t + 1) (u + 1) else tbI U n m t u h i) = tbI U n m t (u + 1) h i := by
  unfold tbI
  by_cases h1 : n - t ≤ h
  · rw [if_neg (by omega), if_pos h1, if_pos h1]
  · rw [if_neg h1, if_neg h1]
    by_cases h2 : h = n - 1 - t ∧ i = m - 1 - u
    · rw [if_pos h2, if_pos (by omega)]
      rw [show n - h = t + 1 by omega, show m - i = u + 1 by omega]
    · rw [if_neg h2]
      by_cases h3 : h + 1 = n - t ∧ m - u ≤ i
      · rw [if_pos h3, if_pos (by omega)]
      · rw [if_neg h3, if_neg (by omega)]
section
variable {P : Program} {w : World} {K : Frag} {mg : Str → Option Value} {base : Heap} {H : Hp} {Q : VK} {σ : L2.St}
def spLen (K : Frag) : Sp := fun vs H Q _ => ∃ a p d ks xs, vs = [.ref a, .ref p] ∧ FrameAt K H a d ks ∧ TN H p (xs.map V.int) ∧ 0 ≤ d ∧ d + 1 ≤ ks.length ∧ ks.length ≤ 20 ∧ xs.length ≤ 20 ∧
  ∀ H' q r ys zs, Same H H' → H' q = some (.lst (.ref r :: ys)) → H' r = some (.lst (.int (rk d ks xs : Nat) :: zs)) → Q (.ref q) H'
abbrev s_lengths_from : Stmt := top 66
theorem sc_lengths_from : FnScope ["frame", "places", "found", "hill", "hills", "many", "index", "best"] ["frame", "places"] (defScope s_lengths_from) := ⟨rfl, rfl, rfl, by decide +kernel, rfl, by decide +kernel, by decide +kernel⟩
theorem ok_lengths_from (T : Txt w K mg) : Own P w K mg base "lengths_from" 5 ["frame", "places"] (spLen K) := by
  refine own_of T.f_lengths_from sc_lengths_from (fun _ _ _ _ _ _ us hl => match us, hl with | [_, _], _ => rfl) (fun vs H Q E h => ?_) (fun f cdv A outer s H vs Q E hr h => ?_)
  · obtain ⟨a, p, d, ks, xs, rfl, _⟩ := h; rfl
  · have sc := sc_lengths_from
    have hu64 := hr.units
    obtain ⟨a, p, d, ks, xs, rfl, fa, ep, d0, l0, l1, l2, k⟩ := h
    obtain ⟨n, hn⟩ : ∃ n : Nat, (ks.length : Int) - d - 1 = n := ⟨_, (Int.toNat_of_nonneg (by omega)).symm⟩
    have hN : hillsN d ks = n := by unfold hillsN; rw [hn]; rfl
    refine ⟨_, (pss_cons (ps_asg (pe_tup (pa_cons (pe_ownP (ok_Frame_hills T) T.k_Frame hr passN (pv 0)) (pa_cons (pe_callB (call_lenU) (by rfl) T.b_len (by decide +kernel) (pa_cons (pv 1) pa_nil)) pa_nil))) (pg_tup rfl (pgs_cons (pg_name (i := 4) sc.nd rfl (Or.inl rfl)) (pgs_cons (pg_name (i := 5) sc.nd rfl (Or.inr rfl)) pgs_nil))))
      (pss_cons (ps_setLc (i := 2) (own := [("hill", 3)]) rfl sc.nd rfl rfl (sw_true rfl rfl rfl (by decide +kernel)) (pi_range1 rfl T.b_range (pa_cons (pe_op op_addU (pv 4) pe_int) pa_nil)) (blkOk_by (by rfl)) (fun _ _ _ _ _ => (pg_name (i := 3) sc.nd rfl (Or.inl rfl))) (fun _ _ _ _ _ => pts_nil) (fun _ _ _ _ _ => (pe_lc (own := [("index", 6)]) rfl sc.nd (pi_range1 rfl T.b_range (pa_cons (pe_op op_addU (pv 5) pe_int) pa_nil)) (blkOk_by (by rfl)) (fun _ _ _ _ _ => (pg_name (i := 6) sc.nd rfl (Or.inl rfl))) (fun _ _ _ _ _ => pts_nil) (fun _ _ _ _ _ => pe_int))))
      (pss_cons (ps_for (passes_of rfl) rfl (pi_range3 rfl T.b_range (pa_cons (pe_op op_sub (pv 4) pe_int) (pa_cons (pe_un un_neg pe_int) (pa_cons (pe_un un_neg pe_int) pa_nil)))) (pg_name (i := 3) sc.nd rfl (Or.inl rfl)) (pss_one (ps_for (passes_of rfl) rfl (pi_range3 rfl T.b_range (pa_cons (pe_op op_sub (pv 5) pe_int) (pa_cons (pe_un un_neg pe_int) (pa_cons (pe_un un_neg pe_int) pa_nil)))) (pg_name (i := 6) sc.nd rfl (Or.inl rfl)) (pss_cons (ps_set (i := 7) sc.nd rfl (Or.inl rfl) (pe_callB (call_max2 rfl) (by rfl) T.b_max (by decide +kernel) (pa_cons (pe_ix ix_seq (pe_ix ix_seq (pv 2) (pe_op op_addU (pv 3) pe_int) (fun _ _ => rfl)) (pv 6) (fun _ _ => rfl)) (pa_cons (pe_ix ix_seq (pe_ix ix_seq (pv 2) (pv 3) (fun _ _ => rfl)) (pe_op op_addU (pv 6) pe_int) (fun _ _ => rfl)) pa_nil))))
      (pss_cons (ps_if (pt_val (pe_own (ok_is_up T) hr passN (pa_cons (pv 0) (pa_cons (pv 3) (pa_cons (pe_ix ix_seq (pv 1) (pv 6) (fun _ _ => rfl)) pa_nil))))) (pss_one (ps_set (i := 7) sc.nd rfl (Or.inl rfl) (pe_callB (call_max2 rfl) (by rfl) T.b_max (by decide +kernel) (pa_cons (pv 7) (pa_cons (pe_op op_addU (pe_ix ix_seq (pe_ix ix_seq (pv 2) (pe_op op_addU (pv 3) pe_int) (fun _ _ => rfl)) (pe_op op_addU (pv 6) pe_int) (fun _ _ => rfl)) pe_int) pa_nil))))) pss_nil)
      (pss_one (ps_asg (pv 7) (pg_sub (pe_ix ix_seq (pv 2) (pv 3) (fun _ _ => rfl)) (pv 6) set_list))))))))
      (pss_one (ps_ret (pv 2)))))), ?_⟩
    walk_at "w"
    obtain ⟨dx, p1, q1, fa1, fa2, fa3⟩ := id fa
    refine w_propL fa1 ⟨a, d, ks, rfl, fa, ?_⟩
    rw [hn]
    walk_at "w"
    refine w_lenN ep ?_
    rw [List.length_map]
    walk_at "w"
    refine ⟨by walk_at "sz", fun t0 ht0 => ?_⟩
    refine w_unp2 upd_same ?_
    walk_at "w"
    refine w_srcR (by omega) (by omega) ?_
    rw [show ((n : Int) + 1).toNat = n + 1 by omega]
    refine w_lcG (yl_range (n + 1)) (fun D i ys H' => ∃ rs : List Addr, ys = rs.map V.ref ∧ rs.length = i ∧ rs.Nodup ∧ ∀ r ∈ rs, r ≠ D ∧ H r = none ∧ H' r = some (.lst (rowV xs.length fun _ => 0))) (by simp; omega) (fun _ => rfl) (fun D hD => ⟨[], rfl, rfl, .nil, fun _ h => nomatch h⟩) (fun D hD i x ys H' hx s hy acc q hq => ?_) fun D H' ys hD s hy acc => ?_
    · walk_at "w"
      refine w_srcR (by omega) (by omega) ?_
      rw [show ((xs.length : Int) + 1).toNat = xs.length + 1 by omega]
      refine w_lcM (yl_range (xs.length + 1)) (fun _ => .int 0) (by simp; omega) (fun _ => rfl) (fun x hx H' s q hq => ?_) fun p2 H2 hp s2 e => ?_
      · walk_at "w"
        exact hq _ (Same.refl _)
      · rw [rowV_zero] at e
        obtain ⟨rs, rfl, hl, nd, hr⟩ := acc
        have hp0 : H p2 = none := none_of_new (none_of_same s hp)
        have hpD : p2 ≠ D := fun z => by rw [z] at hp; rw [hy] at hp; cases hp
        refine hq _ H2 s2 ⟨rs ++ [p2], by rw [List.map_append]; rfl, by rw [List.length_append, hl]; rfl, List.nodup_append.mpr ⟨nd, List.pairwise_singleton _ _, fun r hr1 r2 hr2 => ?_⟩, fun r hr1 => ?_⟩
        · obtain rfl := List.mem_singleton.mp hr2
          exact fun z => by rw [z] at hr1; have := (hr _ hr1).2.2; rw [hp] at this; cases this
        · rcases List.mem_append.mp hr1 with h1 | h1
          · obtain ⟨a1, a2, a3⟩ := hr r h1
            exact ⟨a1, a2, at_mut a1 (s2 _ _ a3)⟩
          · obtain rfl := List.mem_singleton.mp h1
            exact ⟨hpD, hp0, at_mut hpD e⟩
    · obtain ⟨rs, rfl, hl, nd, hr⟩ := acc
      have hl : rs.length = n + 1 := by simpa using hl
      have sH : Same H H' := fun b o e => s b o (at_new ht0 e)
      have R0 : Rows H H' D rs xs.length fun _ _ => 0 := ⟨hy, nd, fun r h => (hr r h).1, fun r h => (hr r h).2.1, fun h r e => (hr r (List.mem_of_getElem? e)).2.2⟩
      walk_at "w"
      refine w_srcD (by omega) (by omega) ?_
      rw [show ((n : Int) - 1 - -1).toNat = n by omega]
      generalize hU : upN d ks xs = U at *
      refine forB_down (fun t σ H1 => ∃ v3 v6 v7, σ = [some (.ref a), some (.ref p), some (.ref D), v3, some (.int n), some (.int xs.length), v6, v7] ∧ Same H H1 ∧ Rows H H1 D rs xs.length (tbO U n xs.length t)) ⟨_, _, _, rfl, sH, R0.tb fun h i hh _ => tbO_0 (by omega)⟩ (fun t σ H1 ht hI => ?_) fun σ H1 hI => ?_
      · obtain ⟨v3, v6, v7, rfl, s1, R1⟩ := hI
        walk_at "w"
        refine w_srcD (by omega) (by omega) ?_
        rw [show ((xs.length : Int) - 1 - -1).toNat = xs.length by omega]
        refine forB_down (fun u σ H1 => ∃ v6 v7, σ = [some (.ref a), some (.ref p), some (.ref D), some (.int ((n : Int) - 1 + t * (-1))), some (.int n), some (.int xs.length), v6, v7] ∧ Same H H1 ∧ Rows H H1 D rs xs.length (tbI U n xs.length t u)) ⟨_, _, rfl, s1, R1.tb fun h i _ hi => tbI_0 hi⟩ (fun u σ H1 hu hJ => ?_) fun σ H1 hJ => ?_
        · obtain ⟨v6, v7, rfl, s1, R1⟩ := hJ
          obtain ⟨rA, a1, a2⟩ := R1.row (i := (n : Int) - 1 + t * (-1) + 1) (by omega) (by omega)
          obtain ⟨rB, b1, b2⟩ := R1.row (i := (n : Int) - 1 + t * (-1)) (by omega) (by omega)
          have x1 : tbI U n xs.length t u ((n : Int) - 1 + t * (-1) + 1).toNat ((xs.length : Int) - 1 + u * (-1)).toNat = sfx U n xs.length t (u + 1) := by
            unfold tbI; rw [if_pos (by omega)]
            rw [show n - ((n : Int) - 1 + t * (-1) + 1).toNat = t by omega, show xs.length - ((xs.length : Int) - 1 + u * (-1)).toNat = u + 1 by omega]
          have x2 : tbI U n xs.length t u ((n : Int) - 1 + t * (-1)).toNat ((xs.length : Int) - 1 + u * (-1) + 1).toNat = sfx U n xs.length (t + 1) u := by
            unfold tbI; rw [if_neg (by omega), if_pos (by omega)]
            rw [show n - ((n : Int) - 1 + t * (-1)).toNat = t + 1 by omega, show xs.length - ((xs.length : Int) - 1 + u * (-1) + 1).toNat = u by omega]
          have x3 : tbI U n xs.length t u ((n : Int) - 1 + t * (-1) + 1).toNat ((xs.length : Int) - 1 + u * (-1) + 1).toNat = sfx U n xs.length t u := by
            unfold tbI; rw [if_pos (by omega)]
            rw [show n - ((n : Int) - 1 + t * (-1) + 1).toNat = t by omega, show xs.length - ((xs.length : Int) - 1 + u * (-1) + 1).toNat = u by omega]
          have xu : up d ks ((n : Int) - 1 + t * (-1)) (kat xs ((xs.length : Int) - 1 + u * (-1))) = U (n - (t + 1)) (xs.length - (u + 1)) := by
            rw [← hU]; unfold upN
            rw [show ((n : Int) - 1 + t * (-1)) = ((n - (t + 1) : Nat) : Int) by omega, show ((xs.length : Int) - 1 + u * (-1)) = ((xs.length - (u + 1) : Nat) : Int) by omega]
          have mx : ∀ i j : Nat, (if (j : Int) > (i : Int) then (j : Int) else (i : Int)) = ((max i j : Nat) : Int) := fun i j => by split <;> omega
          have jx : ixN (rowV xs.length (tbI U n xs.length t u ((n : Int) - 1 + t * (-1)).toNat)).length ((xs.length : Int) - 1 + u * (-1)) = some (xs.length - 1 - u) := by
            unfold ixN
            rw [rowV_len, if_pos (by omega), if_pos (by omega)]
            congr 1; omega
          have fin : ∀ v : Nat, v = sfx U n xs.length (t + 1) (u + 1) → Same H (upd H1 rB (.lst ((rowV xs.length (tbI U n xs.length t u ((n : Int) - 1 + t * (-1)).toNat)).set (xs.length - 1 - u) (.int (v : Nat))))) ∧
              Rows H (upd H1 rB (.lst ((rowV xs.length (tbI U n xs.length t u ((n : Int) - 1 + t * (-1)).toNat)).set (xs.length - 1 - u) (.int (v : Nat))))) D rs xs.length (tbI U n xs.length t (u + 1)) := fun v ev =>
            ⟨fun b o e => at_mut (ne_of_none e (R1.fr _ (List.mem_of_getElem? b2))) (s1 _ _ e), (R1.set b2 (by omega)).tb fun h i hh hi => by
              rw [ev, show ((n : Int) - 1 + t * (-1)).toNat = n - 1 - t by omega]
              exact tbI_s (by omega) hu hi⟩
          walk_at "w"
          refine w_ixLa R1.lst a1 ?_
          walk_at "w"
          refine w_ixLa (R1.at_ _ _ a2) (rowV_at (by omega) (by omega)) ?_
          walk_at "w"
          refine w_ixLa R1.lst b1 ?_
          walk_at "w"
          refine w_ixLa (R1.at_ _ _ b2) (rowV_at (by omega) (by omega)) ?_
          walk_at "w"
          refine ⟨_, _, rfl, ?_⟩
          rw [x1, x2, mx]
          walk_at "w"
          refine w_ifb (U (n - (t + 1)) (xs.length - (u + 1))) (fun q hq => ?_) (fun c => ?_) fun c => ?_
          · walk_at "w"
            refine w_ixN (ep.same s1) (atI_kat (by omega) (by omega)) ?_
            walk_at "w"
            refine ⟨a, d, ks, _, _, rfl, fa.same s1, d0, by omega, by omega, ?_⟩
            rw [xu]
            walk_at "w"
            exact hq
          · walk_at "w"
            refine w_ixLa R1.lst a1 ?_
            walk_at "w"
            refine w_ixLa (R1.at_ _ _ a2) (rowV_at (by omega) (by omega)) ?_
            walk_at "w"
            refine ⟨_, _, rfl, ?_⟩
            rw [x3, show ((sfx U n xs.length t u : Nat) : Int) + 1 = ((sfx U n xs.length t u + 1 : Nat) : Int) by omega, mx]
            walk_at "w"
            refine w_ixLa R1.lst b1 ?_
            walk_at "w"
            have ev : max (max (sfx U n xs.length t (u + 1)) (sfx U n xs.length (t + 1) u)) (sfx U n xs.length t u + 1) = sfx U n xs.length (t + 1) (u + 1) := by
              rw [show sfx U n xs.length (t + 1) (u + 1) = if U (n - (t + 1)) (xs.length - (u + 1)) = true then max (max (sfx U n xs.length t (u + 1)) (sfx U n xs.length (t + 1) u)) (sfx U n xs.length t u + 1) else max (sfx U n xs.length t (u + 1)) (sfx U n xs.length (t + 1) u) by rw [sfx], if_pos c]
            rw [ev]
            refine w_setL (R1.at_ _ _ b2) jx ?_
            exact ⟨_, _, rfl, fin _ rfl⟩
          · walk_at "w"
            refine w_ixLa R1.lst b1 ?_
            walk_at "w"
            have ev : max (sfx U n xs.length t (u + 1)) (sfx U n xs.length (t + 1) u) = sfx U n xs.length (t + 1) (u + 1) := by
              rw [show sfx U n xs.length (t + 1) (u + 1) = if U (n - (t + 1)) (xs.length - (u + 1)) = true then max (max (sfx U n xs.length t (u + 1)) (sfx U n xs.length (t + 1) u)) (sfx U n xs.length t u + 1) else max (sfx U n xs.length t (u + 1)) (sfx U n xs.length (t + 1) u) by rw [sfx], c, if_neg Bool.false_ne_true]
            rw [ev]
            refine w_setL (R1.at_ _ _ b2) jx ?_
            exact ⟨_, _, rfl, fin _ rfl⟩
        · obtain ⟨v6, v7, rfl, s1, R1⟩ := hJ
          exact ⟨_, _, _, rfl, s1, R1.tb fun h i _ _ => tbI_m (by omega)⟩
      · obtain ⟨v3, v6, v7, rfl, s1, R1⟩ := hI
        walk_at "w"
        obtain ⟨r0, c1, c2⟩ := R1.row (i := 0) (by omega) (by omega)
        have e1 := R1.at_ 0 r0 c2
        obtain ⟨r', rest, er⟩ : ∃ r' rest, rs = r' :: rest := by
          cases rs with
          | nil => simp at hl
          | cons r' rest => exact ⟨r', rest, rfl⟩
        subst er
        obtain rfl : r' = r0 := Option.some.inj c2
        refine k _ D r' (rest.map V.ref) ((rowV xs.length (tbO U n xs.length n 0)).drop 1) s1 R1.lst ?_
        rw [e1]
        have ez : tbO U n xs.length n 0 0 = rk d ks xs := by
          unfold tbO rk
          rw [if_pos (by omega), hN, hU]; rfl
        rw [← ez]
        rw [show rowV xs.length (tbO U n xs.length n 0) = V.int (tbO U n xs.length n 0 0 : Nat) :: (rowV xs.length (tbO U n xs.length n 0)).drop 1 by
          unfold rowV; rw [List.range_succ_eq_map]; rfl]
        rfl
def spRank (K : Frag) : Sp := fun vs H Q _ => ∃ a p d ks xs, vs = [.ref a, .ref p] ∧ FrameAt K H a d ks ∧ TN H p (xs.map V.int) ∧ PlanOk d ks ∧ PlOk xs ∧ ∀ H', Same H H' → Q (.int (rk d ks xs : Nat)) H'
abbrev s_rank_of : Stmt := top 67
theorem sc_rank_of : FnScope ["frame", "places"] ["frame", "places"] (defScope s_rank_of) := ⟨rfl, rfl, rfl, by decide +kernel, rfl, by decide +kernel, by decide +kernel⟩
theorem ok_rank_of (T : Txt w K mg) : Own P w K mg base "rank_of" 6 ["frame", "places"] (spRank K) := by
  refine own_of T.f_rank_of sc_rank_of (fun _ _ _ _ _ _ us hl => match us, hl with | [_, _], _ => rfl) (fun vs H Q E h => ?_) (fun f cdv A outer s H vs Q E hr h => ?_)
  · obtain ⟨a, p, d, ks, xs, rfl, _⟩ := h; rfl
  · have sc := sc_rank_of
    obtain ⟨a, p, d, ks, xs, rfl, fa, ep, ok, pk, k⟩ := h
    refine ⟨_, (pss_one (ps_ret (pe_ix ix_seq (pe_ix ix_seq (pe_own (ok_lengths_from T) hr passN (pa_cons (pv 0) (pa_cons (pv 1) pa_nil))) pe_int (fun _ _ => rfl)) pe_int (fun _ _ => rfl)))), ?_⟩
    walk_at "w"
    refine ⟨a, p, d, ks, xs, rfl, fa, ep, ok.d0, by have := ok.l0; omega, by have := ok.l1; have := ok.d4; omega, by have := pk.l12; omega, fun H' q r ys zs s e1 e2 => ?_⟩
    walk_at "w"
    refine w_ixLa e1 atI_0 ?_
    walk_at "w"
    exact w_ixLa e2 atI_0 (k H' s)
def spBoth (K : Frag) : Sp := fun vs H Q _ => ∃ a p d ks xs, vs = [.ref a, .ref p] ∧ FrameAt K H a d ks ∧ TN H p (xs.map V.int) ∧ PlOk xs ∧ ∀ H', Same H H' → Q .non H'
abbrev s_check_both : Stmt := top 68
theorem sc_check_both : FnScope ["frame", "places"] ["frame", "places"] (defScope s_check_both) := ⟨rfl, rfl, rfl, by decide +kernel, rfl, by decide +kernel, by decide +kernel⟩
theorem ok_check_both (T : Txt w K mg) : Own P w K mg base "check_both" 6 ["frame", "places"] (spBoth K) := by
  refine own_of T.f_check_both sc_check_both (fun _ _ _ _ _ _ us hl => match us, hl with | [_, _], _ => rfl) (fun vs H Q E h => ?_) (fun f cdv A outer s H vs Q E hr h => ?_)
  · obtain ⟨a, p, d, ks, xs, rfl, _⟩ := h; rfl
  · have sc := sc_check_both
    obtain ⟨a, p, d, ks, xs, rfl, fa, ep, pk, k⟩ := h
    refine ⟨_, (pss_cons (ps_expr (pe_own (ok_check_frame T) hr passN (pa_cons (pv 0) pa_nil)))
      (pss_one (ps_expr (pe_own (ok_check_places T) hr passN (pa_cons (pv 1) pa_nil))))), ?_⟩
    walk_at "w"
    refine ⟨a, d, ks, rfl, fa, ?_⟩
    walk_at "w"
    refine ⟨p, xs, rfl, ep, pk, fun H1 s1 => ?_⟩
    walk_at "w"
    exact k H1 s1
abbrev s_rank : Stmt := top 69
theorem sc_rank : FnScope ["frame", "places"] ["frame", "places"] (defScope s_rank) := ⟨rfl, rfl, rfl, by decide +kernel, rfl, by decide +kernel, by decide +kernel⟩
theorem ok_rank (T : Txt w K mg) : Own P w K mg base "rank" 7 ["frame", "places"] (spRank K) := by
  refine own_of T.f_rank sc_rank (fun _ _ _ _ _ _ us hl => match us, hl with | [_, _], _ => rfl) (fun vs H Q E h => ?_) (fun f cdv A outer s H vs Q E hr h => ?_)
  · obtain ⟨a, p, d, ks, xs, rfl, _⟩ := h; rfl
  · have sc := sc_rank
    obtain ⟨a, p, d, ks, xs, rfl, fa, ep, ok, pk, k⟩ := h
    refine ⟨_, (pss_cons (ps_expr (pe_own (ok_check_both T) hr passN (pa_cons (pv 0) (pa_cons (pv 1) pa_nil))))
      (pss_one (ps_ret (pe_own (ok_rank_of T) hr passN (pa_cons (pv 0) (pa_cons (pv 1) pa_nil)))))), ?_⟩
    walk_at "w"
    refine ⟨a, p, d, ks, xs, rfl, fa, ep, pk, fun H1 s1 => ?_⟩
    walk_at "w"
    exact ⟨a, p, d, ks, xs, rfl, fa.same s1, ep.same s1, ok, pk, fun H2 s2 => k H2 (s1.trans s2)⟩
end
end Bt

set_option Elab.async false
set_option linter.all false
set_option maxRecDepth 100000
set_option maxHeartbeats 4000000
/-! claims and shelves -/
namespace Bt
open PySem L2
/-! ### the plain things -/
abbrev Plan := Int × List Int
abbrev Shelf := List (Str × Plan)
inductive Wish where
  | wi (a b : Str)
  | rank (t : Str) (xs : List Int) (n : Int)
  | al (one : Bool) (t : Str) (xs : List Int)
def shV (sh : Shelf) (t : Str) : Option Plan := (sh.find? fun kv => decide (kv.1 = t)).map (·.2)
def Wish.title : Wish → Str
  | .wi a _ => a
  | .rank t _ _ => t
  | .al _ t _ => t
def Wish.titles : Wish → List Str
  | .wi a b => [a, b]
  | .rank t _ _ => [t]
  | .al _ t _ => [t]
def WishOk : Wish → Prop
  | .wi _ _ => True
  | .rank _ xs n => PlOk xs ∧ 0 ≤ n ∧ n ≤ 12
  | .al _ _ xs => PlOk xs
def WishAt (H : Hp) (p : Addr) : Wish → Prop
  | .wi a b => H p = some (.tup [.str "within", .str a, .str b])
  | .rank t xs n => ∃ s, H p = some (.tup [.str "rank", .str t, .ref s, .int n]) ∧ TN H s (xs.map V.int)
  | .al one t xs => ∃ s, H p = some (.tup [.str (if one = true then "one" else "all"), .str t, .ref s]) ∧ TN H s (xs.map V.int)
theorem WishAt.same {H H' : Hp} {p : Addr} (s : Same H H') : ∀ {w : Wish}, WishAt H p w → WishAt H' p w
  | .wi _ _, h => s _ _ h
  | .rank _ _ _, h => by obtain ⟨q, e, t⟩ := h; exact ⟨q, s _ _ e, t.same s⟩
  | .al _ _ _, h => by obtain ⟨q, e, t⟩ := h; exact ⟨q, s _ _ e, t.same s⟩
theorem Paired.imp {α β : Type} {R S : α → β → Prop} (f : ∀ a b, R a b → S a b) : ∀ {l : List α} {k : List β}, Paired R l k → Paired S l k
  | _, _, .nil => .nil
  | _, _, .cons r t => .cons (f _ _ r) (Paired.imp f t)
theorem Paired.len {α β : Type} {R : α → β → Prop} : ∀ {l : List α} {k : List β}, Paired R l k → l.length = k.length
  | _, _, .nil => rfl
  | _, _, .cons _ t => by rw [List.length_cons, List.length_cons, Paired.len t]
theorem Paired.at_ {α β : Type} {R : α → β → Prop} : ∀ {l : List α} {k : List β} {i : Nat} {b : β}, Paired R l k → k[i]? = some b → ∃ a, l[i]? = some a ∧ R a b
  | _, _, _, _, .nil, h => by simp at h
  | _, _, 0, _, .cons r _, h => by cases h; exact ⟨_, rfl, r⟩
  | _, _, i + 1, _, .cons _ t, h => by
    obtain ⟨a, e, r⟩ := Paired.at_ (i := i) t (by simpa using h)
    exact ⟨a, by simpa using e, r⟩
/-- the entries of a shelf's dict -/
abbrev Ents (R : Addr → Plan → Prop) : List (Key × V) → Shelf → Prop := Paired fun kv tp => kv.1 = Sum.inr tp.1 ∧ ∃ a, kv.2 = V.ref a ∧ R a tp.2
/-- a shelf stands at s, its things as R says -/
def ShAt (R : Hp → Addr → Plan → Prop) (H : Hp) (s : Addr) (sh : Shelf) : Prop := ∃ kvs, H s = some (.dK kvs) ∧ Ents (R H) kvs sh
theorem Ents.get {R : Addr → Plan → Prop} {t : Str} : ∀ {kvs : List (Key × V)} {sh : Shelf}, Ents R kvs sh → (∀ p, shV sh t = some p → ∃ a, valV kvs (Sum.inr t) = some (.ref a) ∧ R a p) ∧ (shV sh t = none → valV kvs (Sum.inr t) = none)
  | _, _, .nil => ⟨fun _ h => by simp [shV] at h, fun _ => rfl⟩
  | _, _, .cons (a := kv) (b := tp) r ts => by
    obtain ⟨e, a, ev, ra⟩ := r
    have ih := Ents.get (t := t) ts
    obtain ⟨k, v⟩ := kv
    obtain ⟨t', p⟩ := tp
    dsimp only at e ev ra
    subst e ev
    by_cases h : t' = t
    · subst h
      refine ⟨fun q hq => ?_, fun hn => ?_⟩
      · simp [shV] at hq
        subst hq
        exact ⟨a, by simp [valV], ra⟩
      · simp [shV] at hn
    · have h1 : ∀ l : Shelf, shV ((t', p) :: l) t = shV l t := fun l => by simp [shV, List.find?_cons, h]
      have h2 : ∀ l : List (Key × V), valV ((Sum.inr t', V.ref a) :: l) (Sum.inr t) = valV l (Sum.inr t) := fun l => by
        have hk : (Sum.inr t' : Key) ≠ Sum.inr t := fun z => h (Sum.inr.inj z)
        simp [valV, List.find?_cons, hk]
      rw [h1, h2]
      exact ih
theorem ShAt.get {R : Hp → Addr → Plan → Prop} {H : Hp} {s : Addr} {sh : Shelf} {t : Str} {p : Plan} (h : ShAt R H s sh) (e : shV sh t = some p) : ∃ a, DGet H s (.str t) (some (.ref a)) ∧ R H a p := by
  obtain ⟨kvs, hk, ps⟩ := h
  obtain ⟨a, h1, h2⟩ := (Ents.get (t := t) ps).1 p e
  exact ⟨a, .inl ⟨kvs, Sum.inr t, Rd.of hk, rfl, h1.symm⟩, h2⟩
theorem ShAt.look {R : Hp → Addr → Plan → Prop} {H : Hp} {s : Addr} {sh : Shelf} {t : Str} (h : ShAt R H s sh) : ∃ o, DGet H s (.str t) o ∧ o.isSome = (shV sh t).isSome := by
  cases e : shV sh t with
  | some p =>
    obtain ⟨a, h1, _⟩ := h.get e
    exact ⟨_, h1, rfl⟩
  | none =>
    obtain ⟨kvs, hk, ps⟩ := h
    exact ⟨none, .inl ⟨kvs, Sum.inr t, Rd.of hk, rfl, ((Ents.get (t := t) ps).2 e).symm⟩, rfl⟩
end Bt

set_option Elab.async false
set_option linter.all false
set_option maxRecDepth 100000
set_option maxHeartbeats 4000000
/-! claims -/
namespace Bt
open PySem L2
set_option pp.maxSteps 900
local macro_rules | `(tactic| walk_at "lk") => `(tactic| first
  | assumption
  | exact upd_same
  | (refine at_new ?_ ?_; · assumption
     walk_at "lk")
  | (refine at_mut ?_ ?_; · assumption
     walk_at "lk")
  | (refine at_same ?_ ?_; · assumption
     walk_at "lk"))
local macro_rules | `(tactic| walk_at "w1") => `(tactic| with_reducible first
  | refine w_seq ?_ | refine w_asg ?_ | refine w_name ?_ | refine w_ret ?_ | refine w_retN ?_ | refine w_drop ?_ | refine w_next ?_
  | refine w_op ?_ | refine w_var rfl ?_ | refine w_c ?_ | refine w_un ?_ | refine w_test ?_ | refine w_tB ?_ | refine w_bl ?_ | refine w_chain ?_
  | refine w_and ?_ | refine w_or ?_ | refine w_not ?_ | refine w_andV ?_ | refine w_orV ?_ | refine w_notV ?_ | refine w_cons ?_ | refine w_nil ?_
  | refine w_par ?_ | refine w_parL ?_ | refine w_call ?_ | refine w_CB ?_ | refine w_prop ?_ | refine w_fld ?_ | refine w_meth ?_ | refine w_make ?_ | refine w_tup ?_ | refine w_lst ?_
  | refine w_I0 ?_ | refine w_U ?_ | refine w_addI ?_ | refine w_eqI ?_ | refine w_eqS ?_ | refine w_neI ?_ | refine w_neS ?_ | refine w_isN ?_ | refine w_notN ?_
  | refine w_tt ?_ | refine w_ff ?_ | refine w_nt ?_ | refine w_nf ?_ | refine w_ntt ?_ | refine w_att ?_ | refine w_js ?_ | refine w_jsN ?_ | refine w_fmtS ?_ | refine w_m1 ?_ | refine w_m1L ?_ | refine w_sfld ?_ | refine w_bm ?_ | refine w_dc ?_ | refine w_iIt ?_ | refine w_star ?_ | refine w_mkO ?_ | refine w_raise ?_ | refine w_osg ?_ | refine w_gfld ?_ | refine w_kget ?_ | refine w_dget ?_ | refine w_din ?_ | refine w_dnotin ?_ | refine w_slice ?_ | refine w_on ?_ | refine w_os ?_ | refine w_sub ?_ | refine w_bmN ?_ | refine w_intI ?_ | refine w_intB ?_ | refine w_strS ?_
  | refine w_lc ?_ | refine w_for ?_ | refine w_iL ?_ | refine w_iT ?_ | refine w_iS ?_ | refine w_iK ?_ | refine w_iR1 ?_ | refine w_iR3 ?_ | refine w_iET ?_ | refine w_srcS ?_)
local macro_rules | `(tactic| walk_at "w") => `(tactic| (repeat walk_at "w1"); try (with_reducible refine w_ifN ?_))
local macro_rules | `(tactic| walk_at "ws") => `(tactic| with_reducible first | refine w_seq ?_ | refine w_next ?_)
local macro_rules | `(tactic| walk_at "w2") => `(tactic| repeat with_reducible first | refine w_seq ?_ | refine w_asg ?_ | refine w_name ?_ | refine w_next ?_)
local macro_rules | `(tactic| walk_at "sz") => `(tactic| (rw [sizeLine_eq]; exact Nat.le_of_ble_eq_true rfl))
theorem units1 {k : Nat} {A : Around} (r : Room k A) : A.units + 1 < cLine := by have := r.un; omega
/-- whether a claim holds of a shelf -/
def plOf (sh : Shelf) (t : Str) : Plan := (shV sh t).getD (0, [])
def holds (sh : Shelf) : Wish → Bool
  | .wi a b => inside (plOf sh a).1 (plOf sh a).2 (plOf sh b).1 (plOf sh b).2
  | .rank t xs n => decide (n ≤ (rk (plOf sh t).1 (plOf sh t).2 xs : Nat))
  | .al one t xs => decide (((rk (plOf sh t).1 (plOf sh t).2 xs : Nat) : Int) = xs.length) && (!one || decide (((rk (plOf sh t).1 (plOf sh t).2 xs : Nat) : Int) = (plOf sh t).2.length - (plOf sh t).1 - 1))
/-- what is shown of it -/
def shownV (sh : Shelf) : Wish → V
  | .wi _ _ => .non
  | .rank t xs _ => .int (rk (plOf sh t).1 (plOf sh t).2 xs : Nat)
  | .al _ t xs => .int (rk (plOf sh t).1 (plOf sh t).2 xs : Nat)
/-- the titles of a claim are there -/
def Has (sh : Shelf) (w : Wish) : Prop := ∀ t ∈ w.titles, (shV sh t).isSome = true
def ShOk (sh : Shelf) : Prop := ∀ t p, shV sh t = some p → PlanOk p.1 p.2
theorem Has.get {sh : Shelf} {w : Wish} {t : Str} (h : Has sh w) (m : t ∈ w.titles) : shV sh t = some (plOf sh t) := by
  have := h t m
  unfold plOf
  cases e : shV sh t with
  | none => rw [e] at this; cases this
  | some p => rfl
abbrev FrP (K : Frag) : Hp → Addr → Plan → Prop := fun H a p => FrameAt K H a p.1 p.2
theorem ShAt.same {R : Hp → Addr → Plan → Prop} {H H' : Hp} {s : Addr} {sh : Shelf} (m : ∀ a p, R H a p → R H' a p) (k : Same H H') (h : ShAt R H s sh) : ShAt R H' s sh := by
  obtain ⟨kvs, hk, ps⟩ := h
  exact ⟨kvs, k _ _ hk, Paired.imp (fun a b r => ⟨r.1, r.2.elim fun x y => ⟨x, y.1, m _ _ y.2⟩⟩) ps⟩
theorem ShAt.sameF {K : Frag} {H H' : Hp} {s : Addr} {sh : Shelf} (k : Same H H') (h : ShAt (FrP K) H s sh) : ShAt (FrP K) H' s sh := h.same (fun _ _ r => r.same k) k
/-- the head of a claim's tuple -/
def Wish.head : Wish → Str
  | .wi _ _ => "within"
  | .rank _ _ _ => "rank"
  | .al one _ _ => if one = true then "one" else "all"
def Wish.len : Wish → Nat
  | .wi _ _ => 3
  | .rank _ _ _ => 4
  | .al _ _ _ => 3
/-- a claim as data -/
def Wish.dat : Wish → List PyData
  | .wi a b => [.str "within", .str a, .str b]
  | .rank t xs n => [.str "rank", .str t, .tuple (xs.map PyData.int), .int n]
  | .al one t xs => [.str (if one = true then "one" else "all"), .str t, .tuple (xs.map PyData.int)]
/-- the tuple of a claim -/
theorem WishAt.tup {K : Frag} {H : Hp} {p : Addr} : ∀ {w : Wish}, WishAt H p w → ∃ rest : List V, H p = some (.tup (.str w.head :: .str w.title :: rest)) ∧ rest.length + 2 = w.len ∧ DpAll K H (.str w.head :: .str w.title :: rest) w.dat
  | .wi a b, h => ⟨[.str b], h, rfl, .cons (.str _) (.cons (.str a) (.cons (.str b) .nil))⟩
  | .rank t xs n, h => by
    obtain ⟨s, e, ts⟩ := h
    exact ⟨[.ref s, .int n], e, rfl, .cons (.str _) (.cons (.str t) (.cons (dp_tupN ts) (.cons (.int n) .nil)))⟩
  | .al one t xs, h => by
    obtain ⟨s, e, ts⟩ := h
    exact ⟨[.ref s], e, rfl, .cons (.str _) (.cons (.str t) (.cons (dp_tupN ts) .nil))⟩
theorem Wish.sizes : ∀ w : Wish, (w.head, (w.len : Int)) ∈ [(("all" : Str), (3 : Int)), ("one", 3), ("rank", 4), ("within", 3)]
  | .wi _ _ => .tail _ (.tail _ (.tail _ (.head _)))
  | .rank _ _ _ => .tail _ (.tail _ (.head _))
  | .al true _ _ => .tail _ (.head _)
  | .al false _ _ => .head _
theorem Wish.plain : ∀ w : Wish, PyData.plainAll w.dat = true
  | .wi _ _ => rfl
  | .rank _ xs _ => by simp [Wish.dat, PyData.plainAll, PyData.plain, pl_ints]
  | .al _ _ xs => by simp [Wish.dat, PyData.plainAll, PyData.plain, pl_ints]
theorem Wish.depth : ∀ w : Wish, PyData.depthAll w.dat ≤ 1
  | .wi _ _ => by simp [Wish.dat, PyData.depthAll, PyData.depth]
  | .rank _ xs _ => by simp [Wish.dat, PyData.depthAll, PyData.depth, dep_ints]
  | .al _ _ xs => by simp [Wish.dat, PyData.depthAll, PyData.depth, dep_ints]
section
variable {P : Program} {w : World} {K : Frag} {mg : Str → Option Value} {base : Heap} {H : Hp} {Q : VK} {σ : L2.St}
/-- the claim is not the empty tuple -/
theorem w_eqW {p q : Addr} {c : Wish} (e : WishAt H p c) (e2 : H q = some (.tup [])) (h : Q (.bl false) H) : rEqU K (.ref p) (.ref q) H Q := by
  obtain ⟨rest, e1, _, dp⟩ := e.tup (K := K)
  refine w_eqD (.tup (SqT.of e1) dp) (dp_nilT e2) c.plain rfl (Nat.le_trans (Nat.min_le_right _ _) (by decide)) ?_
  have : PyData.eqv (.tuple c.dat) (.tuple []) = false := by cases c <;> simp [Wish.dat, PyData.eqv, PyData.eqvAll]
  rw [this]; exact h
theorem WishAt.new {H : Hp} {p q : Addr} {o : HO} (n : H q = none) {c : Wish} (h : WishAt H p c) : WishAt (upd H q o) p c := h.same (same_new n (Same.refl _))
theorem head_within (c : Wish) : decide (c.head = ("within" : Str)) = true → ∃ a b, c = .wi a b := fun h => by
  cases c with
  | wi a b => exact ⟨a, b, rfl⟩
  | rank t xs n => exact absurd (of_decide_eq_true h) (show ¬("rank" : Str) = "within" by decide)
  | al one t xs => cases one with
    | true => exact absurd (of_decide_eq_true h) (show ¬("one" : Str) = "within" by decide)
    | false => exact absurd (of_decide_eq_true h) (show ¬("all" : Str) = "within" by decide)
def spIsClaim : Sp := fun vs H Q _ => ∃ p w, vs = [.ref p] ∧ WishAt H p w ∧ WishOk w ∧ ∀ H', Same H H' → Q (.bl true) H'
abbrev s_is_claim : Stmt := top 72
theorem sc_is_claim : FnScope ["value"] ["value"] (defScope s_is_claim) := ⟨rfl, rfl, rfl, by decide +kernel, rfl, by decide +kernel, by decide +kernel⟩
theorem ok_is_claim (T : Txt w K mg) : Own P w K mg base "is_claim" 6 ["value"] spIsClaim := by
  refine own_of T.f_is_claim sc_is_claim (fun _ _ _ _ _ _ us hl => match us, hl with | [_], _ => rfl) (fun vs H Q E h => ?_) (fun f cdv A outer s H vs Q E hr h => ?_)
  · obtain ⟨p, w, rfl, _⟩ := h; rfl
  · have sc := sc_is_claim
    have hu64 := hr.units
    obtain ⟨p, wi, rfl, wa, wo, k⟩ := h
    obtain ⟨rest, e, len, dp⟩ := wa.tup (K := K)
    refine ⟨_, (pss_cons (ps_if (PW.pt (pw_or (pt_not (pt_val (pe_callB call_isi (by rfl) T.b_isinstance (by decide +kernel) (pa_cons (pv 0) (pa_cons (pe_bltn (v := .ty "tuple") (u := .type "tuple") rfl T.b_tuple (by decide +kernel) rfl) pa_nil))))) (pw_or (pt_cmpR (op_eqU (by exact hu64)) (pv 0) (pe_tup pa_nil) (nomark _)) (pw_or1 (pt_not (pt_val (pe_callB call_isi (by rfl) T.b_isinstance (by decide +kernel) (pa_cons (pe_ix ix_seq (pv 0) pe_int (fun _ _ => rfl)) (pa_cons (pe_bltn (v := .ty "str") (u := .type "str") rfl T.b_str (by decide +kernel) rfl) pa_nil))))))))) (pss_one (ps_ret pe_bl)) pss_nil)
      (pss_cons (ps_if (pt_cmpR (op_neU (by exact hu64)) (pe_kget2 (pe_gref T.g_SIZES) T.l_SIZES (pe_ix ix_seq (pv 0) pe_int (fun _ _ => rfl)) pe_int ⟨rfl, rfl, rfl, rfl⟩) (pe_callB (call_lenU) (by rfl) T.b_len (by decide +kernel) (pa_cons (pv 0) pa_nil)) (nomark _)) (pss_one (ps_ret pe_bl)) pss_nil)
      (pss_cons (ps_if (pt_cmpR (op_eqU (by exact hu64)) (pe_ix ix_seq (pv 0) pe_int (fun _ _ => rfl)) pe_str (nomark _)) (pss_one (ps_ret pe_bl)) pss_nil)
      (pss_one (ps_ret (pe_and (pe_own (ok_are_places T) hr passN (pa_cons (pe_ix ix_seq (pv 0) pe_int (fun _ _ => rfl)) pa_nil)) (pe_one (pe_or (pe_cmpR (op_neU (by exact hu64)) (pe_ix ix_seq (pv 0) pe_int (fun _ _ => rfl)) pe_str (nomark _)) (pe_one (pe_own (ok_is_between T) hr passN (pa_cons (pe_ix ix_seq (pv 0) pe_int (fun _ _ => rfl)) (pa_cons pe_int (pa_cons (pe_gint T.i_MOST_PLACES) pa_nil))))))))))))), ?_⟩
    walk_at "w"
    refine w_ifg false (fun q hq => ?_) (fun c => nomatch c) fun _ H1 s1 => ?_
    · walk_at "w"
      refine w_isiT e ?_
      walk_at "w"
      refine ⟨by walk_at "sz", fun u hu => ?_⟩
      refine w_eqW (wa.new hu) upd_same ?_
      walk_at "w"
      refine w_ixTa (at_new hu e) atI_0 ?_
      walk_at "w"
      refine w_isiS ?_
      walk_at "w"
      exact hq _ (same_new hu (Same.refl _))
    · have e1 := s1 _ _ e
      walk_at "w"
      refine w_ifb false (fun q hq => ?_) (fun c => nomatch c) fun _ => ?_
      · walk_at "w"
        refine w_ixTa e1 atI_0 ?_
        walk_at "w"
        refine ⟨wi.head, _, rfl, T.z_SIZES _ _ wi.sizes, ?_⟩
        walk_at "w"
        refine w_lenT e1 ?_
        walk_at "w"
        rw [show ((V.str wi.head :: V.str wi.title :: rest).length : Int) = (wi.len : Int) by simp only [List.length_cons]; omega]
        refine w_neI ?_
        rw [decide_eq_true rfl]
        walk_at "w"
        exact hq
      · walk_at "w"
        refine w_ifb (decide (wi.head = ("within" : Str))) (fun q hq => ?_) (fun c => ?_) fun c => ?_
        · walk_at "w"
          refine w_ixTa e1 atI_0 ?_
          walk_at "w"
          exact hq
        · walk_at "w"
          exact k _ s1
        · cases wi with
          | wi a b => exact absurd c (show ¬decide (("within" : Str) = "within") = false by decide)
          | rank t xs n =>
            obtain ⟨sp, ea, ts⟩ := wa.same s1
            walk_at "w"
            refine w_ixTa ea rfl ?_
            walk_at "w"
            refine ⟨sp, xs, rfl, ts, wo.1, fun H2 s2 => ?_⟩
            walk_at "w"
            refine w_ixTa (s2 _ _ ea) rfl ?_
            walk_at "w"
            rw [show decide ((("rank" : Str)) = Str.ofString "rank") = true by decide]
            walk_at "w"
            refine w_ixTa (s2 _ _ ea) rfl ?_
            walk_at "w"
            refine ⟨n, 0, 12, rfl, ?_⟩
            rw [decide_eq_true wo.2.1, decide_eq_true wo.2.2]
            exact k _ (s1.trans s2)
          | al one t xs =>
            obtain ⟨sp, ea, ts⟩ := wa.same s1
            walk_at "w"
            refine w_ixTa ea rfl ?_
            walk_at "w"
            refine ⟨sp, xs, rfl, ts, wo, fun H2 s2 => ?_⟩
            walk_at "w"
            refine w_ixTa (s2 _ _ ea) rfl ?_
            walk_at "w"
            have hd : decide ((if one = true then "one" else "all" : Str) = ("rank" : Str)) = false := by cases one <;> decide
            rw [hd]
            walk_at "w"
            exact k _ (s1.trans s2)
/-- the names in a claim -/
def spNamesIn : Sp := fun vs H Q _ => ∃ p c, vs = [.ref p] ∧ WishAt H p c ∧ ∀ q H', Same H H' → H' q = some (.tup (c.titles.map V.str)) → Q (.ref q) H'
abbrev s_names_in : Stmt := top 73
theorem sc_names_in : FnScope ["claim"] ["claim"] (defScope s_names_in) := ⟨rfl, rfl, rfl, by decide +kernel, rfl, by decide +kernel, by decide +kernel⟩
theorem ok_names_in (T : Txt w K mg) : Own P w K mg base "names_in" 1 ["claim"] spNamesIn := by
  refine own_of T.f_names_in sc_names_in (fun _ _ _ _ _ _ us hl => match us, hl with | [_], _ => rfl) (fun vs H Q E h => ?_) (fun f cdv A outer s H vs Q E hr h => ?_)
  · obtain ⟨p, w, rfl, _⟩ := h; rfl
  · have sc := sc_names_in
    have hu64 := hr.units
    obtain ⟨p, c, rfl, wa, k⟩ := h
    refine ⟨_, (pss_one (ps_ret (pe_ifExp (pt_cmpR (op_eqU (by exact hu64)) (pe_ix ix_seq (pv 0) pe_int (fun _ _ => rfl)) pe_str (nomark _)) (pe_slice sl_U (pv 0) (po_some pe_int) po_none) (pe_slice sl_U (pv 0) (po_some pe_int) (po_some pe_int))))), ?_⟩
    walk_at "w"
    refine w_ifE ?_
    cases c with
    | wi a b =>
      have e : H p = some (.tup [.str "within", .str a, .str b]) := wa
      walk_at "w"
      refine w_ixTa e rfl ?_
      walk_at "w"
      rw [show decide ((("within" : Str)) = Str.ofString "within") = true by decide]
      walk_at "w"
      refine w_osL ?_
      walk_at "w"
      exact w_slT e fun q H' s eq => k q H' s eq
    | rank t xs n =>
      obtain ⟨sp, e, ts⟩ := wa
      walk_at "w"
      refine w_ixTa e rfl ?_
      walk_at "w"
      rw [show decide ((("rank" : Str)) = Str.ofString "within") = false by decide]
      walk_at "w"
      refine w_osL ?_
      walk_at "w"
      refine w_osL ?_
      exact w_slT e fun q H' s eq => k q H' s eq
    | al one t xs =>
      obtain ⟨sp, e, ts⟩ := wa
      walk_at "w"
      refine w_ixTa e rfl ?_
      walk_at "w"
      have hd : decide ((if one = true then "one" else "all" : Str) = ("within" : Str)) = false := by cases one <;> decide
      rw [hd]
      walk_at "w"
      refine w_osL ?_
      walk_at "w"
      refine w_osL ?_
      exact w_slT e fun q H' s eq => k q H' s eq
def spKept (K : Frag) : Sp := fun vs H Q _ => ∃ p s c sh, vs = [.ref p, .ref s] ∧ WishAt H p c ∧ ShAt (FrP K) H s sh ∧ WishOk c ∧ Has sh c ∧ ShOk sh ∧ ∀ H', Same H H' → Q (.bl (holds sh c)) H'
abbrev s_is_kept : Stmt := top 74
theorem sc_is_kept : FnScope ["claim", "frames", "many", "frame", "places"] ["claim", "frames"] (defScope s_is_kept) := ⟨rfl, rfl, rfl, by decide +kernel, rfl, by decide +kernel, by decide +kernel⟩
theorem ok_is_kept (T : Txt w K mg) : Own P w K mg base "is_kept" 8 ["claim", "frames"] (spKept K) := by
  refine own_of T.f_is_kept sc_is_kept (fun _ _ _ _ _ _ us hl => match us, hl with | [_, _], _ => rfl) (fun vs H Q E h => ?_) (fun f cdv A outer s H vs Q E hr h => ?_)
  · obtain ⟨p, s, c, sh, rfl, _⟩ := h; rfl
  · have sc := sc_is_kept
    have hu64 := hr.units
    have hu1 := units1 hr
    obtain ⟨p, s, c, sh, rfl, wa, sa, wo, has, so, k⟩ := h
    refine ⟨_, (pss_cons (ps_if (pt_cmpR (op_eqU (by exact hu64)) (pe_ix ix_seq (pv 0) pe_int (fun _ _ => rfl)) pe_str (nomark _)) (pss_one (ps_ret (pe_own (ok_within T) hr passN (pa_cons (pe_dget (by exact hu1) (pv 1) (pe_ix ix_seq (pv 0) pe_int (fun _ _ => rfl)) (fun _ _ => rfl)) (pa_cons (pe_dget (by exact hu1) (pv 1) (pe_ix ix_seq (pv 0) pe_int (fun _ _ => rfl)) (fun _ _ => rfl)) pa_nil))))) pss_nil)
      (pss_cons (ps_par (i := 3) (j := 4) (by rfl) sc.nd rfl rfl (by decide) rfl rfl (pa_cons (pe_dget (by exact hu1) (pv 1) (pe_ix ix_seq (pv 0) pe_int (fun _ _ => rfl)) (fun _ _ => rfl)) (pa_cons (pe_ix ix_seq (pv 0) pe_int (fun _ _ => rfl)) pa_nil)) (by rfl))
      (pss_cons (ps_set (i := 2) sc.nd rfl (Or.inl rfl) (pe_own (ok_rank T) hr passN (pa_cons (pv 3) (pa_cons (pv 4) pa_nil))))
      (pss_cons (ps_if (pt_cmpR (op_eqU (by exact hu64)) (pe_ix ix_seq (pv 0) pe_int (fun _ _ => rfl)) pe_str (nomark _)) (pss_one (ps_ret (pe_cmpR op_ge (pv 2) (pe_ix ix_seq (pv 0) pe_int (fun _ _ => rfl)) (nomark _)))) pss_nil)
      (pss_one (ps_ret (pe_and (pe_cmpR (op_eqU (by exact hu64)) (pv 2) (pe_callB (call_lenU) (by rfl) T.b_len (by decide +kernel) (pa_cons (pv 4) pa_nil)) (nomark _)) (pe_one (pe_or (pe_cmpR (op_eqU (by exact hu64)) (pe_ix ix_seq (pv 0) pe_int (fun _ _ => rfl)) pe_str (nomark _)) (pe_one (pe_cmpR (op_eqU (by exact hu64)) (pv 2) (pe_ownP (ok_Frame_hills T) T.k_Frame hr passN (pv 3)) (nomark _)))))))))))), ?_⟩
    walk_at "w"
    cases c with
    | wi a b =>
      have e : H p = some (.tup [.str "within", .str a, .str b]) := wa
      refine w_ifb true (fun q hq => ?_) (fun _ => ?_) fun c => nomatch c
      · walk_at "w"
        refine w_ixTa e rfl ?_
        walk_at "w"
        rw [show decide ((("within" : Str)) = Str.ofString "within") = true by decide]
        exact hq
      · have ga := has.get (t := a) (by simp [Wish.titles])
        have gb := has.get (t := b) (by simp [Wish.titles])
        obtain ⟨x, dx, fx⟩ := sa.get ga
        obtain ⟨y, dy, fy⟩ := sa.get gb
        walk_at "w"
        refine w_ixTa e rfl ?_
        refine ⟨s, _, rfl, dx, ?_⟩
        walk_at "w"
        refine w_ixTa e rfl ?_
        refine ⟨s, _, rfl, dy, ?_⟩
        walk_at "w"
        refine ⟨x, _, _, y, _, _, rfl, fx, fy, ?_, k⟩
        have := (so a _ ga).l1; have := (so a _ ga).d4; omega
    | rank t xs n =>
      obtain ⟨sp, e, ts⟩ := wa
      have gt := has.get (t := t) (by simp [Wish.titles])
      obtain ⟨x, dx, fx⟩ := sa.get gt
      refine w_ifb false (fun q hq => ?_) (fun c => nomatch c) (fun _ => ?_)
      · walk_at "w"
        refine w_ixTa e rfl ?_
        walk_at "w"
        rw [show decide ((("rank" : Str)) = Str.ofString "within") = false by decide]
        exact hq
      · walk_at "w"
        refine w_ixTa e rfl ?_
        refine ⟨s, _, rfl, dx, ?_⟩
        walk_at "w"
        refine w_ixTa e rfl ?_
        walk_at "w"
        refine ⟨x, sp, _, _, xs, rfl, fx, ts, so t _ gt, wo.1, fun H1 s1 => ?_⟩
        walk_at "w"
        refine w_ifb true (fun q hq => ?_) (fun _ => ?_) (fun c => nomatch c)
        · walk_at "w"
          refine w_ixTa (s1 _ _ e) rfl ?_
          walk_at "w"
          rw [show decide ((("rank" : Str)) = Str.ofString "rank") = true by decide]
          exact hq
        · walk_at "w"
          refine w_ixTa (s1 _ _ e) rfl ?_
          walk_at "w"
          exact k _ s1
    | al one t xs =>
      obtain ⟨sp, e, ts⟩ := wa
      have gt := has.get (t := t) (by simp [Wish.titles])
      obtain ⟨x, dx, fx⟩ := sa.get gt
      have hd : ∀ z : Str, z = "within" ∨ z = "rank" → decide ((if one = true then "one" else "all" : Str) = z) = false := fun z hz => by rcases hz with rfl | rfl <;> cases one <;> decide
      refine w_ifb false (fun q hq => ?_) (fun c => nomatch c) (fun _ => ?_)
      · walk_at "w"
        refine w_ixTa e rfl ?_
        walk_at "w"
        rw [hd _ (.inl rfl)]
        exact hq
      · walk_at "w"
        refine w_ixTa e rfl ?_
        refine ⟨s, _, rfl, dx, ?_⟩
        walk_at "w"
        refine w_ixTa e rfl ?_
        walk_at "w"
        refine ⟨x, sp, _, _, xs, rfl, fx, ts, so t _ gt, wo, fun H1 s1 => ?_⟩
        walk_at "w"
        refine w_ifb false (fun q hq => ?_) (fun c => nomatch c) (fun _ => ?_)
        · walk_at "w"
          refine w_ixTa (s1 _ _ e) rfl ?_
          walk_at "w"
          rw [hd _ (.inr rfl)]
          exact hq
        · walk_at "w"
          refine w_lenN (ts.same s1) ?_
          rw [List.length_map]
          walk_at "w"
          refine w_iteAV (k _ s1) fun _ k2 => ?_
          walk_at "w"
          refine w_ixTa (s1 _ _ e) rfl ?_
          walk_at "w"
          have ho : decide ((if one = true then "one" else "all" : Str) = ("all" : Str)) = !one := by cases one <;> decide
          rw [ho]
          refine w_iteOV k2 fun _ k3 => ?_
          walk_at "w"
          have f1 : FrameAt K H1 x _ _ := fx.same s1
          obtain ⟨dx2, p2, q2, f2, _⟩ := id f1
          refine w_propL f2 ⟨x, _, _, rfl, f1, ?_⟩
          walk_at "w"
          exact k3
def spShown (K : Frag) : Sp := fun vs H Q _ => ∃ p s c sh, vs = [.ref p, .ref s] ∧ WishAt H p c ∧ ShAt (FrP K) H s sh ∧ WishOk c ∧ Has sh c ∧ ShOk sh ∧ ∀ H', Same H H' → Q (shownV sh c) H'
abbrev s_shown_by : Stmt := top 75
theorem sc_shown_by : FnScope ["claim", "frames"] ["claim", "frames"] (defScope s_shown_by) := ⟨rfl, rfl, rfl, by decide +kernel, rfl, by decide +kernel, by decide +kernel⟩
theorem ok_shown_by (T : Txt w K mg) : Own P w K mg base "shown_by" 8 ["claim", "frames"] (spShown K) := by
  refine own_of T.f_shown_by sc_shown_by (fun _ _ _ _ _ _ us hl => match us, hl with | [_, _], _ => rfl) (fun vs H Q E h => ?_) (fun f cdv A outer s H vs Q E hr h => ?_)
  · obtain ⟨p, s, c, sh, rfl, _⟩ := h; rfl
  · have sc := sc_shown_by
    have hu64 := hr.units
    have hu1 := units1 hr
    obtain ⟨p, s, c, sh, rfl, wa, sa, wo, has, so, k⟩ := h
    refine ⟨_, (pss_one (ps_ret (pe_ifExp (pt_cmpR (op_eqU (by exact hu64)) (pe_ix ix_seq (pv 0) pe_int (fun _ _ => rfl)) pe_str (nomark _)) pe_non (pe_own (ok_rank T) hr passN (pa_cons (pe_dget (by exact hu1) (pv 1) (pe_ix ix_seq (pv 0) pe_int (fun _ _ => rfl)) (fun _ _ => rfl)) (pa_cons (pe_ix ix_seq (pv 0) pe_int (fun _ _ => rfl)) pa_nil)))))), ?_⟩
    walk_at "w"
    refine w_ifE ?_
    cases c with
    | wi a b =>
      have e : H p = some (.tup [.str "within", .str a, .str b]) := wa
      walk_at "w"
      refine w_ixTa e rfl ?_
      walk_at "w"
      rw [show decide ((("within" : Str)) = Str.ofString "within") = true by decide]
      walk_at "w"
      exact k H (Same.refl _)
    | rank t xs n =>
      obtain ⟨sp, e, ts⟩ := wa
      have gt := has.get (t := t) (by simp [Wish.titles])
      obtain ⟨x, dx, fx⟩ := sa.get gt
      walk_at "w"
      refine w_ixTa e rfl ?_
      walk_at "w"
      rw [show decide ((("rank" : Str)) = Str.ofString "within") = false by decide]
      walk_at "w"
      refine w_ixTa e rfl ?_
      refine ⟨s, _, rfl, dx, ?_⟩
      walk_at "w"
      refine w_ixTa e rfl ?_
      walk_at "w"
      exact ⟨x, sp, _, _, xs, rfl, fx, ts, so t _ gt, wo.1, k⟩
    | al one t xs =>
      obtain ⟨sp, e, ts⟩ := wa
      have gt := has.get (t := t) (by simp [Wish.titles])
      obtain ⟨x, dx, fx⟩ := sa.get gt
      have hd : decide ((if one = true then "one" else "all" : Str) = ("within" : Str)) = false := by cases one <;> decide
      walk_at "w"
      refine w_ixTa e rfl ?_
      walk_at "w"
      rw [hd]
      walk_at "w"
      refine w_ixTa e rfl ?_
      refine ⟨s, _, rfl, dx, ?_⟩
      walk_at "w"
      refine w_ixTa e rfl ?_
      walk_at "w"
      exact ⟨x, sp, _, _, xs, rfl, fx, ts, so t _ gt, wo, k⟩
end
end Bt

set_option Elab.async false
set_option linter.all false
set_option maxRecDepth 100000
set_option maxHeartbeats 4000000
/-! errors, pages -/
namespace Bt
open PySem L2
set_option pp.maxSteps 900
local macro_rules | `(tactic| walk_at "lk") => `(tactic| first
  | assumption
  | exact upd_same
  | (refine at_new ?_ ?_; · assumption
     walk_at "lk")
  | (refine at_mut ?_ ?_; · assumption
     walk_at "lk")
  | (refine at_same ?_ ?_; · assumption
     walk_at "lk"))
local macro_rules | `(tactic| walk_at "w1") => `(tactic| with_reducible first
  | refine w_seq ?_ | refine w_asg ?_ | refine w_name ?_ | refine w_ret ?_ | refine w_retN ?_ | refine w_drop ?_ | refine w_next ?_
  | refine w_op ?_ | refine w_var rfl ?_ | refine w_c ?_ | refine w_un ?_ | refine w_test ?_ | refine w_tB ?_ | refine w_bl ?_ | refine w_chain ?_
  | refine w_and ?_ | refine w_or ?_ | refine w_not ?_ | refine w_andV ?_ | refine w_orV ?_ | refine w_notV ?_ | refine w_cons ?_ | refine w_nil ?_
  | refine w_par ?_ | refine w_parL ?_ | refine w_call ?_ | refine w_CB ?_ | refine w_prop ?_ | refine w_fld ?_ | refine w_meth ?_ | refine w_make ?_ | refine w_tup ?_ | refine w_lst ?_
  | refine w_I0 ?_ | refine w_U ?_ | refine w_addI ?_ | refine w_eqI ?_ | refine w_eqS ?_ | refine w_neI ?_ | refine w_neS ?_ | refine w_isN ?_ | refine w_notN ?_
  | refine w_tt ?_ | refine w_ff ?_ | refine w_nt ?_ | refine w_nf ?_ | refine w_ntt ?_ | refine w_att ?_ | refine w_js ?_ | refine w_jsN ?_ | refine w_fmtS ?_ | refine w_m1 ?_ | refine w_m1L ?_ | refine w_sfld ?_ | refine w_bm ?_ | refine w_dc ?_ | refine w_iIt ?_ | refine w_star ?_ | refine w_mkO ?_ | refine w_raise ?_ | refine w_osg ?_ | refine w_gfld ?_ | refine w_kget ?_ | refine w_dget ?_ | refine w_din ?_ | refine w_dnotin ?_ | refine w_slice ?_ | refine w_on ?_ | refine w_os ?_ | refine w_sub ?_ | refine w_bmN ?_ | refine w_intI ?_ | refine w_intB ?_ | refine w_strS ?_
  | refine w_lc ?_ | refine w_for ?_ | refine w_iL ?_ | refine w_iT ?_ | refine w_iS ?_ | refine w_iK ?_ | refine w_iR1 ?_ | refine w_iR3 ?_ | refine w_iET ?_ | refine w_srcS ?_)
local macro_rules | `(tactic| walk_at "w") => `(tactic| (repeat walk_at "w1"); try (with_reducible refine w_ifN ?_))
local macro_rules | `(tactic| walk_at "ws") => `(tactic| with_reducible first | refine w_seq ?_ | refine w_next ?_)
local macro_rules | `(tactic| walk_at "w2") => `(tactic| repeat with_reducible first | refine w_seq ?_ | refine w_asg ?_ | refine w_name ?_ | refine w_next ?_)
local macro_rules | `(tactic| walk_at "sz") => `(tactic| (rw [sizeLine_eq]; exact Nat.le_of_ble_eq_true rfl))
section
variable {P : Program} {w : World} {K : Frag} {mg : Str → Option Value} {base : Heap} {H : Hp} {Q : VK} {σ : L2.St}
abbrev s_InvalidIndex_init : Stmt := inClass (top 6) 0
theorem sc_InvalidIndex_init : FnScope ["self", "given"] ["self", "given"] (defScope s_InvalidIndex_init) := ⟨rfl, rfl, rfl, by decide +kernel, rfl, by decide +kernel, by decide +kernel⟩
theorem ok_InvalidIndex_init (T : Txt w K mg) : OwnX P w K mg base "InvalidIndex" 1 ["self", "given"] (spEx1 K "InvalidIndex" "given") := by
  have ex := T.x_InvalidIndex
  refine own_ofX T.x_InvalidIndex sc_InvalidIndex_init (fun _ _ _ _ _ _ us hl => match us, hl with | [_, _], _ => rfl) (fun vs H Q E h => ?_) (fun f cdv A outer s H vs Q E hr h => ?_)
  · obtain ⟨a, y, rfl, _⟩ := h; rfl
  · have sc := sc_InvalidIndex_init
    obtain ⟨a, y, rfl, e, k⟩ := h
    obtain ⟨_, _, _, g, _, _, _, no⟩ := ex
    refine ⟨_, (pss_one (ps_osg (pv 0) (pv 1))), ?_⟩
    walk_at "w"
    refine ⟨a, _, rfl, g, no _ (by simp), .inl ⟨e, k⟩⟩
abbrev s_UnknownName_init : Stmt := inClass (top 16) 0
theorem sc_UnknownName_init : FnScope ["self", "given"] ["self", "given"] (defScope s_UnknownName_init) := ⟨rfl, rfl, rfl, by decide +kernel, rfl, by decide +kernel, by decide +kernel⟩
theorem ok_UnknownName_init (T : Txt w K mg) : OwnX P w K mg base "UnknownName" 1 ["self", "given"] (spEx1 K "UnknownName" "given") := by
  have ex := T.x_UnknownName
  refine own_ofX T.x_UnknownName sc_UnknownName_init (fun _ _ _ _ _ _ us hl => match us, hl with | [_, _], _ => rfl) (fun vs H Q E h => ?_) (fun f cdv A outer s H vs Q E hr h => ?_)
  · obtain ⟨a, y, rfl, _⟩ := h; rfl
  · have sc := sc_UnknownName_init
    obtain ⟨a, y, rfl, e, k⟩ := h
    obtain ⟨_, _, _, g, _, _, _, no⟩ := ex
    refine ⟨_, (pss_one (ps_osg (pv 0) (pv 1))), ?_⟩
    walk_at "w"
    refine ⟨a, _, rfl, g, no _ (by simp), .inl ⟨e, k⟩⟩
abbrev s_InUse_init : Stmt := inClass (top 17) 0
theorem sc_InUse_init : FnScope ["self", "index"] ["self", "index"] (defScope s_InUse_init) := ⟨rfl, rfl, rfl, by decide +kernel, rfl, by decide +kernel, by decide +kernel⟩
theorem ok_InUse_init (T : Txt w K mg) : OwnX P w K mg base "InUse" 1 ["self", "index"] (spEx1 K "InUse" "index") := by
  have ex := T.x_InUse
  refine own_ofX T.x_InUse sc_InUse_init (fun _ _ _ _ _ _ us hl => match us, hl with | [_, _], _ => rfl) (fun vs H Q E h => ?_) (fun f cdv A outer s H vs Q E hr h => ?_)
  · obtain ⟨a, y, rfl, _⟩ := h; rfl
  · have sc := sc_InUse_init
    obtain ⟨a, y, rfl, e, k⟩ := h
    obtain ⟨_, _, _, g, _, _, _, no⟩ := ex
    refine ⟨_, (pss_one (ps_osg (pv 0) (pv 1))), ?_⟩
    walk_at "w"
    refine ⟨a, _, rfl, g, no _ (by simp), .inl ⟨e, k⟩⟩
abbrev s_Broken_init : Stmt := inClass (top 20) 0
theorem sc_Broken_init : FnScope ["self", "index", "shown"] ["self", "index", "shown"] (defScope s_Broken_init) := ⟨rfl, rfl, rfl, by decide +kernel, rfl, by decide +kernel, by decide +kernel⟩
theorem ok_Broken_init (T : Txt w K mg) : OwnX P w K mg base "Broken" 1 ["self", "index", "shown"] (spEx2 K "Broken" "index" "shown") := by
  have ex := T.x_Broken
  refine own_ofX T.x_Broken sc_Broken_init (fun _ _ _ _ _ _ us hl => match us, hl with | [_, _, _], _ => rfl) (fun vs H Q E h => ?_) (fun f cdv A outer s H vs Q E hr h => ?_)
  · obtain ⟨a, y, z, rfl, _⟩ := h; rfl
  · have sc := sc_Broken_init
    obtain ⟨a, y, z, rfl, e, k⟩ := h
    obtain ⟨_, _, _, g, _, _, _, no⟩ := ex
    refine ⟨_, (pss_cons (ps_osg (pv 0) (pv 1))
      (pss_one (ps_osg (pv 0) (pv 2)))), ?_⟩
    walk_at "w"
    refine ⟨a, _, rfl, g, no _ (by simp), .inl ⟨e, fun dx hd hn => ?_⟩⟩
    walk_at "w"
    exact ⟨a, _, rfl, g, no _ (by simp), .inr ⟨dx, _, upd_same, by rw [upd_ne hn, upd_same], Nat.le_of_ble_eq_true rfl, k dx hd hn⟩⟩
end
end Bt

set_option Elab.async false
set_option linter.all false
set_option maxRecDepth 100000
set_option maxHeartbeats 4000000
/-! pages, what is kept -/
namespace Bt
open PySem L2
set_option pp.maxSteps 900
local macro_rules | `(tactic| walk_at "lk") => `(tactic| first
  | assumption
  | exact upd_same
  | (refine at_new ?_ ?_; · assumption
     walk_at "lk")
  | (refine at_mut ?_ ?_; · assumption
     walk_at "lk")
  | (refine at_same ?_ ?_; · assumption
     walk_at "lk"))
local macro_rules | `(tactic| walk_at "w1") => `(tactic| with_reducible first
  | refine w_seq ?_ | refine w_asg ?_ | refine w_name ?_ | refine w_ret ?_ | refine w_retN ?_ | refine w_drop ?_ | refine w_next ?_
  | refine w_op ?_ | refine w_var rfl ?_ | refine w_c ?_ | refine w_un ?_ | refine w_test ?_ | refine w_tB ?_ | refine w_bl ?_ | refine w_chain ?_
  | refine w_and ?_ | refine w_or ?_ | refine w_not ?_ | refine w_andV ?_ | refine w_orV ?_ | refine w_notV ?_ | refine w_cons ?_ | refine w_nil ?_
  | refine w_par ?_ | refine w_parL ?_ | refine w_call ?_ | refine w_CB ?_ | refine w_prop ?_ | refine w_fld ?_ | refine w_meth ?_ | refine w_make ?_ | refine w_tup ?_ | refine w_lst ?_
  | refine w_I0 ?_ | refine w_U ?_ | refine w_addI ?_ | refine w_eqI ?_ | refine w_eqS ?_ | refine w_neI ?_ | refine w_neS ?_ | refine w_isN ?_ | refine w_notN ?_
  | refine w_tt ?_ | refine w_ff ?_ | refine w_nt ?_ | refine w_nf ?_ | refine w_ntt ?_ | refine w_att ?_ | refine w_js ?_ | refine w_jsN ?_ | refine w_fmtS ?_ | refine w_m1 ?_ | refine w_m1L ?_ | refine w_sfld ?_ | refine w_bm ?_ | refine w_dc ?_ | refine w_iIt ?_ | refine w_star ?_ | refine w_mkO ?_ | refine w_raise ?_ | refine w_osg ?_ | refine w_gfld ?_ | refine w_kget ?_ | refine w_dget ?_ | refine w_din ?_ | refine w_dnotin ?_ | refine w_slice ?_ | refine w_on ?_ | refine w_os ?_ | refine w_sub ?_ | refine w_bmN ?_ | refine w_intI ?_ | refine w_intB ?_ | refine w_strS ?_
  | refine w_lc ?_ | refine w_for ?_ | refine w_iL ?_ | refine w_iT ?_ | refine w_iS ?_ | refine w_iK ?_ | refine w_iR1 ?_ | refine w_iR3 ?_ | refine w_iET ?_ | refine w_srcS ?_)
local macro_rules | `(tactic| walk_at "w") => `(tactic| (repeat walk_at "w1"); try (with_reducible refine w_ifN ?_))
local macro_rules | `(tactic| walk_at "ws") => `(tactic| with_reducible first | refine w_seq ?_ | refine w_next ?_)
local macro_rules | `(tactic| walk_at "w2") => `(tactic| repeat with_reducible first | refine w_seq ?_ | refine w_asg ?_ | refine w_name ?_ | refine w_next ?_)
local macro_rules | `(tactic| walk_at "sz") => `(tactic| (rw [sizeLine_eq]; exact Nat.le_of_ble_eq_true rfl))
def WsAt (H : Hp) (p : Addr) (ws : List Wish) : Prop := ∃ as : List Addr, H p = some (.tup (as.map V.ref)) ∧ Paired (WishAt H) as ws
theorem WsAt.same {H H' : Hp} {p : Addr} {ws : List Wish} (s : Same H H') (h : WsAt H p ws) : WsAt H' p ws := by
  obtain ⟨as, e, ps⟩ := h
  exact ⟨as, s _ _ e, Paired.imp (fun _ _ r => r.same s) ps⟩
/-- the first claim that does not hold, what is shown of it -/
def bad (sh : Shelf) : Nat → List Wish → Option (Nat × V)
  | _, [] => none
  | i, c :: r => if holds sh c = true then bad sh (i + 1) r else some (i, shownV sh c)
def WsOk (sh : Shelf) (ws : List Wish) : Prop := ∀ c ∈ ws, WishOk c ∧ Has sh c
section
variable {P : Program} {w : World} {K : Frag} {mg : Str → Option Value} {base : Heap} {H : Hp} {Q : VK} {σ : L2.St}
def pgF (s wt av : V) (n : Int) : List (Str × V) := [("shelf", s), ("wanted", wt), ("ahead", av), ("depth", .int n)]
def spPgI (K : Frag) : Sp := fun vs H Q _ => ∃ a dx s wt av n, vs = [.ref a, s, wt, av] ∧ H a = some (.ins (He.ga K "Page") dx []) ∧ ((av = .non ∧ n = 0) ∨ ∃ q dq s2 w2 a2 m, av = .ref q ∧ H q = some (.ins (He.ga K "Page") dq (pgF s2 w2 a2 m)) ∧ n = m + 1) ∧
  ∀ H', Keep a H H' → H' a = some (.ins (He.ga K "Page") dx (pgF s wt av n)) → Q .non H'
abbrev s_Page_init : Stmt := inClass (top 77) 0
theorem sc_Page_init : FnScope ["self", "shelf", "wanted", "ahead"] ["self", "shelf", "wanted", "ahead"] (defScope s_Page_init) := ⟨rfl, rfl, rfl, by decide +kernel, rfl, by decide +kernel, by decide +kernel⟩
theorem ok_Page_init (T : Txt w K mg) : OwnC P w K mg base (He.ga K "Page") "Page" 1 ["self", "shelf", "wanted", "ahead"] (spPgI K) := by
  refine own_ofC T.n_Page sc_Page_init (fun _ _ _ _ _ _ us hl => match us, hl with | [_, _, _, _], _ => rfl) (fun vs H Q E h => ?_) (fun f cdv A outer s H vs Q E hr h => ?_)
  · obtain ⟨a, dx, s, wt, av, n, rfl, _⟩ := h; rfl
  · have sc := sc_Page_init
    have hu64 := hr.units
    obtain ⟨a, dx, sv, wt, av, n, rfl, e, hav, k⟩ := h
    refine ⟨_, (pss_cons (ps_asg (pe_tup (pa_cons (pv 1) (pa_cons (pv 2) (pa_cons (pv 3) pa_nil)))) (pg_tup rfl (pgs_cons (pg_fld (pv 0)) (pgs_cons (pg_fld (pv 0)) (pgs_cons (pg_fld (pv 0)) pgs_nil)))))
      (pss_one (ps_fld (pv 0) (pe_ifExp (pt_cmpR op_isN (pv 3) pe_non (nomark _)) pe_int (pe_op op_addU (pe_fld (pv 3) rfl) pe_int)) rfl))), ?_⟩
    walk_at "w"
    refine ⟨Nat.le_trans (Nat.le_of_ble_eq_true rfl) (show 100 ≤ sizeLine by rw [sizeLine_eq]; omega), fun p hp => ?_⟩
    refine w_unp3 upd_same ?_
    walk_at "w"
    refine w_sfldL (at_new hp e) T.k_Page T.a_Page_shelf (by decide) ?_
    walk_at "w"
    refine w_sfldL upd_same T.k_Page T.a_Page_wanted (Nat.le_of_ble_eq_true rfl) ?_
    walk_at "w"
    refine w_sfldL upd_same T.k_Page T.a_Page_ahead (Nat.le_of_ble_eq_true rfl) ?_
    walk_at "w"
    refine w_ifE ?_
    rcases hav with ⟨rfl, rfl⟩ | ⟨q, dq, s2, w2, a2, m, rfl, hq, rfl⟩
    · walk_at "w"
      refine ⟨rfl, ?_⟩
      rw [show decide (V.non = V.non) = true from decide_eq_true rfl]
      walk_at "w"
      refine w_sfldL upd_same T.k_Page T.a_Page_depth (Nat.le_of_ble_eq_true rfl) ?_
      walk_at "w"
      refine k _ (fun b o n h => ?_) upd_same
      repeat refine at_mut n ?_
      exact at_new hp h
    · walk_at "w"
      refine ⟨rfl, ?_⟩
      rw [show decide (V.ref q = V.non) = false from decide_eq_false (fun z => nomatch z)]
      walk_at "w"
      have hqa : q ≠ a := ne_of hq e (fun z => by cases z)
      refine w_fldL (at_mut hqa (at_mut hqa (at_mut hqa (at_new hp hq)))) T.k_Page T.a_Page_depth rfl ?_
      walk_at "w"
      refine w_sfldL upd_same T.k_Page T.a_Page_depth (Nat.le_of_ble_eq_true rfl) ?_
      walk_at "w"
      refine k _ (fun b o n h => ?_) upd_same
      repeat refine at_mut n ?_
      exact at_new hp h
def spCheck (K : Frag) : Sp := fun vs H Q E => ∃ wt s sh ws, vs = [.ref wt, .ref s] ∧ WsAt H wt ws ∧ ShAt (FrP K) H s sh ∧ WsOk sh ws ∧ ShOk sh ∧ (bad sh 0 ws = none → ∀ H', Same H H' → Q .non H') ∧
  ∀ i z, bad sh 0 ws = some (i, z) → ∀ H', Same H H' → XErr K "Broken" [("shown", z), ("index", .int (i : Nat))] H' E
abbrev s_check_kept : Stmt := top 78
theorem sc_check_kept : FnScope ["told", "frames", "index", "claim"] ["told", "frames"] (defScope s_check_kept) := ⟨rfl, rfl, rfl, by decide +kernel, rfl, by decide +kernel, by decide +kernel⟩
theorem ok_check_kept (T : Txt w K mg) : Own P w K mg base "check_kept" 9 ["told", "frames"] (spCheck K) := by
  refine own_of T.f_check_kept sc_check_kept (fun _ _ _ _ _ _ us hl => match us, hl with | [_, _], _ => rfl) (fun vs H Q E h => ?_) (fun f cdv A outer s H vs Q E hr h => ?_)
  · obtain ⟨wt, s, sh, ws, rfl, _⟩ := h; rfl
  · have sc := sc_check_kept
    have hu64 := hr.units
    obtain ⟨wt, sd, sh, ws, rfl, wa, sa, wo, so, k1, k2⟩ := h
    obtain ⟨as, e, ps⟩ := id wa
    refine ⟨_, (pss_one (ps_for (passes_of rfl) rfl (pi_enumT rfl T.b_enumerate (pa_cons (pv 0) pa_nil)) (pg_tup rfl (pgs_cons (pg_name (i := 2) sc.nd rfl (Or.inl rfl)) (pgs_cons (pg_name (i := 3) sc.nd rfl (Or.inl rfl)) pgs_nil))) (pss_one (ps_if (pt_not (pt_val (pe_own (ok_is_kept T) hr passN (pa_cons (pv 3) (pa_cons (pv 1) pa_nil))))) (pss_one (L2N.ps_raise rfl (L2N.takes_of rfl rfl rfl rfl) (pmk_ownX (ok_Broken_init T) hr (pa_cons (pv 2) (pa_cons (pe_own (ok_shown_by T) hr passN (pa_cons (pv 3) (pa_cons (pv 1) pa_nil))) pa_nil))))) pss_nil)))), ?_⟩
    walk_at "w"
    refine w_srcE e ?_
    refine forB_enumT (xs := as.map V.ref) (fun i σ H' => ∃ a b, σ = [some (.ref wt), some (.ref sd), a, b] ∧ Same H H' ∧ bad sh 0 ws = bad sh i (ws.drop i)) ⟨_, _, rfl, Same.refl _, rfl⟩ (fun i σ H' _ h => by obtain ⟨_, _, _, s, _⟩ := h; exact SqT.of (s _ _ e)) (fun i x σ H' U hx h hU => ?_) fun σ H' h => ?_
    · obtain ⟨a, b, rfl, s1, hb⟩ := h
      rw [List.getElem?_map] at hx
      obtain ⟨c, hc⟩ : ∃ c, ws[i]? = some c := by
        cases ha : as[i]? with
        | none => rw [ha] at hx; cases hx
        | some y => exact ⟨_, List.getElem?_eq_getElem (by have := (List.getElem?_eq_some_iff.mp ha).1; have := Paired.len ps; omega)⟩
      obtain ⟨y, hy, ry⟩ := Paired.at_ ps hc
      rw [hy] at hx
      cases hx
      have hd : ws.drop i = c :: ws.drop (i + 1) := by
        obtain ⟨hl, he⟩ := List.getElem?_eq_some_iff.mp hc
        rw [← he]; exact (List.drop_eq_getElem_cons hl)
      have s2 := same_new (o := .tup [.int (i : Nat), .ref y]) hU s1
      obtain ⟨ok1, ok2⟩ := wo c (List.mem_of_getElem? hc)
      rw [hd, bad] at hb
      refine w_unp2 upd_same ?_
      walk_at "w"
      refine w_ifg (!holds sh c) (fun q hq => ?_) (fun c1 H3 s3 => ?_) fun c1 H3 s3 => ?_
      · walk_at "w"
        refine ⟨y, sd, c, sh, rfl, ry.same s2, sa.sameF s2, ok1, ok2, so, fun H4 s4 => ?_⟩
        walk_at "w"
        exact hq _ s4
      · have s4 := s2.trans s3
        rw [if_neg (by simpa using c1)] at hb
        walk_at "w"
        refine ⟨y, sd, c, sh, rfl, ry.same s4, sa.sameF s4, ok1, ok2, so, fun H5 s5 => ?_⟩
        walk_at "w"
        exact w_mk2 (k2 _ _ hb H5 (s4.trans s5))
      · rw [if_pos (by simpa using c1)] at hb
        walk_at "w"
        exact ⟨_, _, rfl, s2.trans s3, hb⟩
    · obtain ⟨a, b, rfl, s1, hb⟩ := h
      walk_at "w"
      refine k1 ?_ _ s1
      rw [hb, List.length_map, List.drop_eq_nil_of_le (by rw [Paired.len ps]; exact Nat.le_refl _)]
      rfl
end
end Bt

set_option Elab.async false
set_option linter.all false
set_option maxRecDepth 100000
set_option maxHeartbeats 4000000
/-! what stays: all but desks and urns -/
namespace Bt
open PySem L2
/-- a thing that may be written -/
def Vary (o : HO) : Prop := (∃ C dx v, o = .ins C dx [("page", v)]) ∨ (∃ a b c : Int, o = .lst [.int a, .int b, .int c]) ∨ ∃ ps, o = .tbl ps
def Stay (H H' : Hp) : Prop := ∀ b o, ¬ Vary o → H b = some o → H' b = some o
section
variable {K : Frag} {H H' H2 : Hp} {a q p : Addr} {xs : List V}
theorem Same.stay (s : Same H H') : Stay H H' := fun b o _ e => s b o e
theorem Stay.refl : Stay H H := fun _ _ _ e => e
theorem Stay.trans (s : Stay H H') (t : Stay H' H2) : Stay H H2 := fun b o n e => t b o n (s b o n e)
theorem Keep.stay {o : HO} (v : Vary o) (e : H a = some o) (k : Keep a H H') : Stay H H' := fun b u n h => k b u (ne_of h e fun z => n (z ▸ v)) h
theorem nv_tup : ¬ Vary (.tup xs) := fun h => by rcases h with ⟨_, _, _, z⟩ | ⟨_, _, _, z⟩ | ⟨_, z⟩ <;> cases z
theorem nv_dK {kvs : List (Key × V)} : ¬ Vary (.dK kvs) := fun h => by rcases h with ⟨_, _, _, z⟩ | ⟨_, _, _, z⟩ | ⟨_, z⟩ <;> cases z
theorem nv_frz {o : Obj} {u : HO} : ¬ Vary (.frz o u) := fun h => by rcases h with ⟨_, _, _, z⟩ | ⟨_, _, _, z⟩ | ⟨_, z⟩ <;> cases z
theorem TN.stay (s : Stay H H') (h : TN H q xs) : TN H' q xs := by obtain ⟨o, h, d⟩ := h; exact ⟨o, s _ _ nv_frz h, d⟩
theorem nv_parts {C dx : Addr} {v : V} : ¬ Vary (.ins C dx [("parts", v)]) := fun h => by
  rcases h with ⟨_, _, _, z⟩ | ⟨_, _, _, z⟩ | ⟨_, z⟩
  rotate_right
  · cases z
  · injection z with _ _ z
    injection z with z _
    injection z with z _
    exact absurd z (by decide)
  · cases z
theorem nv_pg {C dx : Addr} {s w v : V} {n : Int} : ¬ Vary (.ins C dx (pgF s w v n)) := fun h => by
  rcases h with ⟨_, _, _, z⟩ | ⟨_, _, _, z⟩ | ⟨_, z⟩
  rotate_right
  · cases z
  · injection z with _ _ z
    injection z with _ z
    cases z
  · cases z
theorem FrameAt.stay {d : Int} {ks : List Int} (s : Stay H H') (h : FrameAt K H a d ks) : FrameAt K H' a d ks := by
  obtain ⟨dx, p, q, h1, h2, h3⟩ := h
  exact ⟨dx, p, q, s _ _ nv_parts h1, s _ _ nv_tup h2, h3.stay s⟩
theorem WishAt.stay (s : Stay H H') : ∀ {w : Wish}, WishAt H p w → WishAt H' p w
  | .wi _ _, h => s _ _ nv_tup h
  | .rank _ _ _, h => by obtain ⟨q, e, t⟩ := h; exact ⟨q, s _ _ nv_tup e, t.stay s⟩
  | .al _ _ _, h => by obtain ⟨q, e, t⟩ := h; exact ⟨q, s _ _ nv_tup e, t.stay s⟩
theorem ShAt.stay {R : Hp → Addr → Plan → Prop} {s : Addr} {sh : Shelf} (m : ∀ a p, R H a p → R H' a p) (k : Stay H H') (h : ShAt R H s sh) : ShAt R H' s sh := by
  obtain ⟨kvs, hk, ps⟩ := h
  exact ⟨kvs, k _ _ nv_dK hk, Paired.imp (fun a b r => ⟨r.1, r.2.elim fun x y => ⟨x, y.1, m _ _ y.2⟩⟩) ps⟩
theorem ShAt.stayF {s : Addr} {sh : Shelf} (k : Stay H H') (h : ShAt (FrP K) H s sh) : ShAt (FrP K) H' s sh := h.stay (fun _ _ r => r.stay k) k
theorem WsAt.stay {ws : List Wish} (s : Stay H H') (h : WsAt H p ws) : WsAt H' p ws := by
  obtain ⟨as, e, ps⟩ := h
  exact ⟨as, s _ _ nv_tup e, Paired.imp (fun _ _ r => r.stay s) ps⟩
end
/-- a page, plainly -/
structure Pg where
  sh : Shelf
  ws : List Wish
def PageAt (K : Frag) (H : Hp) : Addr → List Pg → Prop
  | _, [] => False
  | pg, P :: rest => ∃ dx s w av, H pg = some (.ins (He.ga K "Page") dx (pgF (.ref s) (.ref w) av rest.length)) ∧ ShAt (FrP K) H s P.sh ∧ WsAt H w P.ws ∧ ((rest = [] ∧ av = .non) ∨ ∃ q, av = .ref q ∧ PageAt K H q rest)
theorem PageAt.stay {K : Frag} {H H' : Hp} (k : Stay H H') : ∀ {ps : List Pg} {pg : Addr}, PageAt K H pg ps → PageAt K H' pg ps
  | [], _, h => h
  | P :: rest, _, h => by
    obtain ⟨dx, s, w, av, e, sa, wa, r⟩ := h
    refine ⟨dx, s, w, av, k _ _ nv_pg e, sa.stayF k, wa.stay k, ?_⟩
    rcases r with r | ⟨q, eq, r⟩
    · exact .inl r
    · exact .inr ⟨q, eq, PageAt.stay k r⟩
def DeskAt (K : Frag) (H : Hp) (dk : Addr) (ps : List Pg) : Prop := ∃ dx pg, H dk = some (.ins (He.ga K "Desk") dx [("page", .ref pg)]) ∧ PageAt K H pg ps
theorem vary_desk {C dx : Addr} {v : V} : Vary (.ins C dx [("page", v)]) := .inl ⟨C, dx, v, rfl⟩
theorem DeskAt.same {K : Frag} {H H' : Hp} {dk : Addr} {ps : List Pg} (s : Same H H') (h : DeskAt K H dk ps) : DeskAt K H' dk ps := by
  obtain ⟨dx, pg, e, p⟩ := h
  exact ⟨dx, pg, s _ _ e, p.stay (Same.stay s)⟩
def shPut (sh : Shelf) (t : Str) (p : Plan) : Shelf := if (sh.any fun kv => decide (kv.1 = t)) = true then sh.map (fun kv => if kv.1 = t then (kv.1, p) else kv) else sh ++ [(t, p)]
def shDrop (sh : Shelf) (t : Str) : Shelf := sh.filter fun kv => decide (kv.1 ≠ t)
/-- what holds of each page -/
structure PgOk (P : Pg) : Prop where
  sh : ShOk P.sh
  nd : (P.sh.map (·.1)).Nodup
  ws : WsOk P.sh P.ws
  names : ∀ kv ∈ P.sh, kv.1 ∈ [("a" : Str), "zz", "rank"]
  lw : P.ws.length ≤ 20
  ls : P.sh.length ≤ 20
theorem Ents.keys {R : Addr → Plan → Prop} : ∀ {kvs : List (Key × V)} {sh : Shelf}, Ents R kvs sh → kvs.map (·.1) = (sh.map (·.1)).map Sum.inr
  | _, _, .nil => rfl
  | _, _, .cons r ts => by rw [List.map_cons, List.map_cons, List.map_cons, Ents.keys ts, r.1]
theorem Ents.put {R : Addr → Plan → Prop} {t : Str} {p : Plan} {a : Addr} (ra : R a p) : ∀ {kvs : List (Key × V)} {sh : Shelf}, Ents R kvs sh → Ents R (putK kvs (Sum.inr t) (.ref a)) (shPut sh t p) := by
  have key : ∀ {kvs : List (Key × V)} {sh : Shelf}, Ents R kvs sh → (kvs.any fun kv => decide (kv.1 = (Sum.inr t : Key))) = (sh.any fun kv => decide (kv.1 = t)) ∧
      Ents R (kvs.map fun kv => if kv.1 = (Sum.inr t : Key) then (kv.1, V.ref a) else kv) (sh.map fun kv => if kv.1 = t then (kv.1, p) else kv) ∧ Ents R (kvs ++ [(Sum.inr t, V.ref a)]) (sh ++ [(t, p)]) := by
    intro kvs sh h
    induction h with
    | nil => exact ⟨rfl, .nil, .cons ⟨rfl, a, rfl, ra⟩ .nil⟩
    | @cons kv tp kvs sh r ts ih =>
      obtain ⟨i1, i2, i3⟩ := ih
      obtain ⟨e, b, eb, rb⟩ := r
      have he : decide (kv.1 = (Sum.inr t : Key)) = decide (tp.1 = t) := by
        rw [e]
        by_cases z : tp.1 = t
        · simp [z]
        · rw [decide_eq_false z, decide_eq_false (fun y => z (Sum.inr.inj y))]
      refine ⟨by rw [List.any_cons, List.any_cons, he, i1], ?_, .cons ⟨e, b, eb, rb⟩ i3⟩
      rw [List.map_cons, List.map_cons]
      refine .cons ?_ i2
      by_cases z : tp.1 = t
      · rw [if_pos z, if_pos (by rw [e, z])]
        exact ⟨e, a, rfl, ra⟩
      · rw [if_neg z, if_neg (fun y => z (Sum.inr.inj (e.symm.trans y)))]
        exact ⟨e, b, eb, rb⟩
  intro kvs sh h
  obtain ⟨k1, k2, k3⟩ := key h
  unfold putK shPut
  rw [k1]
  split
  · exact k2
  · exact k3
end Bt

set_option Elab.async false
set_option linter.all false
set_option maxRecDepth 100000
set_option maxHeartbeats 4000000
/-! the desk -/
namespace Bt
open PySem L2
set_option pp.maxSteps 900
local macro_rules | `(tactic| walk_at "lk") => `(tactic| first
  | assumption
  | exact upd_same
  | (refine at_new ?_ ?_; · assumption
     walk_at "lk")
  | (refine at_mut ?_ ?_; · assumption
     walk_at "lk")
  | (refine at_same ?_ ?_; · assumption
     walk_at "lk"))
local macro_rules | `(tactic| walk_at "w1") => `(tactic| with_reducible first
  | refine w_seq ?_ | refine w_asg ?_ | refine w_name ?_ | refine w_ret ?_ | refine w_retN ?_ | refine w_drop ?_ | refine w_next ?_
  | refine w_op ?_ | refine w_var rfl ?_ | refine w_c ?_ | refine w_un ?_ | refine w_test ?_ | refine w_tB ?_ | refine w_bl ?_ | refine w_chain ?_
  | refine w_and ?_ | refine w_or ?_ | refine w_not ?_ | refine w_andV ?_ | refine w_orV ?_ | refine w_notV ?_ | refine w_cons ?_ | refine w_nil ?_
  | refine w_par ?_ | refine w_parL ?_ | refine w_call ?_ | refine w_CB ?_ | refine w_prop ?_ | refine w_fld ?_ | refine w_meth ?_ | refine w_make ?_ | refine w_tup ?_ | refine w_lst ?_
  | refine w_I0 ?_ | refine w_U ?_ | refine w_addI ?_ | refine w_eqI ?_ | refine w_eqS ?_ | refine w_neI ?_ | refine w_neS ?_ | refine w_isN ?_ | refine w_notN ?_
  | refine w_tt ?_ | refine w_ff ?_ | refine w_nt ?_ | refine w_nf ?_ | refine w_ntt ?_ | refine w_att ?_ | refine w_js ?_ | refine w_jsN ?_ | refine w_fmtS ?_ | refine w_m1 ?_ | refine w_m1L ?_ | refine w_sfld ?_ | refine w_bm ?_ | refine w_dc ?_ | refine w_iIt ?_ | refine w_star ?_ | refine w_mkO ?_ | refine w_raise ?_ | refine w_osg ?_ | refine w_gfld ?_ | refine w_kget ?_ | refine w_dget ?_ | refine w_din ?_ | refine w_dnotin ?_ | refine w_slice ?_ | refine w_on ?_ | refine w_os ?_ | refine w_sub ?_ | refine w_bmN ?_ | refine w_intI ?_ | refine w_intB ?_ | refine w_strS ?_
  | refine w_lc ?_ | refine w_for ?_ | refine w_iL ?_ | refine w_iT ?_ | refine w_iS ?_ | refine w_iK ?_ | refine w_iR1 ?_ | refine w_iR3 ?_ | refine w_iET ?_ | refine w_srcS ?_)
local macro_rules | `(tactic| walk_at "w") => `(tactic| (repeat walk_at "w1"); try (with_reducible refine w_ifN ?_))
local macro_rules | `(tactic| walk_at "ws") => `(tactic| with_reducible first | refine w_seq ?_ | refine w_next ?_)
local macro_rules | `(tactic| walk_at "w2") => `(tactic| repeat with_reducible first | refine w_seq ?_ | refine w_asg ?_ | refine w_name ?_ | refine w_next ?_)
local macro_rules | `(tactic| walk_at "sz") => `(tactic| (rw [sizeLine_eq]; exact Nat.le_of_ble_eq_true rfl))
theorem XErr.mono {K : Frag} {x : Str} {fs : List (Str × V)} {H H1 : Hp} {E : XK} (s : Same H H1) (h : XErr K x fs H E) : XErr K x fs H1 E := fun d H' s' e => h d H' (s.trans s') e
section
variable {P : Program} {w : World} {K : Frag} {mg : Str → Option Value} {base : Heap} {H : Hp} {Q : VK} {σ : L2.St}
def spHas (K : Frag) : Sp := fun vs H Q _ => ∃ dk t p ps, vs = [.ref dk, .str t] ∧ DeskAt K H dk (p :: ps) ∧ Q (.bl (shV p.sh t).isSome) H
abbrev s_Desk_contains : Stmt := inClass (top 79) 1
theorem sc_Desk_contains : FnScope ["self", "value"] ["self", "value"] (defScope s_Desk_contains) := ⟨rfl, rfl, rfl, by decide +kernel, rfl, by decide +kernel, by decide +kernel⟩
theorem ok_Desk_contains (T : Txt w K mg) : OwnM P w K mg base (He.ga K "Desk") "__contains__" 1 ["self", "value"] (spHas K) := by
  refine own_ofM T.m_Desk_contains sc_Desk_contains (fun _ _ _ _ _ _ us hl => match us, hl with | [_, _], _ => rfl) (fun vs H Q E h => ?_) (fun f cdv A outer s H vs Q E hr h => ?_)
  · obtain ⟨dk, t, p, ps, rfl, _⟩ := h; rfl
  · have sc := sc_Desk_contains
    have hu1 := units1 hr
    obtain ⟨dk, t, p, ps, rfl, ⟨dx, pg, e1, dp, sa, wa, av, e2, hs, _⟩, k⟩ := h
    obtain ⟨o, dg, eo⟩ := hs.look (t := t)
    refine ⟨_, (pss_one (ps_ret (pe_and (pe_callB call_isi (by rfl) T.b_isinstance (by decide +kernel) (pa_cons (pv 1) (pa_cons (pe_bltn (v := .ty "str") (u := .type "str") rfl T.b_str (by decide +kernel) rfl) pa_nil))) (pe_one (pe_cmp (pc_din (by exact hu1) (pv 1) (pe_fld (pe_fld (pv 0) rfl) rfl))))))), ?_⟩
    walk_at "w"
    refine w_isiS ?_
    walk_at "w"
    refine w_fldL e1 T.k_Desk T.a_Desk_page rfl ?_
    walk_at "w"
    refine w_fldL e2 T.k_Page T.a_Page_shelf rfl ?_
    refine ⟨sa, o, rfl, dg, ?_⟩
    rw [eo]
    exact k
def spNeed (K : Frag) : Sp := fun vs H Q E => ∃ dk t p ps, vs = [.ref dk, .str t] ∧ DeskAt K H dk (p :: ps) ∧ ((shV p.sh t).isSome = true → Q .non H) ∧ ((shV p.sh t).isSome = false → XErr K "UnknownName" [("given", .str t)] H E)
abbrev s_Desk_need : Stmt := inClass (top 79) 5
theorem sc_Desk_need : FnScope ["self", "name"] ["self", "name"] (defScope s_Desk_need) := ⟨rfl, rfl, rfl, by decide +kernel, rfl, by decide +kernel, by decide +kernel⟩
theorem ok_Desk_need (T : Txt w K mg) : OwnM P w K mg base (He.ga K "Desk") "need" 3 ["self", "name"] (spNeed K) := by
  refine own_ofM T.m_Desk_need sc_Desk_need (fun _ _ _ _ _ _ us hl => match us, hl with | [_, _], _ => rfl) (fun vs H Q E h => ?_) (fun f cdv A outer s H vs Q E hr h => ?_)
  · obtain ⟨dk, t, p, ps, rfl, _⟩ := h; rfl
  · have sc := sc_Desk_need
    have hu1 := units1 hr
    obtain ⟨dk, t, p, ps, rfl, da, k1, k2⟩ := h
    obtain ⟨dx, pg, e1, _⟩ := id da
    refine ⟨_, (pss_one (ps_if (pt_cmpR (op_ownNotIn (ok_Desk_contains T) hr passN) (pv 1) (pv 0) (by rfl)) (pss_one (L2N.ps_raise rfl (L2N.takes_of rfl rfl rfl rfl) (pmk_ownX (ok_UnknownName_init T) hr (pa_cons (pv 1) pa_nil)))) pss_nil)), ?_⟩
    walk_at "w"
    refine w_ifb (!(shV p.sh t).isSome) (fun q hq => ?_) (fun c => ?_) fun c => ?_
    · walk_at "w"
      refine ⟨dk, dx, _, rfl, e1, dk, t, p, ps, rfl, da, _, rfl, ?_⟩
      walk_at "w"
      exact hq
    · walk_at "w"
      exact w_mk1 (k2 (by simpa using c))
    · walk_at "w"
      exact k1 (by simpa using c)
def spNames (K : Frag) : Sp := fun vs H Q _ => ∃ dk p ps, vs = [.ref dk] ∧ DeskAt K H dk (p :: ps) ∧ p.sh.length ≤ 20 ∧ ∀ (ys : List Str) q H', ys.Perm (p.sh.map (·.1)) → PyProof.Rows.sortedS ys = true → Same H H' → TN H' q (ys.map V.str) → Q (.ref q) H'
abbrev s_Desk_names : Stmt := inClass (top 79) 2
theorem sc_Desk_names : FnScope ["self"] ["self"] (defScope s_Desk_names) := ⟨rfl, rfl, rfl, by decide +kernel, rfl, by decide +kernel, by decide +kernel⟩
theorem ok_Desk_names (T : Txt w K mg) : OwnP P w K mg base (He.ga K "Desk") "names" 1 (spNames K) := by
  refine own_ofP T.p_Desk_names sc_Desk_names (fun _ _ _ _ _ _ us hl => match us, hl with | [_], _ => rfl) (fun vs H Q E h => ?_) (fun f cdv A outer s H vs Q E hr h => ?_)
  · obtain ⟨dk, p, ps, rfl, _⟩ := h; rfl
  · have sc := sc_Desk_names
    obtain ⟨dk, p, ps, rfl, ⟨dx, pg, e1, dp, sa, wa, av, e2, ⟨kvs, hk, en⟩, _⟩, hl, k⟩ := h
    refine ⟨_, (pss_one (ps_ret (pe_callTy call_tuple_ofN (by rfl) T.b_tuple (by decide +kernel) (pa_cons (pe_callB (call_sortedD rfl) (by rfl) T.b_sorted (by decide +kernel) (pa_cons (pe_fld (pe_fld (pv 0) rfl) rfl) pa_nil)) pa_nil)))), ?_⟩
    walk_at "w"
    refine w_fldL e1 T.k_Desk T.a_Desk_page rfl ?_
    walk_at "w"
    refine w_fldL e2 T.k_Page T.a_Page_shelf rfl ?_
    walk_at "w"
    refine ⟨sa, kvs, p.sh.map (·.1), rfl, Rd.of hk, Ents.keys en, by rw [List.length_map]; omega, fun ys q hp hs hq => ?_⟩
    walk_at "w"
    exact w_tupN (SqL.of upd_same) fun l H' hl s t => k ys l H' hp hs (fun b o e => s b o (at_new hq e)) t
def spClaims (K : Frag) : Sp := fun vs H Q _ => ∃ dk p ps, vs = [.ref dk] ∧ DeskAt K H dk (p :: ps) ∧ ∀ q, WsAt H q p.ws → Q (.ref q) H
abbrev s_Desk_claims : Stmt := inClass (top 79) 3
theorem sc_Desk_claims : FnScope ["self"] ["self"] (defScope s_Desk_claims) := ⟨rfl, rfl, rfl, by decide +kernel, rfl, by decide +kernel, by decide +kernel⟩
theorem ok_Desk_claims (T : Txt w K mg) : OwnP P w K mg base (He.ga K "Desk") "claims" 1 (spClaims K) := by
  refine own_ofP T.p_Desk_claims sc_Desk_claims (fun _ _ _ _ _ _ us hl => match us, hl with | [_], _ => rfl) (fun vs H Q E h => ?_) (fun f cdv A outer s H vs Q E hr h => ?_)
  · obtain ⟨dk, p, ps, rfl, _⟩ := h; rfl
  · have sc := sc_Desk_claims
    obtain ⟨dk, p, ps, rfl, ⟨dx, pg, e1, dp, sa, wa, av, e2, hs, hw, _⟩, k⟩ := h
    refine ⟨_, (pss_one (ps_ret (pe_fld (pe_fld (pv 0) rfl) rfl))), ?_⟩
    walk_at "w"
    refine w_fldL e1 T.k_Desk T.a_Desk_page rfl ?_
    walk_at "w"
    exact w_fldL e2 T.k_Page T.a_Page_wanted rfl (k wa hw)
def spChanges (K : Frag) : Sp := fun vs H Q _ => ∃ dk p ps, vs = [.ref dk] ∧ DeskAt K H dk (p :: ps) ∧ Q (.int (ps.length : Nat)) H
abbrev s_Desk_changes : Stmt := inClass (top 79) 4
theorem sc_Desk_changes : FnScope ["self"] ["self"] (defScope s_Desk_changes) := ⟨rfl, rfl, rfl, by decide +kernel, rfl, by decide +kernel, by decide +kernel⟩
theorem ok_Desk_changes (T : Txt w K mg) : OwnP P w K mg base (He.ga K "Desk") "changes" 1 (spChanges K) := by
  refine own_ofP T.p_Desk_changes sc_Desk_changes (fun _ _ _ _ _ _ us hl => match us, hl with | [_], _ => rfl) (fun vs H Q E h => ?_) (fun f cdv A outer s H vs Q E hr h => ?_)
  · obtain ⟨dk, p, ps, rfl, _⟩ := h; rfl
  · have sc := sc_Desk_changes
    obtain ⟨dk, p, ps, rfl, ⟨dx, pg, e1, dp, sa, wa, av, e2, _⟩, k⟩ := h
    refine ⟨_, (pss_one (ps_ret (pe_fld (pe_fld (pv 0) rfl) rfl))), ?_⟩
    walk_at "w"
    refine w_fldL e1 T.k_Desk T.a_Desk_page rfl ?_
    walk_at "w"
    exact w_fldL e2 T.k_Page T.a_Page_depth rfl k
def spThing (K : Frag) : Sp := fun vs H Q _ => ∃ dk t p ps pl, vs = [.ref dk, .str t] ∧ DeskAt K H dk (p :: ps) ∧ shV p.sh t = some pl ∧ ∀ a, FrameAt K H a pl.1 pl.2 → Q (.ref a) H
abbrev s_Desk_thing : Stmt := inClass (top 79) 7
theorem sc_Desk_thing : FnScope ["self", "name"] ["self", "name"] (defScope s_Desk_thing) := ⟨rfl, rfl, rfl, by decide +kernel, rfl, by decide +kernel, by decide +kernel⟩
theorem ok_Desk_thing (T : Txt w K mg) : OwnM P w K mg base (He.ga K "Desk") "thing" 4 ["self", "name"] (spThing K) := by
  refine own_ofM T.m_Desk_thing sc_Desk_thing (fun _ _ _ _ _ _ us hl => match us, hl with | [_, _], _ => rfl) (fun vs H Q E h => ?_) (fun f cdv A outer s H vs Q E hr h => ?_)
  · obtain ⟨dk, t, p, ps, pl, rfl, _⟩ := h; rfl
  · have sc := sc_Desk_thing
    have hu1 := units1 hr
    obtain ⟨dk, t, p, ps, pl, rfl, da, ep, k⟩ := h
    obtain ⟨dx, pg, e1, dp, sa, wa, av, e2, hs, _⟩ := id da
    obtain ⟨a, dg, fa⟩ := hs.get ep
    refine ⟨_, (pss_cons (ps_expr (pe_ownM (ok_Desk_need T) T.k_Desk hr passX (pv 0) (pa_cons (pv 1) pa_nil)))
      (pss_one (ps_ret (pe_dget (by exact hu1) (pe_fld (pe_fld (pv 0) rfl) rfl) (pv 1) (fun _ _ => rfl))))), ?_⟩
    walk_at "w"
    refine w_methL e1 rfl ?_
    walk_at "w"
    refine ⟨dk, t, p, ps, rfl, da, fun _ => ?_, fun c => by rw [ep] at c; cases c⟩
    walk_at "w"
    refine w_fldL e1 T.k_Desk T.a_Desk_page rfl ?_
    walk_at "w"
    refine w_fldL e2 T.k_Page T.a_Page_shelf rfl ?_
    walk_at "w"
    exact ⟨sa, _, rfl, dg, k a fa⟩
end
end Bt

set_option Elab.async false
set_option linter.all false
set_option maxRecDepth 100000
set_option maxHeartbeats 4000000
/-! the desk: changes -/
namespace Bt
open PySem L2
set_option pp.maxSteps 900
local macro_rules | `(tactic| walk_at "lk") => `(tactic| first
  | assumption
  | exact upd_same
  | (refine at_new ?_ ?_; · assumption
     walk_at "lk")
  | (refine at_mut ?_ ?_; · assumption
     walk_at "lk")
  | (refine at_same ?_ ?_; · assumption
     walk_at "lk"))
local macro_rules | `(tactic| walk_at "w1") => `(tactic| with_reducible first
  | refine w_seq ?_ | refine w_asg ?_ | refine w_name ?_ | refine w_ret ?_ | refine w_retN ?_ | refine w_drop ?_ | refine w_next ?_
  | refine w_op ?_ | refine w_var rfl ?_ | refine w_c ?_ | refine w_un ?_ | refine w_test ?_ | refine w_tB ?_ | refine w_bl ?_ | refine w_chain ?_
  | refine w_and ?_ | refine w_or ?_ | refine w_not ?_ | refine w_andV ?_ | refine w_orV ?_ | refine w_notV ?_ | refine w_cons ?_ | refine w_nil ?_
  | refine w_par ?_ | refine w_parL ?_ | refine w_call ?_ | refine w_CB ?_ | refine w_prop ?_ | refine w_fld ?_ | refine w_meth ?_ | refine w_make ?_ | refine w_tup ?_ | refine w_lst ?_
  | refine w_I0 ?_ | refine w_U ?_ | refine w_addI ?_ | refine w_eqI ?_ | refine w_eqS ?_ | refine w_neI ?_ | refine w_neS ?_ | refine w_isN ?_ | refine w_notN ?_
  | refine w_tt ?_ | refine w_ff ?_ | refine w_nt ?_ | refine w_nf ?_ | refine w_ntt ?_ | refine w_att ?_ | refine w_js ?_ | refine w_jsN ?_ | refine w_fmtS ?_ | refine w_m1 ?_ | refine w_m1L ?_ | refine w_sfld ?_ | refine w_bm ?_ | refine w_dc ?_ | refine w_iIt ?_ | refine w_star ?_ | refine w_mkO ?_ | refine w_raise ?_ | refine w_osg ?_ | refine w_gfld ?_ | refine w_kget ?_ | refine w_dget ?_ | refine w_din ?_ | refine w_dnotin ?_ | refine w_slice ?_ | refine w_on ?_ | refine w_os ?_ | refine w_sub ?_ | refine w_bmN ?_ | refine w_intI ?_ | refine w_intB ?_ | refine w_strS ?_
  | refine w_lc ?_ | refine w_for ?_ | refine w_iL ?_ | refine w_iT ?_ | refine w_iS ?_ | refine w_iK ?_ | refine w_iR1 ?_ | refine w_iR3 ?_ | refine w_iET ?_ | refine w_srcS ?_)
local macro_rules | `(tactic| walk_at "w") => `(tactic| (repeat walk_at "w1"); try (with_reducible refine w_ifN ?_))
local macro_rules | `(tactic| walk_at "ws") => `(tactic| with_reducible first | refine w_seq ?_ | refine w_next ?_)
local macro_rules | `(tactic| walk_at "w2") => `(tactic| repeat with_reducible first | refine w_seq ?_ | refine w_asg ?_ | refine w_name ?_ | refine w_next ?_)
local macro_rules | `(tactic| walk_at "sz") => `(tactic| (rw [sizeLine_eq]; exact Nat.le_of_ble_eq_true rfl))
theorem shV_cons {t' t : Str} {p : Plan} {sh : Shelf} : shV ((t', p) :: sh) t = if t' = t then some p else shV sh t := by
  by_cases h : t' = t
  · simp [shV, h]
  · simp [shV, List.find?_cons, h]
theorem shV_put {t : Str} {p : Plan} : ∀ {sh : Shelf} (u : Str), shV (shPut sh t p) u = if u = t then some p else shV sh u := by
  intro sh u
  have k1 : ∀ l : Shelf, (l.any fun kv => decide (kv.1 = t)) = true → shV (l.map fun kv => if kv.1 = t then (kv.1, p) else kv) u = if u = t then some p else shV l u := by
    intro l
    induction l with
    | nil => intro h; cases h
    | cons kv r ih =>
      intro h
      obtain ⟨k, v⟩ := kv
      rw [List.map_cons]
      by_cases hk : k = t
      · subst hk
        rw [if_pos rfl, shV_cons, shV_cons]
        by_cases hu : u = k
        · rw [if_pos hu.symm, if_pos hu]
        · rw [if_neg (Ne.symm hu), if_neg hu, if_neg (Ne.symm hu)]
          clear ih h
          induction r with
          | nil => rfl
          | cons kv r ih =>
            obtain ⟨k', v'⟩ := kv
            rw [List.map_cons]
            by_cases hk' : k' = k
            · subst hk'
              rw [if_pos rfl, shV_cons, shV_cons, if_neg (Ne.symm hu), if_neg (Ne.symm hu)]; exact ih
            · rw [if_neg hk', shV_cons, shV_cons]
              split
              · rfl
              · exact ih
      · rw [if_neg hk, shV_cons, shV_cons]
        rw [List.any_cons, decide_eq_false hk, Bool.false_or] at h
        by_cases hu : k = u
        · subst hu
          rw [if_pos rfl, if_neg hk, if_pos rfl]
        · rw [if_neg hu, if_neg hu]; exact ih h
  have k2 : ∀ l : Shelf, (l.any fun kv => decide (kv.1 = t)) = false → shV (l ++ [(t, p)]) u = if u = t then some p else shV l u := by
    intro l
    induction l with
    | nil =>
      intro _
      rw [List.nil_append, shV_cons]
      by_cases hu : u = t
      · rw [if_pos hu.symm, if_pos hu]
      · rw [if_neg (Ne.symm hu), if_neg hu]
    | cons kv r ih =>
      intro h
      obtain ⟨k, v⟩ := kv
      rw [List.any_cons, Bool.or_eq_false_iff] at h
      have hk : ¬ k = t := of_decide_eq_false h.1
      rw [List.cons_append, shV_cons, shV_cons]
      by_cases hu : k = u
      · subst hu
        rw [if_pos rfl, if_neg hk, if_pos rfl]
      · rw [if_neg hu, if_neg hu]; exact ih h.2
  unfold shPut
  split
  · rename_i h
    exact k1 sh h
  · rename_i h
    exact k2 sh (Bool.eq_false_iff.mpr h)
theorem ShOk.put {sh : Shelf} {t : Str} {p : Plan} (h : ShOk sh) (hp : PlanOk p.1 p.2) : ShOk (shPut sh t p) := fun u q e => by
  rw [shV_put] at e
  split at e
  · cases e; exact hp
  · exact h u q e
theorem WsOk.put {sh : Shelf} {t : Str} {p : Plan} {ws : List Wish} (h : WsOk sh ws) : WsOk (shPut sh t p) ws := fun c hc => ⟨(h c hc).1, fun u hu => by
  rw [shV_put]
  split
  · rfl
  · exact (h c hc).2 u hu⟩
abbrev names3 : List Str := ["a", "zz", "rank"]
theorem name_ok {t : Str} (h : t ∈ names3) : 1 ≤ t.length ∧ t.length ≤ 8 ∧ ∀ c ∈ t.cps.toList, c ∈ (Str.ofString "abcdefghijklmnopqrstuvwxyz").cps.toList := by
  simp only [List.mem_cons, List.not_mem_nil, or_false] at h
  rcases h with rfl | rfl | rfl <;> decide
section
variable {P : Program} {w : World} {K : Frag} {mg : Str → Option Value} {base : Heap} {H : Hp} {Q : VK} {σ : L2.St}
/-- a new page is laid, the desk shows it -/
theorem desk_new {H1 H2 : Hp} {dk pg x dx dxp s wt : Addr} {p : Pg} {ps : List Pg} {sh : Shelf} {ws : List Wish} (s1 : Same H H1) (e1 : H dk = some (.ins (He.ga K "Desk") dx [("page", .ref pg)])) (pa : PageAt K H pg (p :: ps)) (hx : H1 x = none) (hdx : H1 dxp = none) (hne : dxp ≠ x)
    (hs : ShAt (FrP K) H1 s sh) (hw : WsAt H1 wt ws) (kp : Keep x (upd (upd H1 dxp (.own x)) x (.ins (He.ga K "Page") dxp [])) H2) (e2 : H2 x = some (.ins (He.ga K "Page") dxp (pgF (.ref s) (.ref wt) (.ref pg) ((ps.length : Nat) + 1)))) :
    H2 dk = some (.ins (He.ga K "Desk") dx [("page", .ref pg)]) ∧ Keep dk H (upd H2 dk (.ins (He.ga K "Desk") dx [("page", .ref x)])) ∧ DeskAt K (upd H2 dk (.ins (He.ga K "Desk") dx [("page", .ref x)])) dk (⟨sh, ws⟩ :: p :: ps) := by
  have s2 : Same H1 H2 := fun b o e => kp b o (ne_of_none e hx) (at_mut (ne_of_none e hx) (at_new hdx e))
  have d2 := s2 _ _ (s1 _ _ e1)
  have st : Stay H2 (upd H2 dk (.ins (He.ga K "Desk") dx [("page", .ref x)])) := Keep.stay vary_desk d2 fun b o n h => at_mut n h
  have ne : x ≠ dk := fun z => by rw [z, s1 _ _ e1] at hx; cases hx
  refine ⟨d2, fun b o n h => at_mut n (s2 _ _ (s1 _ _ h)), dx, x, upd_same, dxp, s, wt, .ref pg, ?_, (hs.sameF s2).stayF st, (hw.same s2).stay st, .inr ⟨pg, rfl, (pa.stay (Same.stay (s1.trans s2))).stay st⟩⟩
  rw [upd_ne ne, e2]
  rw [List.length_cons]
  rfl
def spPut (K : Frag) : Sp := fun vs H Q E => ∃ dk t fr p ps pl, vs = [.ref dk, .str t, .ref fr] ∧ DeskAt K H dk (p :: ps) ∧ FrameAt K H fr pl.1 pl.2 ∧ PlanOk pl.1 pl.2 ∧ PgOk p ∧ t ∈ names3 ∧
  (bad (shPut p.sh t pl) 0 p.ws = none → ∀ H', Keep dk H H' → DeskAt K H' dk (⟨shPut p.sh t pl, p.ws⟩ :: p :: ps) → Q .non H') ∧
  ∀ i z, bad (shPut p.sh t pl) 0 p.ws = some (i, z) → XErr K "Broken" [("shown", z), ("index", .int (i : Nat))] H E
abbrev s_Desk_put : Stmt := inClass (top 79) 6
theorem sc_Desk_put : FnScope ["self", "name", "frame", "frames"] ["self", "name", "frame"] (defScope s_Desk_put) := ⟨rfl, rfl, rfl, by decide +kernel, rfl, by decide +kernel, by decide +kernel⟩
theorem ok_Desk_put (T : Txt w K mg) : OwnM P w K mg base (He.ga K "Desk") "put" 10 ["self", "name", "frame"] (spPut K) := by
  refine own_ofM T.m_Desk_put sc_Desk_put (fun _ _ _ _ _ _ us hl => match us, hl with | [_, _, _], _ => rfl) (fun vs H Q E h => ?_) (fun f cdv A outer s H vs Q E hr h => ?_)
  · obtain ⟨dk, t, fr, p, ps, pl, rfl, _⟩ := h; rfl
  · have sc := sc_Desk_put
    obtain ⟨dk, t, fr, p, ps, pl, rfl, ⟨dx, pg, e1, pa⟩, fa, po, ok, nm, k1, k2⟩ := h
    obtain ⟨dp, sa, wa, av, e2, hs, hw, _⟩ := id pa
    obtain ⟨n1, n2, n3⟩ := name_ok nm
    refine ⟨_, (pss_cons (ps_if (pt_not (pt_val (pe_own (ok_is_name T) hr passN (pa_cons (pv 1) pa_nil)))) (pss_one ps_never) pss_nil)
      (pss_cons (ps_expr (pe_own (ok_check_frame T) hr passN (pa_cons (pv 2) pa_nil)))
      (pss_cons (ps_set (i := 3) sc.nd rfl (Or.inl rfl) (pe_dstar (pe_fld (pe_fld (pv 0) rfl) rfl) (pv 1) (pv 2)))
      (pss_cons (ps_expr (pe_own (ok_check_kept T) hr passX (pa_cons (pe_fld (pe_fld (pv 0) rfl) rfl) (pa_cons (pv 3) pa_nil))))
      (pss_one (ps_fld (pv 0) (pe_ownC (ok_Page_init T) hr passN (pa_cons (pv 3) (pa_cons (pe_fld (pe_fld (pv 0) rfl) rfl) (pa_cons (pe_fld (pv 0) rfl) pa_nil)))) rfl)))))), ?_⟩
    walk_at "w"
    refine w_ifg false (fun q hq => ?_) (fun c => nomatch c) fun _ H1 s1 => ?_
    · walk_at "w"
      refine ⟨t, rfl, n1, n2, n3, fun H1 s1 => ?_⟩
      walk_at "w"
      exact hq _ s1
    · walk_at "w"
      refine ⟨fr, _, _, rfl, fa.same s1, ?_⟩
      walk_at "w"
      refine w_dst fun d hd => ?_
      have s2 := same_new (o := .dK []) hd s1
      walk_at "w"
      refine w_fldL (s2 _ _ e1) T.k_Desk T.a_Desk_page rfl ?_
      walk_at "w"
      refine w_fldL (s2 _ _ e2) T.k_Page T.a_Page_shelf rfl ?_
      obtain ⟨kvs, hk, en⟩ := hs
      have nsd : sa ≠ d := ne_of_none (s1 _ _ hk) hd
      refine ⟨sa, kvs, rfl, nsd, Rd.of (s2 _ _ hk), upd_same, ?_, fun u hu => ?_⟩
      · have := Ents.keys en
        have l := congrArg List.length this
        simp only [List.length_map] at l
        have := ok.ls; omega
      walk_at "w"
      have nud : u ≠ d := fun z => by rw [z, upd_same] at hu; cases hu
      refine ⟨Sum.inr t, rfl, by rw [upd_ne (Ne.symm nud), upd_same], upd_same, ?_⟩
      have hu1 : H1 u = none := by rw [upd_ne nud] at hu; exact hu
      generalize hH3 : upd (upd (upd (upd (upd H1 d (HO.dK [])) d (HO.dK kvs)) u (HO.dK [])) u (HO.dK [(Sum.inr t, V.ref fr)])) d (HO.dK (putK kvs (Sum.inr t) (V.ref fr))) = H3
      have s3 : Same H1 H3 := fun b o e => by
        rw [← hH3]
        have q1 := ne_of_none e hd
        have q2 := ne_of_none e hu1
        rw [upd_ne q1, upd_ne q2, upd_ne q2, upd_ne q1, upd_ne q1]; exact e
      have s4 := s1.trans s3
      have hd3 : ShAt (FrP K) H3 d (shPut p.sh t pl) := ⟨_, by rw [← hH3]; exact upd_same, Paired.imp (fun a b r => ⟨r.1, r.2.elim fun x y => ⟨x, y.1, y.2.same s4⟩⟩) (Ents.put fa en)⟩
      walk_at "w"
      refine w_fldL (s4 _ _ e1) T.k_Desk T.a_Desk_page rfl ?_
      walk_at "w"
      refine w_fldL (s4 _ _ e2) T.k_Page T.a_Page_wanted rfl ?_
      walk_at "w"
      refine ⟨wa, d, _, p.ws, rfl, hw.same s4, hd3, ok.ws.put, ok.sh.put po, fun hb H4 s5 => ?_, fun i z hb H4 s5 => (k2 i z hb).mono (s4.trans s5)⟩
      have s6 := s4.trans s5
      walk_at "w"
      refine w_fldL (s6 _ _ e1) T.k_Desk T.a_Desk_page rfl ?_
      walk_at "w"
      refine w_fldL (s6 _ _ e2) T.k_Page T.a_Page_wanted rfl ?_
      walk_at "w"
      refine w_fldL (s6 _ _ e1) T.k_Desk T.a_Desk_page rfl ?_
      walk_at "w"
      intro x dxp hx hdx hne
      have npx : pg ≠ x := ne_of_none (s6 _ _ e2) hx
      refine ⟨x, dxp, _, _, _, _, rfl, upd_same, .inr ⟨pg, dp, _, _, _, _, rfl, at_mut npx (at_new hdx (s6 _ _ e2)), rfl⟩, fun H5 kp e5 => ⟨rfl, ?_⟩⟩
      obtain ⟨d1, d2, d3⟩ := desk_new s6 e1 pa hx hdx hne (hd3.sameF s5) (hw.same s6) kp e5
      walk_at "w"
      refine w_sfldL d1 T.k_Desk T.a_Desk_page (Nat.le_of_ble_eq_true rfl) ?_
      walk_at "w"
      exact k1 hb _ d2 d3
end
end Bt

set_option Elab.async false
set_option linter.all false
set_option maxRecDepth 100000
set_option maxHeartbeats 4000000
/-! the desk: claims, lifting, taking back -/
namespace Bt
open PySem L2
set_option pp.maxSteps 900
local macro_rules | `(tactic| walk_at "lk") => `(tactic| first
  | assumption
  | exact upd_same
  | (refine at_new ?_ ?_; · assumption
     walk_at "lk")
  | (refine at_mut ?_ ?_; · assumption
     walk_at "lk")
  | (refine at_same ?_ ?_; · assumption
     walk_at "lk"))
local macro_rules | `(tactic| walk_at "w1") => `(tactic| with_reducible first
  | refine w_seq ?_ | refine w_asg ?_ | refine w_name ?_ | refine w_ret ?_ | refine w_retN ?_ | refine w_drop ?_ | refine w_next ?_
  | refine w_op ?_ | refine w_var rfl ?_ | refine w_c ?_ | refine w_un ?_ | refine w_test ?_ | refine w_tB ?_ | refine w_bl ?_ | refine w_chain ?_
  | refine w_and ?_ | refine w_or ?_ | refine w_not ?_ | refine w_andV ?_ | refine w_orV ?_ | refine w_notV ?_ | refine w_cons ?_ | refine w_nil ?_
  | refine w_par ?_ | refine w_parL ?_ | refine w_call ?_ | refine w_CB ?_ | refine w_prop ?_ | refine w_fld ?_ | refine w_meth ?_ | refine w_make ?_ | refine w_tup ?_ | refine w_lst ?_
  | refine w_I0 ?_ | refine w_U ?_ | refine w_addI ?_ | refine w_eqI ?_ | refine w_eqS ?_ | refine w_neI ?_ | refine w_neS ?_ | refine w_isN ?_ | refine w_notN ?_
  | refine w_tt ?_ | refine w_ff ?_ | refine w_nt ?_ | refine w_nf ?_ | refine w_ntt ?_ | refine w_att ?_ | refine w_js ?_ | refine w_jsN ?_ | refine w_fmtS ?_ | refine w_m1 ?_ | refine w_m1L ?_ | refine w_sfld ?_ | refine w_bm ?_ | refine w_dc ?_ | refine w_iIt ?_ | refine w_star ?_ | refine w_mkO ?_ | refine w_raise ?_ | refine w_osg ?_ | refine w_gfld ?_ | refine w_kget ?_ | refine w_dget ?_ | refine w_din ?_ | refine w_dnotin ?_ | refine w_slice ?_ | refine w_on ?_ | refine w_os ?_ | refine w_sub ?_ | refine w_bmN ?_ | refine w_intI ?_ | refine w_intB ?_ | refine w_strS ?_
  | refine w_lc ?_ | refine w_for ?_ | refine w_iL ?_ | refine w_iT ?_ | refine w_iS ?_ | refine w_iK ?_ | refine w_iR1 ?_ | refine w_iR3 ?_ | refine w_iET ?_ | refine w_srcS ?_)
local macro_rules | `(tactic| walk_at "w") => `(tactic| (repeat walk_at "w1"); try (with_reducible refine w_ifN ?_))
local macro_rules | `(tactic| walk_at "ws") => `(tactic| with_reducible first | refine w_seq ?_ | refine w_next ?_)
local macro_rules | `(tactic| walk_at "w2") => `(tactic| repeat with_reducible first | refine w_seq ?_ | refine w_asg ?_ | refine w_name ?_ | refine w_next ?_)
local macro_rules | `(tactic| walk_at "sz") => `(tactic| (rw [sizeLine_eq]; exact Nat.le_of_ble_eq_true rfl))
theorem w_catT {K : Frag} {H : Hp} {Q : VK} {a b : Addr} {xs ys : List V} (e1 : H a = some (.tup xs)) (e2 : H b = some (.tup ys)) (l : xs.length + ys.length ≤ 100000) (h : ∀ p H', Same H H' → H' p = some (.tup (xs ++ ys)) → Q (.ref p) H') : rCatA K (.ref a) (.ref b) H Q :=
  ⟨a, b, xs, ys, rfl, rfl, SqT.of e1, SqT.of e2, by rw [sizeLine_eq]; omega, fun z => h b H (Same.refl _) (by rw [z]; exact e2), fun _ z => h a H (Same.refl _) (by rw [z, List.append_nil]; exact e1), fun _ _ p hp => h p _ (same_new hp (Same.refl _)) upd_same⟩
theorem paired_app {α β : Type} {R : α → β → Prop} : ∀ {l l2 : List α} {k k2 : List β}, Paired R l k → Paired R l2 k2 → Paired R (l ++ l2) (k ++ k2)
  | _, _, _, _, .nil, h => h
  | _, _, _, _, .cons r t, h => .cons r (paired_app t h)
theorem paired_take {α β : Type} {R : α → β → Prop} : ∀ (n : Nat) {l : List α} {k : List β}, Paired R l k → Paired R (l.take n) (k.take n)
  | 0, _, _, _ => .nil
  | _ + 1, _, _, .nil => .nil
  | n + 1, _, _, .cons r t => .cons r (paired_take n t)
theorem paired_drop {α β : Type} {R : α → β → Prop} : ∀ (n : Nat) {l : List α} {k : List β}, Paired R l k → Paired R (l.drop n) (k.drop n)
  | 0, _, _, h => h
  | _ + 1, _, _, .nil => .nil
  | n + 1, _, _, .cons _ t => paired_drop n t
section
variable {P : Program} {w : World} {K : Frag} {mg : Str → Option Value} {base : Heap} {H : Hp} {Q : VK} {σ : L2.St}
def spClaim (K : Frag) : Sp := fun vs H Q E => ∃ dk c p ps wi, vs = [.ref dk, .ref c] ∧ DeskAt K H dk (p :: ps) ∧ WishAt H c wi ∧ WishOk wi ∧ Has p.sh wi ∧ PgOk p ∧
  (bad p.sh 0 (p.ws ++ [wi]) = none → ∀ H', Keep dk H H' → DeskAt K H' dk (⟨p.sh, p.ws ++ [wi]⟩ :: p :: ps) → Q .non H') ∧
  ∀ i z, bad p.sh 0 (p.ws ++ [wi]) = some (i, z) → XErr K "Broken" [("shown", z), ("index", .int (i : Nat))] H E
abbrev s_Desk_claim : Stmt := inClass (top 79) 9
theorem sc_Desk_claim : FnScope ["self", "claim", "name", "told"] ["self", "claim"] (defScope s_Desk_claim) := ⟨rfl, rfl, rfl, by decide +kernel, rfl, by decide +kernel, by decide +kernel⟩
theorem ok_Desk_claim (T : Txt w K mg) : OwnM P w K mg base (He.ga K "Desk") "claim" 10 ["self", "claim"] (spClaim K) := by
  refine own_ofM T.m_Desk_claim sc_Desk_claim (fun _ _ _ _ _ _ us hl => match us, hl with | [_, _], _ => rfl) (fun vs H Q E h => ?_) (fun f cdv A outer s H vs Q E hr h => ?_)
  · obtain ⟨dk, c, p, ps, wi, rfl, _⟩ := h; rfl
  · have sc := sc_Desk_claim
    obtain ⟨dk, c, p, ps, wi, rfl, da, ca, wo, has, ok, k1, k2⟩ := h
    obtain ⟨dx, pg, e1, pa⟩ := id da
    obtain ⟨dp, sa, wa, av, e2, hs, hw, _⟩ := id pa
    refine ⟨_, (pss_cons (ps_if (pt_not (pt_val (pe_own (ok_is_claim T) hr passN (pa_cons (pv 1) pa_nil)))) (pss_one ps_never) pss_nil)
      (pss_cons (ps_for (passes_of rfl) rfl (pi_tup (pe_own (ok_names_in T) hr passN (pa_cons (pv 1) pa_nil))) (pg_name (i := 2) sc.nd rfl (Or.inl rfl)) (pss_one (ps_expr (pe_ownM (ok_Desk_need T) T.k_Desk hr passX (pv 0) (pa_cons (pv 2) pa_nil)))))
      (pss_cons (ps_set (i := 3) sc.nd rfl (Or.inl rfl) (pe_tup (StX.pa_star (pe_fld (pe_fld (pv 0) rfl) rfl) (pa_cons (pv 1) pa_nil))))
      (pss_cons (ps_expr (pe_own (ok_check_kept T) hr passX (pa_cons (pv 3) (pa_cons (pe_fld (pe_fld (pv 0) rfl) rfl) pa_nil))))
      (pss_one (ps_fld (pv 0) (pe_ownC (ok_Page_init T) hr passN (pa_cons (pe_fld (pe_fld (pv 0) rfl) rfl) (pa_cons (pv 3) (pa_cons (pe_fld (pv 0) rfl) pa_nil)))) rfl)))))), ?_⟩
    walk_at "w"
    refine w_ifg false (fun q hq => ?_) (fun c => nomatch c) fun _ H1 s1 => ?_
    · walk_at "w"
      refine ⟨c, wi, rfl, ca, wo, fun H1 s1 => ?_⟩
      walk_at "w"
      exact hq _ s1
    · walk_at "w"
      refine ⟨c, wi, rfl, ca.same s1, fun q H2 s2 eq => ?_⟩
      have s12 := s1.trans s2
      refine w_srcT eq ?_
      refine forB_tup (xs := wi.titles.map V.str) (fun i σ H' => ∃ a b, σ = [some (.ref dk), some (.ref c), a, b] ∧ Same H2 H') ⟨_, _, rfl, Same.refl _⟩ (fun i σ H' _ h => by obtain ⟨_, _, _, s⟩ := h; exact SqT.of (s _ _ eq)) (fun i x σ H' hx h => ?_) fun σ H' h => ?_
      · obtain ⟨a, b, rfl, s3⟩ := h
        obtain ⟨t, ht, rfl⟩ := List.mem_map.mp (List.mem_of_getElem? hx)
        have s4 := s12.trans s3
        walk_at "w"
        refine w_methL (s4 _ _ e1) rfl ?_
        walk_at "w"
        refine ⟨dk, t, p, ps, rfl, da.same s4, fun _ => ?_, fun c => by rw [has t ht] at c; cases c⟩
        walk_at "w"
        exact ⟨_, _, rfl, s3⟩
      · obtain ⟨a, b, rfl, s3⟩ := h
        have s4 := s12.trans s3
        walk_at "w"
        refine w_fldL (s4 _ _ e1) T.k_Desk T.a_Desk_page rfl ?_
        walk_at "w"
        refine w_fldL (s4 _ _ e2) T.k_Page T.a_Page_wanted rfl ?_
        obtain ⟨as, ew, pw⟩ := hw
        refine ⟨wa, as.map V.ref, rfl, .inl (SqT.of (s4 _ _ ew)), ?_⟩
        walk_at "w"
        have lw : as.length = p.ws.length := Paired.len pw
        refine ⟨?_, fun u hu => ?_⟩
        · have := ok.lw
          rw [List.length_append, List.length_map, sizeLine_eq]
          show as.length + 1 ≤ _
          omega
        have s5 := same_new (o := .tup (as.map V.ref ++ [V.ref c])) hu s4
        have hu5 : WsAt (upd H' u (.tup (as.map V.ref ++ [V.ref c]))) u (p.ws ++ [wi]) := ⟨as ++ [c], by rw [upd_same, List.map_append]; rfl, paired_app (Paired.imp (fun _ _ r => r.same s5) pw) (.cons (ca.same s5) .nil)⟩
        walk_at "w"
        refine w_fldL (s5 _ _ e1) T.k_Desk T.a_Desk_page rfl ?_
        walk_at "w"
        refine w_fldL (s5 _ _ e2) T.k_Page T.a_Page_shelf rfl ?_
        walk_at "w"
        have wok : WsOk p.sh (p.ws ++ [wi]) := fun c hc => by
          rcases List.mem_append.mp hc with hc | hc
          · exact ok.ws c hc
          · obtain rfl := List.mem_singleton.mp hc; exact ⟨wo, has⟩
        refine ⟨u, sa, _, _, rfl, hu5, hs.sameF s5, wok, ok.sh, fun hb H6 s6 => ?_, fun i z hb H6 s6 => (k2 i z hb).mono (s5.trans s6)⟩
        have s7 := s5.trans s6
        walk_at "w"
        refine w_fldL (s7 _ _ e1) T.k_Desk T.a_Desk_page rfl ?_
        walk_at "w"
        refine w_fldL (s7 _ _ e2) T.k_Page T.a_Page_shelf rfl ?_
        walk_at "w"
        refine w_fldL (s7 _ _ e1) T.k_Desk T.a_Desk_page rfl ?_
        walk_at "w"
        intro x dxp hx hdx hne
        have npx : pg ≠ x := ne_of_none (s7 _ _ e2) hx
        refine ⟨x, dxp, _, _, _, _, rfl, upd_same, .inr ⟨pg, dp, _, _, _, _, rfl, at_mut npx (at_new hdx (s7 _ _ e2)), rfl⟩, fun H8 kp e8 => ⟨rfl, ?_⟩⟩
        obtain ⟨d1, d2, d3⟩ := desk_new s7 e1 pa hx hdx hne (hs.sameF s7) (hu5.same s6) kp e8
        walk_at "w"
        refine w_sfldL d1 T.k_Desk T.a_Desk_page (Nat.le_of_ble_eq_true rfl) ?_
        walk_at "w"
        exact k1 hb _ d2 d3
/-- a claim the less -/
def lifted (ws : List Wish) (i : Nat) : List Wish := ws.take i ++ ws.drop (i + 1)
def spLift (K : Frag) : Sp := fun vs H Q E => ∃ dk i p ps, vs = [.ref dk, .int (i : Nat)] ∧ DeskAt K H dk (p :: ps) ∧ PgOk p ∧
  (i < p.ws.length → ∀ H', Keep dk H H' → DeskAt K H' dk (⟨p.sh, lifted p.ws i⟩ :: p :: ps) → Q .non H') ∧ (p.ws.length ≤ i → XErr K "InvalidIndex" [("given", .int (i : Nat))] H E)
abbrev s_Desk_lift : Stmt := inClass (top 79) 10
theorem sc_Desk_lift : FnScope ["self", "index", "told"] ["self", "index"] (defScope s_Desk_lift) := ⟨rfl, rfl, rfl, by decide +kernel, rfl, by decide +kernel, by decide +kernel⟩
theorem ok_Desk_lift (T : Txt w K mg) : OwnM P w K mg base (He.ga K "Desk") "lift" 10 ["self", "index"] (spLift K) := by
  refine own_ofM T.m_Desk_lift sc_Desk_lift (fun _ _ _ _ _ _ us hl => match us, hl with | [_, _], _ => rfl) (fun vs H Q E h => ?_) (fun f cdv A outer s H vs Q E hr h => ?_)
  · obtain ⟨dk, i, p, ps, rfl, _⟩ := h; rfl
  · have sc := sc_Desk_lift
    obtain ⟨dk, i, p, ps, rfl, da, ok, k1, k2⟩ := h
    obtain ⟨dx, pg, e1, pa⟩ := id da
    obtain ⟨dp, sa, wa, av, e2, hs, hw, _⟩ := id pa
    obtain ⟨as, ew, pw⟩ := id hw
    have lw : as.length = p.ws.length := Paired.len pw
    refine ⟨_, (pss_cons (ps_set (i := 2) sc.nd rfl (Or.inl rfl) (pe_fld (pe_fld (pv 0) rfl) rfl))
      (pss_cons (ps_if (pt_not (pt_val (pe_own (ok_is_between T) hr passN (pa_cons (pv 1) (pa_cons pe_int (pa_cons (pe_op op_sub (pe_callB (call_lenU) (by rfl) T.b_len (by decide +kernel) (pa_cons (pv 2) pa_nil)) pe_int) pa_nil)))))) (pss_one (L2N.ps_raise rfl (L2N.takes_of rfl rfl rfl rfl) (pmk_ownX (ok_InvalidIndex_init T) hr (pa_cons (pv 1) pa_nil)))) pss_nil)
      (pss_one (ps_fld (pv 0) (pe_ownC (ok_Page_init T) hr passN (pa_cons (pe_fld (pe_fld (pv 0) rfl) rfl) (pa_cons (pe_op op_catA (pe_slice sl_U (pv 2) po_none (po_some (pv 1))) (pe_slice sl_U (pv 2) (po_some (pe_op op_addU (pv 1) pe_int)) po_none)) (pa_cons (pe_fld (pv 0) rfl) pa_nil)))) rfl)))), ?_⟩
    walk_at "w"
    refine w_fldL e1 T.k_Desk T.a_Desk_page rfl ?_
    walk_at "w"
    refine w_fldL e2 T.k_Page T.a_Page_wanted rfl ?_
    walk_at "w"
    refine w_ifb (!decide (i < p.ws.length)) (fun q hq => ?_) (fun c => ?_) fun c => ?_
    · walk_at "w"
      refine w_lenT ew ?_
      walk_at "w"
      refine ⟨_, _, _, rfl, ?_⟩
      rw [List.length_map, lw, decide_eq_true (show (0 : Int) ≤ (i : Nat) by omega), Bool.true_and]
      rw [show decide (((i : Nat) : Int) ≤ (p.ws.length : Nat) - 1) = decide (i < p.ws.length) by
        by_cases z : i < p.ws.length
        · rw [decide_eq_true z, decide_eq_true (by omega)]
        · rw [decide_eq_false z, decide_eq_false (by omega)]]
      walk_at "w"
      exact hq
    · walk_at "w"
      exact w_mk1 (k2 (by simpa using c))
    · have hi : i < p.ws.length := by simpa using c
      walk_at "w"
      refine w_fldL e1 T.k_Desk T.a_Desk_page rfl ?_
      walk_at "w"
      refine w_fldL e2 T.k_Page T.a_Page_shelf rfl ?_
      walk_at "w"
      refine w_osL ?_
      refine w_slT ew fun q1 H1 s1 f1 => ?_
      walk_at "w"
      refine w_osL ?_
      walk_at "w"
      refine w_slT (s1 _ _ ew) fun q2 H2 s2 f2 => ?_
      have c1 : cutV (as.map V.ref) none (some (i : Nat)) = (as.take i).map V.ref := by
        unfold cutV
        rw [List.length_map, HT.sIx_none, HT.sIx_nat, List.drop_zero, Nat.sub_zero, show min i as.length = i by omega, List.map_take]
      have c2 : cutV (as.map V.ref) (some ((i : Nat) + 1)) none = (as.drop (i + 1)).map V.ref := by
        unfold cutV
        rw [List.length_map, HT.sIx_none, show ((i : Nat) : Int) + 1 = ((i + 1 : Nat) : Int) by omega, HT.sIx_nat, show min (i + 1) as.length = i + 1 by omega, List.map_drop, List.take_of_length_le (by rw [List.length_drop, List.length_map]; omega)]
      rw [c1] at f1
      rw [c2] at f2
      refine w_catT (s2 _ _ f1) f2 ?_ fun q3 H3 s3 f3 => ?_
      · have := ok.lw
        rw [List.length_map, List.length_map, List.length_take, List.length_drop]; omega
      have s4 := (s1.trans s2).trans s3
      have hq3 : WsAt H3 q3 (lifted p.ws i) := ⟨as.take i ++ as.drop (i + 1), by rw [f3, List.map_append], Paired.imp (fun _ _ r => r.same s4) (paired_app (paired_take i pw) (paired_drop (i + 1) pw))⟩
      walk_at "w"
      refine w_fldL (s4 _ _ e1) T.k_Desk T.a_Desk_page rfl ?_
      walk_at "w"
      intro x dxp hx hdx hne
      have npx : pg ≠ x := ne_of_none (s4 _ _ e2) hx
      refine ⟨x, dxp, _, _, _, _, rfl, upd_same, .inr ⟨pg, dp, _, _, _, _, rfl, at_mut npx (at_new hdx (s4 _ _ e2)), rfl⟩, fun H8 kp e8 => ⟨rfl, ?_⟩⟩
      obtain ⟨d1, d2, d3⟩ := desk_new s4 e1 pa hx hdx hne (hs.sameF s4) hq3 kp e8
      walk_at "w"
      refine w_sfldL d1 T.k_Desk T.a_Desk_page (Nat.le_of_ble_eq_true rfl) ?_
      walk_at "w"
      exact k1 hi _ d2 d3
def spUndo (K : Frag) : Sp := fun vs H Q E => ∃ dk p ps, vs = [.ref dk] ∧ DeskAt K H dk (p :: ps) ∧ (ps ≠ [] → ∀ H', Keep dk H H' → DeskAt K H' dk ps → Q .non H') ∧ (ps = [] → E (.ref (He.ga K "NothingToUndo")) none H)
abbrev s_Desk_undo : Stmt := inClass (top 79) 11
theorem sc_Desk_undo : FnScope ["self"] ["self"] (defScope s_Desk_undo) := ⟨rfl, rfl, rfl, by decide +kernel, rfl, by decide +kernel, by decide +kernel⟩
theorem ok_Desk_undo (T : Txt w K mg) : OwnM P w K mg base (He.ga K "Desk") "undo" 1 ["self"] (spUndo K) := by
  refine own_ofM T.m_Desk_undo sc_Desk_undo (fun _ _ _ _ _ _ us hl => match us, hl with | [_], _ => rfl) (fun vs H Q E h => ?_) (fun f cdv A outer s H vs Q E hr h => ?_)
  · obtain ⟨dk, p, ps, rfl, _⟩ := h; rfl
  · have sc := sc_Desk_undo
    obtain ⟨dk, p, ps, rfl, da, k1, k2⟩ := h
    obtain ⟨dx, pg, e1, pa⟩ := id da
    obtain ⟨dp, sa, wa, av, e2, hs, hw, r⟩ := id pa
    refine ⟨_, (pss_cons (ps_if (pt_cmpR op_isN (pe_fld (pe_fld (pv 0) rfl) rfl) pe_non (nomark _)) (pss_one (L2N.ps_raise rfl (L2N.takes_of rfl rfl rfl rfl) (pmk_ownX0 PySem.F.excBase_LookupError T.x_NothingToUndo))) pss_nil)
      (pss_one (ps_fld (pv 0) (pe_fld (pe_fld (pv 0) rfl) rfl) rfl))), ?_⟩
    walk_at "w"
    rcases r with ⟨rfl, rfl⟩ | ⟨q, rfl, r⟩
    · refine w_ifb true (fun q hq => ?_) (fun _ => ?_) fun c => nomatch c
      · walk_at "w"
        refine w_fldL e1 T.k_Desk T.a_Desk_page rfl ?_
        walk_at "w"
        refine w_fldL e2 T.k_Page T.a_Page_ahead rfl ?_
        walk_at "w"
        refine ⟨rfl, true, ?_, hq⟩
        rw [decide_eq_true rfl]
      · walk_at "w"
        exact k2 rfl
    · have hne : ps ≠ [] := fun z => by subst z; exact r
      refine w_ifb false (fun q2 hq => ?_) (fun c => nomatch c) fun _ => ?_
      · walk_at "w"
        refine w_fldL e1 T.k_Desk T.a_Desk_page rfl ?_
        walk_at "w"
        refine w_fldL e2 T.k_Page T.a_Page_ahead rfl ?_
        walk_at "w"
        refine ⟨rfl, false, ?_, hq⟩
        rw [decide_eq_false (fun z => nomatch z)]
      · walk_at "w"
        refine w_fldL e1 T.k_Desk T.a_Desk_page rfl ?_
        walk_at "w"
        refine w_fldL e2 T.k_Page T.a_Page_ahead rfl ?_
        walk_at "w"
        refine w_sfldL e1 T.k_Desk T.a_Desk_page (Nat.le_of_ble_eq_true rfl) ?_
        walk_at "w"
        have st : Stay H (upd H dk (.ins (He.ga K "Desk") dx [("page", .ref q)])) := Keep.stay vary_desk e1 fun b o n h => at_mut n h
        exact k1 hne _ (fun b o n h => at_mut n h) ⟨dx, q, upd_same, r.stay st⟩
end
end Bt

set_option Elab.async false
set_option linter.all false
set_option maxRecDepth 100000
set_option maxHeartbeats 4000000
/-! rules that the layer lacks: x = {k: v for ..} -/
namespace Bt
open PySem PySem.Spec PyProof.Rows L2
section
variable {X : Cx}
theorem ps_setDc {i : Nat} {y : Str} {py : Pos} {kx vx tg iter : Expr} {ifs : List Expr} {scope : Scope} {own : List (Str × Nat)} {pos spos : Pos} {wi : TI} {g : TG} {tt : TT} {tk tv : TE} (hc : X.calm = true) (hN : X.N.Nodup) (hy : X.N[i]? = some y) (hyl : X.env.scope.names.lookup y = some .local)
    (hsw : swapsWith (.DictComp kx vx [⟨tg, iter, ifs, 0⟩] scope pos) (some (.Name y py)) spos.line X.env = pure true) (hi : PI X tg iter wi) (ok : BlkOk X.N X.env.scope scope own)
    (hg : ∀ (s : Shared) (H : Hp) (C : Addr) (cl : List (Str × Addr)) (fp : List Addr), PG (X.blk s H scope (compEnvC scope cl C X.env) fp) tg g) (ht : ∀ (s : Shared) (H : Hp) (C : Addr) (cl : List (Str × Addr)) (fp : List Addr), PTs (X.blk s H scope (compEnvC scope cl C X.env) fp) ifs tt)
    (hk : ∀ (s : Shared) (H : Hp) (C : Addr) (cl : List (Str × Addr)) (fp : List Addr), PE (X.blk s H scope (compEnvC scope cl C X.env) fp) kx tk) (he : ∀ (s : Shared) (H : Hp) (C : Addr) (cl : List (Str × Addr)) (fp : List Addr), PE (X.blk s H scope (compEnvC scope cl C X.env) fp) vx tv)
    (hs : ∀ x, foldedSetIterable iter X.env x = pure x := by intro _; rfl) : PS X (.Assign [.Name y py] (.DictComp kx vx [⟨tg, iter, ifs, 0⟩] scope pos) spos) (tAsg (tDc wi g tt tk tv (own.map (·.2))) (gName i)) := ⟨fun pins s σ H D I h => by
  rw [exec_Assign_Name_used _ _ _ _ hsw]
  refine wpAny_bind (wpAny_standAt (wpAny_bind ?_))
  show wpAny _ X.A (do let _ ← comprehension (.DictComp kx vx [⟨tg, iter, ifs, 0⟩] scope pos) scope X.env (firstIterPos [⟨tg, iter, ifs, 0⟩] pos) newDict false (eval iter X.env) (some (assign (.Name y py) X.env))) _ _ s
  have h2 : tDc wi g tt tk tv (own.map (·.2)) σ H (fun x H1 => gName i x σ H1 D.nx) := h
  refine wpAny_bind (thn (dc_core (Qf := fun _ s' => SP X pins D .next s') hc hN I hi ok hg ht hk he hs h2 fun L C s' m H' I' q hn f => ?_) fun _ s' hq => wpAny_pure (wpAny_pure hq))
  show wpAny _ _ (assign (.Name y py) X.env (.ref L)) _ _ _
  refine wpAny_assign_Name (store_ok2 (v := V.ref L) I' hN hy (.inl hyl) rfl (fun s2 I2 ⟨a, sb, ha⟩ => ?_) (.inr hyl))
  obtain ⟨f0, f1, f2, f3, f4, f5⟩ := f
  have haC : C ≠ a := by
    rcases ha with z | z
    · rw [z]; exact f1
    · exact fun e => f4 y a z e.symm
  exact ⟨m, hn.sameBut sb haC, fun h3 sb3 => ⟨_, H', I2.turned (t' := s2.toks) (fun b o hb e => (sb3.2 b hb).trans e) f0 f1 f3 f4 f5, q⟩⟩⟩
theorem sw_trueD {kx vx : Expr} {gs : List Comprehension} {scope : Scope} {pos py : Pos} {y : Str} {l : Nat} {env : Env} (hk : env.scope.kind = .function) (hy : env.scope.names.lookup y = some .local) (hl : (py.line == pos.line) = true)
    (ha : (scope.names.any fun (n, k) => n == y && (k == .local || k == .cell)) = false) : swapsWith (.DictComp kx vx gs scope pos) (some (.Name y py)) l env = pure true := by
  have ky : env.kindOf y = some .local := hy
  have hb : env.blockKind = .function := by unfold Env.blockKind; rw [hk]; rfl
  unfold swapsWith
  simp only [hb, ky, ha, Expr.pos, hl]
  rfl
theorem pg_tupK (K0 : Frag) {es : List Expr} {k : Nat} {t : TGs} {n : Nat} {pos : Pos} (hc : X.calm = true) (h : PGs X es t) (hK : X.K = K0 := by rfl) (hn : (assignEach es X.env).length = n := by rfl) (hst : (assignEach es X.env).findIdx? (·.1) = none := by rfl) : PG X (.Tuple es k pos) (gTup K0 n t) := by
  subst hK; exact pg_tup hc h hn hst
end
/-- what is left of a dict comprehension's reading once its source is known -/
def dcB (g : TG) (tt : TT) (tk tv : TE) (vs : List Nat) (σ : L2.St) (Q : VK) (J : It) (H1 : Hp) : Prop := ∀ D, H1 D = none → ∃ W : Nat → Nat → Hp → Prop, (∃ m, W 0 m (upd H1 D (.dK []))) ∧ ∀ i m H, W i m H →
  (J.stop i H ∧ Q (.ref D) H) ∨ (J.go i H ∧ ∃ Nx : Hp → Prop, (∀ H', Nx H' → ∃ m', m' < m ∧ W (i + 1) m' H') ∧ ∀ x H', J.yld i H x H' → g x (wipe σ vs) H' fun σ2 H2 => wipe σ2 vs = wipe σ vs ∧ tt σ2 H2 fun b H3 =>
    if b = true then tk σ2 H3 fun y H4 => tv σ2 H4 fun z H5 => ∃ kvs k, y = kV k ∧ H5 D = some (.dK kvs) ∧ kvs.length < sizeLine ∧ Nx (upd H5 D (.dK (putK kvs k z))) else Nx H3)
theorem w_dc {wi : TI} {g : TG} {tt : TT} {tk tv : TE} {vs : List Nat} {σ : L2.St} {H : Hp} {Q : VK} (h : wi σ H fun J H1 => dcB g tt tk tv vs σ Q J H1) : tDc wi g tt tk tv vs σ H Q := h
theorem w_iIt {td : TE} {σ : L2.St} {H : Hp} {R : It → Hp → Prop} (h : td σ H fun x H1 => ∃ d o kvs, x = .ref d ∧ H1 d = some (.frz o (.dK kvs)) ∧ R (Iti d o kvs) H1) : iItems td σ H R := h
end Bt

set_option Elab.async false
set_option linter.all false
set_option maxRecDepth 100000
set_option maxHeartbeats 4000000
/-! the desk: drop; a new one -/
namespace Bt
open PySem L2
set_option pp.maxSteps 900
local macro_rules | `(tactic| walk_at "lk") => `(tactic| first
  | assumption
  | exact upd_same
  | (refine at_new ?_ ?_; · assumption
     walk_at "lk")
  | (refine at_mut ?_ ?_; · assumption
     walk_at "lk")
  | (refine at_same ?_ ?_; · assumption
     walk_at "lk"))
local macro_rules | `(tactic| walk_at "w1") => `(tactic| with_reducible first
  | refine w_seq ?_ | refine w_asg ?_ | refine w_name ?_ | refine w_ret ?_ | refine w_retN ?_ | refine w_drop ?_ | refine w_next ?_
  | refine w_op ?_ | refine w_var rfl ?_ | refine w_c ?_ | refine w_un ?_ | refine w_test ?_ | refine w_tB ?_ | refine w_bl ?_ | refine w_chain ?_
  | refine w_and ?_ | refine w_or ?_ | refine w_not ?_ | refine w_andV ?_ | refine w_orV ?_ | refine w_notV ?_ | refine w_cons ?_ | refine w_nil ?_
  | refine w_par ?_ | refine w_parL ?_ | refine w_call ?_ | refine w_CB ?_ | refine w_prop ?_ | refine w_fld ?_ | refine w_meth ?_ | refine w_make ?_ | refine w_tup ?_ | refine w_lst ?_
  | refine w_I0 ?_ | refine w_U ?_ | refine w_addI ?_ | refine w_eqI ?_ | refine w_eqS ?_ | refine w_neI ?_ | refine w_neS ?_ | refine w_isN ?_ | refine w_notN ?_
  | refine w_tt ?_ | refine w_ff ?_ | refine w_nt ?_ | refine w_nf ?_ | refine w_ntt ?_ | refine w_att ?_ | refine w_js ?_ | refine w_jsN ?_ | refine w_fmtS ?_ | refine w_m1 ?_ | refine w_m1L ?_ | refine w_sfld ?_ | refine w_bm ?_ | refine w_dc ?_ | refine w_iIt ?_ | refine w_star ?_ | refine w_mkO ?_ | refine w_raise ?_ | refine w_osg ?_ | refine w_gfld ?_ | refine w_kget ?_ | refine w_dget ?_ | refine w_din ?_ | refine w_dnotin ?_ | refine w_slice ?_ | refine w_on ?_ | refine w_os ?_ | refine w_sub ?_ | refine w_bmN ?_ | refine w_intI ?_ | refine w_intB ?_ | refine w_strS ?_
  | refine w_lc ?_ | refine w_for ?_ | refine w_iL ?_ | refine w_iT ?_ | refine w_iS ?_ | refine w_iK ?_ | refine w_iR1 ?_ | refine w_iR3 ?_ | refine w_iET ?_ | refine w_srcS ?_)
local macro_rules | `(tactic| walk_at "w") => `(tactic| (repeat walk_at "w1"); try (with_reducible refine w_ifN ?_))
local macro_rules | `(tactic| walk_at "ws") => `(tactic| with_reducible first | refine w_seq ?_ | refine w_next ?_)
local macro_rules | `(tactic| walk_at "w2") => `(tactic| repeat with_reducible first | refine w_seq ?_ | refine w_asg ?_ | refine w_name ?_ | refine w_next ?_)
local macro_rules | `(tactic| walk_at "sz") => `(tactic| (rw [sizeLine_eq]; exact Nat.le_of_ble_eq_true rfl))
/-- the first claim in which the name is -/
def uses (t : Str) : Nat → List Wish → Option Nat
  | _, [] => none
  | i, c :: r => if t ∈ c.titles then some i else uses t (i + 1) r
theorem inV_strs (t : Str) : ∀ ts : List Str, inV (.str t) (ts.map V.str) = decide (t ∈ ts)
  | [] => rfl
  | u :: r => by
    have ih := inV_strs t r
    unfold inV at ih ⊢
    rw [List.map_cons, List.any_cons, ih]
    by_cases h : u = t
    · subst h; simp [eqV]
    · have : eqV (.str u) (.str t) = false := by simp [eqV, h]
      rw [this, Bool.false_or]
      simp [Ne.symm h]
theorem Ents.drop {R : Addr → Plan → Prop} {t : Str} : ∀ {kvs : List (Key × V)} {sh : Shelf}, Ents R kvs sh → Ents R (kvs.filter fun kv => decide (kV kv.1 ≠ .str t)) (shDrop sh t)
  | _, _, .nil => .nil
  | _, _, .cons (a := kv) (b := tp) r ts => by
    have ih := Ents.drop (t := t) ts
    obtain ⟨e, b, eb, rb⟩ := r
    obtain ⟨k, v⟩ := kv
    dsimp only at e eb
    subst e eb
    unfold shDrop at ih ⊢
    by_cases h : tp.1 = t
    · rw [List.filter_cons_of_neg (by simp [kV, h]), List.filter_cons_of_neg (by simp [h])]
      exact ih
    · rw [List.filter_cons_of_pos (by simp [kV, h]), List.filter_cons_of_pos (by simp [h])]
      exact .cons ⟨rfl, b, rfl, rb⟩ ih
theorem put_fresh {kvs : List (Key × V)} {k : Key} {v : V} (h : k ∉ kvs.map (·.1)) : putK kvs k v = kvs ++ [(k, v)] := by
  unfold putK
  rw [if_neg]
  intro z
  obtain ⟨kv, hm, e⟩ := List.any_eq_true.mp z
  exact h (List.mem_map.mpr ⟨kv, hm, of_decide_eq_true e⟩)
theorem dcB_filter {K : Frag} {σ : L2.St} {H : Hp} {Q : VK} {tt : TT} {tk tv : TE} {vs : List Nat} {j1 j2 : Nat} {d : Addr} {o : Obj} {kvs : List (Key × V)} (f : Key × V → Bool) (h : H d = some (.frz o (.dK kvs))) (nd : (kvs.map (·.1)).Nodup) (hl : kvs.length ≤ 1000)
    (hw : ∀ x y, wipe (((wipe σ vs).set j1 (some x)).set j2 (some y)) vs = wipe σ vs)
    (ht : ∀ kv ∈ kvs, ∀ H' (q : Bool → Hp → Prop), q (f kv) H' → tt (((wipe σ vs).set j1 (some (kV kv.1))).set j2 (some kv.2)) H' q)
    (hk : ∀ x y H' (q : VK), q x H' → tk (((wipe σ vs).set j1 (some x)).set j2 (some y)) H' q) (hv : ∀ x y H' (q : VK), q y H' → tv (((wipe σ vs).set j1 (some x)).set j2 (some y)) H' q)
    (hq : ∀ D H', H D = none → Same H H' → H' D = some (.dK (kvs.filter f)) → Q (.ref D) H') : dcB (gTup K 2 (gCons (gName j1) (gCons (gName j2) gNil))) tt tk tv vs σ Q (Iti d o kvs) H := by
  intro D hD
  refine ⟨fun i m H' => m = kvs.length - i ∧ i ≤ kvs.length ∧ Same H H' ∧ H' D = some (.dK ((kvs.take i).filter f)), ⟨kvs.length, by simp, Nat.zero_le _, same_new hD (Same.refl _), by rw [upd_same]; simp⟩, fun i m H' ⟨em, hi, s, hy⟩ => ?_⟩
  subst em
  by_cases hlt : i < kvs.length
  · refine .inr ⟨⟨s _ _ h, hlt⟩, fun H2 => i + 1 ≤ kvs.length ∧ Same H H2 ∧ H2 D = some (.dK ((kvs.take (i + 1)).filter f)), fun H2 q => ⟨kvs.length - (i + 1), by omega, rfl, q⟩, fun x H2 y => ?_⟩
    obtain ⟨U, k, v, ek, rfl, hU, rfl⟩ := y
    have hm : (k, v) ∈ kvs := List.mem_of_getElem? ek
    have et : kvs.take (i + 1) = kvs.take i ++ [(k, v)] := by rw [List.take_add_one, ek]; rfl
    have s2 := same_new (o := .tup [kV k, v]) hU s
    have nDU : D ≠ U := ne_of_none hy hU
    refine w_unp2 upd_same ?_
    refine w_name (w_name ⟨hw _ _, ht (k, v) hm _ _ ?_⟩)
    cases hf : f (k, v) with
    | false =>
      rw [if_neg Bool.false_ne_true]
      refine ⟨hlt, s2, ?_⟩
      rw [upd_ne nDU, hy, et, List.filter_append]
      simp [hf]
    | true =>
      rw [if_pos rfl]
      refine hk _ _ _ _ (hv _ _ _ _ ⟨_, k, rfl, by rw [upd_ne nDU]; exact hy, ?_, hlt, fun b o e => at_mut (ne_of_none e hD) (s2 _ _ e), ?_⟩)
      · have := List.length_filter_le f (kvs.take i)
        rw [List.length_take] at this
        rw [sizeLine_eq]; omega
      · rw [upd_same, put_fresh, et, List.filter_append]
        · simp [hf]
        · intro hk
          obtain ⟨kv, h1, h2⟩ := List.mem_map.mp hk
          have h3 := (List.mem_filter.mp h1).1
          have nd2 : ((kvs.take i ++ (k, v) :: kvs.drop (i + 1)).map (·.1)).Nodup := by
            obtain ⟨hl', he⟩ := List.getElem?_eq_some_iff.mp ek
            rw [← he, ← List.drop_eq_getElem_cons hl', List.take_append_drop]
            exact nd
          rw [List.map_append, List.nodup_append] at nd2
          exact nd2.2.2 kv.1 (List.mem_map.mpr ⟨kv, h3, rfl⟩) k (by simp) h2
  · have e : i = kvs.length := by omega
    subst e
    exact .inl ⟨⟨s _ _ h, Nat.le_refl _⟩, hq D H' hD s (by rw [hy, List.take_length])⟩
section
variable {P : Program} {w : World} {K : Frag} {mg : Str → Option Value} {base : Heap} {H : Hp} {Q : VK} {σ : L2.St}
def spDrop (K : Frag) : Sp := fun vs H Q E => ∃ dk t p ps, vs = [.ref dk, .str t] ∧ DeskAt K H dk (p :: ps) ∧ PgOk p ∧
  ((shV p.sh t).isSome = false → XErr K "UnknownName" [("given", .str t)] H E) ∧
  ((shV p.sh t).isSome = true → (∀ i, uses t 0 p.ws = some i → XErr K "InUse" [("index", .int (i : Nat))] H E) ∧ (uses t 0 p.ws = none → ∀ H', Keep dk H H' → DeskAt K H' dk (⟨shDrop p.sh t, p.ws⟩ :: p :: ps) → Q .non H'))
abbrev s_Desk_drop : Stmt := inClass (top 79) 8
theorem sc_Desk_drop : FnScope ["self", "name", "frames", "index", "claim", "title", "frame"] ["self", "name"] (defScope s_Desk_drop) := ⟨rfl, rfl, rfl, by decide +kernel, rfl, by decide +kernel, by decide +kernel⟩
theorem ok_Desk_drop (T : Txt w K mg) : OwnM P w K mg base (He.ga K "Desk") "drop" 5 ["self", "name"] (spDrop K) := by
  refine own_ofM T.m_Desk_drop sc_Desk_drop (fun _ _ _ _ _ _ us hl => match us, hl with | [_, _], _ => rfl) (fun vs H Q E h => ?_) (fun f cdv A outer s H vs Q E hr h => ?_)
  · obtain ⟨dk, t, p, ps, rfl, _⟩ := h; rfl
  · have sc := sc_Desk_drop
    have hu64 := hr.units
    obtain ⟨dk, t, p, ps, rfl, da, ok, k0, k1⟩ := h
    obtain ⟨dx, pg, e1, pa⟩ := id da
    obtain ⟨dp, sa, wa, av, e2, hs, hw, _⟩ := id pa
    obtain ⟨as, ew, pw⟩ := id hw
    refine ⟨_, (pss_cons (ps_expr (pe_ownM (ok_Desk_need T) T.k_Desk hr passX (pv 0) (pa_cons (pv 1) pa_nil)))
      (pss_cons (ps_for (passes_of rfl) rfl (pi_enumT rfl T.b_enumerate (pa_cons (pe_fld (pe_fld (pv 0) rfl) rfl) pa_nil)) (pg_tup rfl (pgs_cons (pg_name (i := 3) sc.nd rfl (Or.inl rfl)) (pgs_cons (pg_name (i := 4) sc.nd rfl (Or.inl rfl)) pgs_nil))) (pss_one (ps_if (pt_cmpR op_in_seq (pv 1) (pe_own (ok_names_in T) hr passN (pa_cons (pv 4) pa_nil)) (by rfl)) (pss_one (L2N.ps_raise rfl (L2N.takes_of rfl rfl rfl rfl) (pmk_ownX (ok_InUse_init T) hr (pa_cons (pv 3) pa_nil)))) pss_nil)))
      (pss_cons (ps_lock (ps_setDc (i := 2) (own := [("title", 5), ("frame", 6)]) rfl sc.nd rfl rfl (sw_trueD rfl rfl rfl (by decide +kernel)) (pi_items (pe_fld (pe_fld (pv 0) rfl) rfl)) (blkOk_by (by rfl)) (fun _ _ _ _ _ => (pg_tupK K (n := 2) rfl (pgs_cons (pg_name (i := 5) sc.nd rfl (Or.inl rfl)) (pgs_cons (pg_name (i := 6) sc.nd rfl (Or.inl rfl)) pgs_nil)))) (fun _ _ _ _ _ => (pts_one (pt_cmpR (op_neUK K (by exact hu64)) (pv 5) (pv 1) (nomark _)))) (fun _ _ _ _ _ => (pv 5)) (fun _ _ _ _ _ => (pv 6))))
      (pss_one (ps_fld (pv 0) (pe_ownC (ok_Page_init T) hr passN (pa_cons (pv 2) (pa_cons (pe_fld (pe_fld (pv 0) rfl) rfl) (pa_cons (pe_fld (pv 0) rfl) pa_nil)))) rfl))))), ?_⟩
    walk_at "w"
    refine w_methL e1 rfl ?_
    walk_at "w"
    refine ⟨dk, t, p, ps, rfl, da, fun hin => ?_, k0⟩
    obtain ⟨k2, k3⟩ := k1 hin
    walk_at "w"
    refine w_fldL e1 T.k_Desk T.a_Desk_page rfl ?_
    walk_at "w"
    refine w_fldL e2 T.k_Page T.a_Page_wanted rfl ?_
    walk_at "w"
    refine w_srcE ew ?_
    refine forB_enumT (xs := as.map V.ref) (fun i σ H' => ∃ a b c d e, σ = [some (.ref dk), some (.str t), a, b, c, d, e] ∧ Same H H' ∧ uses t 0 p.ws = uses t i (p.ws.drop i)) ⟨_, _, _, _, _, rfl, Same.refl _, rfl⟩ (fun i σ H' _ h => by obtain ⟨_, _, _, _, _, _, s, _⟩ := h; exact SqT.of (s _ _ ew)) (fun i x σ H' U hx h hU => ?_) fun σ H' h => ?_
    · obtain ⟨a, b, c, d, e, rfl, s1, hb⟩ := h
      rw [List.getElem?_map] at hx
      obtain ⟨wi, hc⟩ : ∃ c, p.ws[i]? = some c := by
        cases ha : as[i]? with
        | none => rw [ha] at hx; cases hx
        | some y => exact ⟨_, List.getElem?_eq_getElem (by have := (List.getElem?_eq_some_iff.mp ha).1; have := Paired.len pw; omega)⟩
      obtain ⟨y, hy, ry⟩ := Paired.at_ pw hc
      rw [hy] at hx
      cases hx
      have hd : p.ws.drop i = wi :: p.ws.drop (i + 1) := by
        obtain ⟨hl, he⟩ := List.getElem?_eq_some_iff.mp hc
        rw [← he]; exact (List.drop_eq_getElem_cons hl)
      have s2 := same_new (o := .tup [.int (i : Nat), .ref y]) hU s1
      rw [hd, uses] at hb
      refine w_unp2 upd_same ?_
      walk_at "w"
      refine w_ifg (decide (t ∈ wi.titles)) (fun q hq => ?_) (fun c1 H3 s3 => ?_) fun c1 H3 s3 => ?_
      · walk_at "w"
        refine ⟨y, wi, rfl, ry.same s2, fun q2 H4 s4 e4 => ?_⟩
        refine ⟨q2, _, rfl, .inr (SqT.of e4), rfl, by simp [flatV], ?_⟩
        rw [if_neg Bool.false_ne_true, inV_strs]
        walk_at "w"
        exact hq _ s4
      · rw [if_pos (by simpa using c1)] at hb
        walk_at "w"
        exact w_mk1 ((k2 _ hb).mono (s2.trans s3))
      · rw [if_neg (by simpa using c1)] at hb
        walk_at "w"
        exact ⟨_, _, _, _, _, rfl, s2.trans s3, hb⟩
    · obtain ⟨a, b, c, d, e, rfl, s1, hb⟩ := h
      have hb : uses t 0 p.ws = none := by
        rw [hb, List.length_map, List.drop_eq_nil_of_le (by rw [Paired.len pw]; exact Nat.le_refl _)]; rfl
      obtain ⟨kvs, hk, en⟩ := id hs
      walk_at "w"
      refine w_lock ⟨sa, .dK kvs, s1 _ _ hk, True.intro, fun od => ?_⟩
      walk_at "w"
      have nds : dk ≠ sa := ne_of (s1 _ _ e1) (s1 _ _ hk) (fun z => nomatch z)
      have nps : pg ≠ sa := ne_of (s1 _ _ e2) (s1 _ _ hk) (fun z => nomatch z)
      refine w_fldL (at_mut nds (s1 _ _ e1)) T.k_Desk T.a_Desk_page rfl ?_
      walk_at "w"
      refine w_fldL (at_mut nps (s1 _ _ e2)) T.k_Page T.a_Page_shelf rfl ?_
      refine ⟨sa, od, kvs, rfl, upd_same, ?_⟩
      have hkeys := Ents.keys en
      have hlen : kvs.length = p.sh.length := Paired.len en
      refine dcB_filter (fun kv => decide (kV kv.1 ≠ .str t)) upd_same ?_ (by have := ok.ls; omega) (fun _ _ => rfl) (fun kv hkv H' q hq => ?_) (fun x y H' q hq => ?_) (fun x y H' q hq => ?_) fun D H2 hD s2 e3 => ?_
      · rw [hkeys]
        exact List.Pairwise.map _ (fun a b n z => n (Sum.inr.inj z)) ok.nd
      · have hm : kv.1 ∈ (p.sh.map (·.1)).map Sum.inr := by rw [← hkeys]; exact List.mem_map.mpr ⟨kv, hkv, rfl⟩
        obtain ⟨z, _, ez⟩ := List.mem_map.mp hm
        obtain ⟨k, v⟩ := kv
        dsimp only at ez
        subst ez
        walk_at "w"
        have : decide (kV (Sum.inr z) ≠ V.str t) = !decide (z = t) := by
          by_cases h : z = t
          · subst h; simp [kV]
          · simp [kV, h]
        rw [this] at hq
        show rNeU K (.str z) (.str t) H' _
        refine w_neS ⟨_, rfl, hq⟩
      · walk_at "w"
        exact hq
      · walk_at "w"
        exact hq
      · walk_at "w"
        have f2 := s2 _ _ upd_same
        refine ⟨f2, ?_⟩
        have hD0 : H' D = none := none_of_new hD
        have nDs : D ≠ sa := fun z => by rw [z, upd_same] at hD; cases hD
        have s3 : Same H' (upd H2 sa (.dK kvs)) := fun b o e => by
          by_cases z : b = sa
          · subst z; rw [upd_same]; rw [s1 _ _ hk] at e; exact e
          · rw [upd_ne z]; exact s2 _ _ (at_mut z e)
        have s4 := s1.trans s3
        have hD3 : ShAt (FrP K) (upd H2 sa (.dK kvs)) D (shDrop p.sh t) := ⟨_, by rw [upd_ne nDs]; exact e3, Paired.imp (fun a b r => ⟨r.1, r.2.elim fun x y => ⟨x, y.1, y.2.same s4⟩⟩) (Ents.drop en)⟩
        walk_at "w"
        refine w_fldL (s4 _ _ e1) T.k_Desk T.a_Desk_page rfl ?_
        walk_at "w"
        refine w_fldL (s4 _ _ e2) T.k_Page T.a_Page_wanted rfl ?_
        walk_at "w"
        refine w_fldL (s4 _ _ e1) T.k_Desk T.a_Desk_page rfl ?_
        walk_at "w"
        intro x dxp hx hdx hne
        have npx : pg ≠ x := ne_of_none (s4 _ _ e2) hx
        refine ⟨x, dxp, _, _, _, _, rfl, upd_same, .inr ⟨pg, dp, _, _, _, _, rfl, at_mut npx (at_new hdx (s4 _ _ e2)), rfl⟩, fun H8 kp e8 => ⟨rfl, ?_⟩⟩
        obtain ⟨d1, d2, d3⟩ := desk_new s4 e1 pa hx hdx hne hD3 (hw.same s4) kp e8
        walk_at "w"
        refine w_sfldL d1 T.k_Desk T.a_Desk_page (Nat.le_of_ble_eq_true rfl) ?_
        walk_at "w"
        exact k3 hb _ d2 d3
def spDeskI (K : Frag) : Sp := fun vs H Q _ => ∃ a dx, vs = [.ref a] ∧ H a = some (.ins (He.ga K "Desk") dx []) ∧ ∀ H', Keep a H H' → DeskAt K H' a [⟨[], []⟩] → Q .non H'
abbrev s_Desk_init : Stmt := inClass (top 79) 0
theorem sc_Desk_init : FnScope ["self"] ["self"] (defScope s_Desk_init) := ⟨rfl, rfl, rfl, by decide +kernel, rfl, by decide +kernel, by decide +kernel⟩
theorem ok_Desk_init (T : Txt w K mg) : OwnC P w K mg base (He.ga K "Desk") "Desk" 3 ["self"] (spDeskI K) := by
  refine own_ofC T.n_Desk sc_Desk_init (fun _ _ _ _ _ _ us hl => match us, hl with | [_], _ => rfl) (fun vs H Q E h => ?_) (fun f cdv A outer s H vs Q E hr h => ?_)
  · obtain ⟨a, dx, rfl, _⟩ := h; rfl
  · have sc := sc_Desk_init
    obtain ⟨a, dx, rfl, e, k⟩ := h
    refine ⟨_, (pss_one (ps_fld (pv 0) (pe_ownC (ok_Page_init T) hr passN (pa_cons pe_dnewK (pa_cons (pe_tup pa_nil) (pa_cons pe_non pa_nil)))) rfl)), ?_⟩
    walk_at "w"
    intro d hd
    walk_at "w"
    refine ⟨by walk_at "sz", fun u hu => ?_⟩
    walk_at "w"
    intro x dxp hx hdx hne
    refine ⟨x, dxp, _, _, _, 0, rfl, upd_same, .inl ⟨rfl, rfl⟩, fun H2 kp e2 => ⟨rfl, ?_⟩⟩
    have s0 : Same H (upd (upd H d (.dK [])) u (.tup [])) := same_new hu (same_new hd (Same.refl _))
    have s1 : Same (upd (upd H d (.dK [])) u (.tup [])) H2 := fun b o e => kp b o (ne_of_none e hx) (at_mut (ne_of_none e hx) (at_new hdx e))
    have ea := s1 _ _ (s0 _ _ e)
    walk_at "w"
    refine w_sfldL ea T.k_Desk T.a_Desk_page (Nat.le_of_ble_eq_true rfl) ?_
    walk_at "w"
    have nxa : x ≠ a := fun z => by rw [z, s0 _ _ e] at hx; cases hx
    have nda : d ≠ a := fun z => by rw [z, e] at hd; cases hd
    have nua : u ≠ a := fun z => by rw [z, at_new hd e] at hu; cases hu
    have ed : H2 d = some (.dK []) := s1 _ _ (at_new hu upd_same)
    have eu : H2 u = some (.tup []) := s1 _ _ upd_same
    refine k _ (fun b o n h => at_mut n (s1 _ _ (s0 _ _ h))) ⟨dx, x, upd_same, dxp, d, u, .non, at_mut nxa e2, ⟨[], at_mut nda ed, .nil⟩, ⟨[], at_mut nua eu, .nil⟩, .inl ⟨rfl, rfl⟩⟩
end
end Bt

set_option Elab.async false
set_option linter.all false
set_option maxRecDepth 100000
set_option maxHeartbeats 4000000
/-! commands read -/
namespace Bt
open PySem L2 SX
set_option pp.maxSteps 900
local macro_rules | `(tactic| walk_at "lk") => `(tactic| first
  | assumption
  | exact upd_same
  | (refine at_new ?_ ?_; · assumption
     walk_at "lk")
  | (refine at_mut ?_ ?_; · assumption
     walk_at "lk")
  | (refine at_same ?_ ?_; · assumption
     walk_at "lk"))
local macro_rules | `(tactic| walk_at "w1") => `(tactic| with_reducible first
  | refine w_seq ?_ | refine w_asg ?_ | refine w_name ?_ | refine w_ret ?_ | refine w_retN ?_ | refine w_drop ?_ | refine w_next ?_
  | refine w_op ?_ | refine w_var rfl ?_ | refine w_c ?_ | refine w_un ?_ | refine w_test ?_ | refine w_tB ?_ | refine w_bl ?_ | refine w_chain ?_
  | refine w_and ?_ | refine w_or ?_ | refine w_not ?_ | refine w_andV ?_ | refine w_orV ?_ | refine w_notV ?_ | refine w_cons ?_ | refine w_nil ?_
  | refine w_par ?_ | refine w_parL ?_ | refine w_call ?_ | refine w_CB ?_ | refine w_prop ?_ | refine w_fld ?_ | refine w_meth ?_ | refine w_make ?_ | refine w_tup ?_ | refine w_lst ?_
  | refine w_I0 ?_ | refine w_U ?_ | refine w_addI ?_ | refine w_eqI ?_ | refine w_eqS ?_ | refine w_neI ?_ | refine w_neS ?_ | refine w_isN ?_ | refine w_notN ?_
  | refine w_tt ?_ | refine w_ff ?_ | refine w_nt ?_ | refine w_nf ?_ | refine w_ntt ?_ | refine w_att ?_ | refine w_js ?_ | refine w_jsN ?_ | refine w_fmtS ?_ | refine w_m1 ?_ | refine w_m1L ?_ | refine w_sfld ?_ | refine w_bm ?_ | refine w_dc ?_ | refine w_iIt ?_ | refine w_star ?_ | refine w_mkO ?_ | refine w_raise ?_ | refine w_osg ?_ | refine w_gfld ?_ | refine w_kget ?_ | refine w_dget ?_ | refine w_din ?_ | refine w_dnotin ?_ | refine w_slice ?_ | refine w_on ?_ | refine w_os ?_ | refine w_sub ?_ | refine w_bmN ?_ | refine w_intI ?_ | refine w_intB ?_ | refine w_strS ?_
  | refine w_lc ?_ | refine w_for ?_ | refine w_iL ?_ | refine w_iT ?_ | refine w_iS ?_ | refine w_iK ?_ | refine w_iR1 ?_ | refine w_iR3 ?_ | refine w_iET ?_ | refine w_srcS ?_)
local macro_rules | `(tactic| walk_at "w") => `(tactic| (repeat walk_at "w1"); try (with_reducible refine w_ifN ?_))
local macro_rules | `(tactic| walk_at "ws") => `(tactic| with_reducible first | refine w_seq ?_ | refine w_next ?_)
local macro_rules | `(tactic| walk_at "w2") => `(tactic| repeat with_reducible first | refine w_seq ?_ | refine w_asg ?_ | refine w_name ?_ | refine w_next ?_)
local macro_rules | `(tactic| walk_at "sz") => `(tactic| (rw [sizeLine_eq]; exact Nat.le_of_ble_eq_true rfl))
theorem same_but {H H' : Hp} {q : Addr} (hq : H q = none) (k : ∀ b, b ≠ q → H' b = H b) : Same H H' := fun b o e => (k b (ne_of_none e hq)).trans e
/-- a number's text -/
abbrev nTx (x : Int) : Str := Str.ofString (toString x)
theorem nTx_S {x : Int} (h : 0 ≤ x) : nTx x = S (TL.numL x.toNat) := by
  obtain ⟨n, rfl⟩ := Int.eq_ofNat_of_zero_le h
  exact num_S n
section
variable {P : Program} {w : World} {K : Frag} {mg : Str → Option Value} {base : Heap} {H : Hp} {Q : VK} {σ : L2.St}
def spNums : Sp := fun vs H Q _ => ∃ p m, ∃ xs : List Int, vs = [.ref p, .int m] ∧ H p = some (.lst ((xs.map nTx).map V.str)) ∧ (∀ x ∈ xs, 0 ≤ x ∧ x ≤ 10 ^ 20) ∧ 1 ≤ xs.length ∧ (xs.length : Int) ≤ m ∧ xs.length ≤ 20 ∧ ∀ q H', Same H H' → TN H' q (xs.map V.int) → Q (.ref q) H'
abbrev s_numbers_in : Stmt := top 96
theorem sc_numbers_in : FnScope ["words", "most", "found", "word"] ["words", "most"] (defScope s_numbers_in) := ⟨rfl, rfl, rfl, by decide +kernel, rfl, by decide +kernel, by decide +kernel⟩
theorem ok_numbers_in (T : Txt w K mg) : Own P w K mg base "numbers_in" 2 ["words", "most"] spNums := by
  refine own_of T.f_numbers_in sc_numbers_in (fun _ _ _ _ _ _ us hl => match us, hl with | [_, _], _ => rfl) (fun vs H Q E h => ?_) (fun f cdv A outer s H vs Q E hr h => ?_)
  · obtain ⟨p, m, xs, rfl, _⟩ := h; rfl
  · have sc := sc_numbers_in
    have hu64 := hr.units
    have hu65 := units65 hr
    obtain ⟨p, m, xs, rfl, e, rg, l1, lm, l20, k⟩ := h
    refine ⟨_, (pss_cons (ps_set (i := 2) sc.nd rfl (Or.inl rfl) (pe_callTy call_tuple_ofN (by rfl) T.b_tuple (by decide +kernel) (pa_cons (pe_lc (own := [("word", 3)]) rfl sc.nd (pi_list (pv 0)) (blkOk_by (by rfl)) (fun _ _ _ _ _ => (pg_name (i := 3) sc.nd rfl (Or.inl rfl))) (fun _ _ _ _ _ => pts_nil) (fun _ _ _ _ _ => (pe_own (ok_number_in T) hr passN (pa_cons (pv 3) (pa_cons (pe_gint T.i_MOST_HEIGHT) pa_nil))))) pa_nil)))
      (pss_one (ps_ret (pe_ifExp (PW.pt (pw_or (pt_cmpR (op_inDT (by exact hu65)) pe_non (pv 2) (by rfl)) (pw_or1 (pt_not (pt_chain op_le op_le pe_int (pe_callB (call_lenU) (by rfl) T.b_len (by decide +kernel) (pa_cons (pv 2) pa_nil)) (pv 1)))))) pe_non (pv 2))))), ?_⟩
    walk_at "w"
    refine w_srcL (SqL.of e) ?_
    refine w_lcG (yl_lst e) (fun D i ys H' => ys = (xs.take i).map V.int) (by rw [List.length_map, List.length_map]; omega) (fun _ => rfl) (fun D hD => rfl) (fun D hD i x ys H' hx s hy acc q hq => ?_) fun D H' ys hD s hy acc => ?_
    · rw [List.getElem?_map, List.getElem?_map] at hx
      cases hxi : xs[i]? with
      | none => rw [hxi] at hx; cases hx
      | some z =>
        rw [hxi] at hx
        cases hx
        have r := rg z (List.mem_of_getElem? hxi)
        walk_at "w"
        refine ⟨z.toNat, _, by rw [nTx_S r.1], by omega, by omega, fun H2 s2 => ?_⟩
        refine hq _ H2 s2 ?_
        rw [acc, List.take_add_one, hxi, List.map_append, Int.toNat_of_nonneg r.1]
        rfl
    · walk_at "w"
      rw [List.length_map, List.length_map, List.take_length] at acc
      subst acc
      refine ⟨D, _, rfl, SqL.of hy, fun q H2 hq kq tq => ?_⟩
      have s2 := same_but hq kq
      walk_at "w"
      have s3 := s.trans s2
      refine w_ifE ?_
      walk_at "w"
      refine ⟨.none, xs.map PyData.int, .non, dp_tupN tq, pl_ints xs, rfl, by rw [dep_ints]; exact Nat.le_trans (Nat.min_le_left _ _) (by decide), ?_⟩
      have hn : ∀ l : List Int, (l.map PyData.int).any (fun z => PyData.eqv z .none) = false := fun l => by
        induction l with
        | nil => rfl
        | cons a r ih => rw [List.map_cons, List.any_cons, ih]; rfl
      rw [hn]
      walk_at "w"
      refine w_lenN tq ?_
      walk_at "w"
      rw [List.length_map, decide_eq_true (show (1 : Int) ≤ (xs.length : Nat) by omega)]
      walk_at "w"
      rw [decide_eq_true lm]
      walk_at "w"
      exact k q _ s3 tq
end
end Bt

set_option Elab.async false
set_option linter.all false
set_option maxRecDepth 100000
set_option maxHeartbeats 4000000
/-! commands read: claims, frames, the rest -/
namespace Bt
open PySem L2 SX
set_option pp.maxSteps 900
local macro_rules | `(tactic| walk_at "lk") => `(tactic| first
  | assumption
  | exact upd_same
  | (refine at_new ?_ ?_; · assumption
     walk_at "lk")
  | (refine at_mut ?_ ?_; · assumption
     walk_at "lk")
  | (refine at_same ?_ ?_; · assumption
     walk_at "lk"))
local macro_rules | `(tactic| walk_at "w1") => `(tactic| with_reducible first
  | refine w_seq ?_ | refine w_asg ?_ | refine w_name ?_ | refine w_ret ?_ | refine w_retN ?_ | refine w_drop ?_ | refine w_next ?_
  | refine w_op ?_ | refine w_var rfl ?_ | refine w_c ?_ | refine w_un ?_ | refine w_test ?_ | refine w_tB ?_ | refine w_bl ?_ | refine w_chain ?_
  | refine w_and ?_ | refine w_or ?_ | refine w_not ?_ | refine w_andV ?_ | refine w_orV ?_ | refine w_notV ?_ | refine w_cons ?_ | refine w_nil ?_
  | refine w_par ?_ | refine w_parL ?_ | refine w_call ?_ | refine w_CB ?_ | refine w_prop ?_ | refine w_fld ?_ | refine w_meth ?_ | refine w_make ?_ | refine w_tup ?_ | refine w_lst ?_
  | refine w_I0 ?_ | refine w_U ?_ | refine w_addI ?_ | refine w_eqI ?_ | refine w_eqS ?_ | refine w_neI ?_ | refine w_neS ?_ | refine w_isN ?_ | refine w_notN ?_
  | refine w_tt ?_ | refine w_ff ?_ | refine w_nt ?_ | refine w_nf ?_ | refine w_ntt ?_ | refine w_att ?_ | refine w_js ?_ | refine w_jsN ?_ | refine w_fmtS ?_ | refine w_m1 ?_ | refine w_m1L ?_ | refine w_sfld ?_ | refine w_bm ?_ | refine w_dc ?_ | refine w_iIt ?_ | refine w_star ?_ | refine w_mkO ?_ | refine w_raise ?_ | refine w_osg ?_ | refine w_gfld ?_ | refine w_kget ?_ | refine w_dget ?_ | refine w_din ?_ | refine w_dnotin ?_ | refine w_slice ?_ | refine w_on ?_ | refine w_os ?_ | refine w_sub ?_ | refine w_bmN ?_ | refine w_intI ?_ | refine w_intB ?_ | refine w_strS ?_
  | refine w_lc ?_ | refine w_for ?_ | refine w_iL ?_ | refine w_iT ?_ | refine w_iS ?_ | refine w_iK ?_ | refine w_iR1 ?_ | refine w_iR3 ?_ | refine w_iET ?_ | refine w_srcS ?_)
local macro_rules | `(tactic| walk_at "w") => `(tactic| (repeat walk_at "w1"); try (with_reducible refine w_ifN ?_))
local macro_rules | `(tactic| walk_at "ws") => `(tactic| with_reducible first | refine w_seq ?_ | refine w_next ?_)
local macro_rules | `(tactic| walk_at "w2") => `(tactic| repeat with_reducible first | refine w_seq ?_ | refine w_asg ?_ | refine w_name ?_ | refine w_next ?_)
local macro_rules | `(tactic| walk_at "sz") => `(tactic| (rw [sizeLine_eq]; exact Nat.le_of_ble_eq_true rfl))
theorem cut_from (n : Nat) (xs : List V) : cutV xs (some (n : Int)) none = xs.drop n := by
  unfold cutV
  rw [HT.sIx_none, HT.sIx_nat]
  by_cases h : n ≤ xs.length
  · rw [show min n xs.length = n by omega, List.take_of_length_le (by rw [List.length_drop]; omega)]
  · rw [show min n xs.length = xs.length by omega, List.drop_length, List.drop_eq_nil_of_le (by omega), List.take_nil]
theorem cut_from1 (xs : List V) : cutV xs (some 1) none = xs.drop 1 := cut_from 1 xs
theorem cut_from2 (xs : List V) : cutV xs (some 2) none = xs.drop 2 := cut_from 2 xs
theorem cut_from3 (xs : List V) : cutV xs (some 3) none = xs.drop 3 := cut_from 3 xs
theorem cut_from4 (xs : List V) : cutV xs (some 4) none = xs.drop 4 := cut_from 4 xs
theorem cut_to1 (x : V) (xs : List V) : cutV (x :: xs) none (some 1) = [x] := by
  unfold cutV
  rw [HT.sIx_none, show (some (1 : Int)) = some ((1 : Nat) : Int) from rfl, HT.sIx_nat, List.length_cons, show min 1 (xs.length + 1) = 1 by omega]
  rfl
theorem atI_1 {v u : V} {ys : List V} : atI (v :: u :: ys) 1 = some u := atI_nat (j := 1) rfl
theorem atI_2 {v u x : V} {ys : List V} : atI (v :: u :: x :: ys) 2 = some x := atI_nat (j := 2) rfl
theorem atI_3 {v u x y : V} {ys : List V} : atI (v :: u :: x :: y :: ys) 3 = some y := atI_nat (j := 3) rfl
theorem dp_strs {K : Frag} {H : Hp} : ∀ ks : List Str, DpAll K H (ks.map V.str) (ks.map PyData.str)
  | [] => .nil
  | k :: r => .cons (.str k) (dp_strs r)
theorem pl_strs : ∀ ks : List Str, PyData.plainAll (ks.map PyData.str) = true
  | [] => rfl
  | k :: r => by simp only [List.map_cons, PyData.plainAll, PyData.plain, pl_strs r, Bool.and_self]
theorem dep_strs : ∀ ks : List Str, PyData.depthAll (ks.map PyData.str) = 0
  | [] => rfl
  | k :: r => by simp only [List.map_cons, PyData.depthAll, PyData.depth, dep_strs r, Nat.max_self]
theorem ev_strs : ∀ ks ls : List Str, PyData.eqvAll (ks.map PyData.str) (ls.map PyData.str) = decide (ks = ls)
  | [], [] => by simp [PyData.eqvAll]
  | [], _ :: _ => by simp [PyData.eqvAll]
  | _ :: _, [] => by simp [PyData.eqvAll]
  | k :: r, l :: t => by
    have ih := ev_strs r t
    simp only [List.map_cons, PyData.eqvAll, PyData.eqv, ih]
    by_cases e : k = l <;> simp [e]
section
variable {P : Program} {w : World} {K : Frag} {mg : Str → Option Value} {base : Heap} {H : Hp} {Q : VK} {σ : L2.St}
/-- two lists of texts -/
theorem w_eqLS {p q : Addr} {as bs : List Str} (e1 : H p = some (.lst (as.map V.str))) (e2 : H q = some (.lst (bs.map V.str))) (h : Q (.bl (decide (as = bs))) H) : rEqU K (.ref p) (.ref q) H Q :=
  w_eqD (.lst (SqL.of e1) (dp_strs as)) (.lst (SqL.of e2) (dp_strs bs)) (pl_strs as) (pl_strs bs) (Nat.le_trans (Nat.min_le_left _ _) (by simp only [PyData.depth, dep_strs]; decide)) (by
    simp only [PyData.eqv, ev_strs]; exact h)
theorem w_neLS {p q : Addr} {as bs : List Str} (e1 : H p = some (.lst (as.map V.str))) (e2 : H q = some (.lst (bs.map V.str))) (h : Q (.bl (!decide (as = bs))) H) : rNeU K (.ref p) (.ref q) H Q :=
  w_neD (.lst (SqL.of e1) (dp_strs as)) (.lst (SqL.of e2) (dp_strs bs)) (pl_strs as) (pl_strs bs) (Nat.le_trans (Nat.min_le_left _ _) (by simp only [PyData.depth, dep_strs]; decide)) (by
    simp only [PyData.eqv, ev_strs]; exact h)
def Wish.words : Wish → List Str
  | .wi a b => ["within", a, b]
  | .rank t xs n => "rank" :: t :: nTx n :: xs.map nTx
  | .al one t xs => (if one = true then "one" else "all") :: t :: xs.map nTx
theorem PlOk.rng {xs : List Int} (h : PlOk xs) : ∀ x ∈ xs, 0 ≤ x ∧ x ≤ 10 ^ 20 := fun x hx => by
  obtain ⟨i, h0, h1, rfl⟩ := mem_kat hx
  have := h.rg i h0 h1; omega
def spClaimIn : Sp := fun vs H Q _ => ∃ p c, vs = [.ref p] ∧ H p = some (.lst (c.words.map V.str)) ∧ WishOk c ∧ (∀ t ∈ c.titles, t ∈ names3) ∧ ∀ q H', Same H H' → WishAt H' q c → Q (.ref q) H'
abbrev s_claim_in : Stmt := top 98
theorem sc_claim_in : FnScope ["words", "places", "number"] ["words"] (defScope s_claim_in) := ⟨rfl, rfl, rfl, by decide +kernel, rfl, by decide +kernel, by decide +kernel⟩
theorem ok_claim_in (T : Txt w K mg) : Own P w K mg base "claim_in" 3 ["words"] spClaimIn := by
  refine own_of T.f_claim_in sc_claim_in (fun _ _ _ _ _ _ us hl => match us, hl with | [_], _ => rfl) (fun vs H Q E h => ?_) (fun f cdv A outer s H vs Q E hr h => ?_)
  · obtain ⟨p, c, rfl, _⟩ := h; rfl
  · have sc := sc_claim_in
    have hu64 := hr.units
    obtain ⟨p, c, rfl, e, wo, nm, k⟩ := h
    refine ⟨_, (pss_cons (ps_if (pt_cmpR (op_eqU (by exact hu64)) (pe_slice sl_U (pv 0) po_none (po_some pe_int)) (pe_lst (pa_cons pe_str pa_nil)) (nomark _)) (pss_one (ps_ret (pe_ifExp (PW.pt (pw_and (pt_cmpR (op_eqU (by exact hu64)) (pe_callB (call_lenU) (by rfl) T.b_len (by decide +kernel) (pa_cons (pv 0) pa_nil)) pe_int (nomark _)) (pw_and (pt_val (pe_own (ok_is_name T) hr passN (pa_cons (pe_ix ix_seq (pv 0) pe_int (fun _ _ => rfl)) pa_nil))) (pw_and1 (pt_val (pe_own (ok_is_name T) hr passN (pa_cons (pe_ix ix_seq (pv 0) pe_int (fun _ _ => rfl)) pa_nil))))))) (pe_tup (pa_cons pe_str (pa_cons (pe_ix ix_seq (pv 0) pe_int (fun _ _ => rfl)) (pa_cons (pe_ix ix_seq (pv 0) pe_int (fun _ _ => rfl)) pa_nil)))) pe_non))) pss_nil)
      (pss_cons (ps_if (PW.pt (pw_or (pt_cmpR op_lt (pe_callB (call_lenU) (by rfl) T.b_len (by decide +kernel) (pa_cons (pv 0) pa_nil)) pe_int (nomark _)) (pw_or1 (pt_not (pt_val (pe_own (ok_is_name T) hr passN (pa_cons (pe_ix ix_seq (pv 0) pe_int (fun _ _ => rfl)) pa_nil))))))) (pss_one (ps_ret pe_non)) pss_nil)
      (pss_cons (ps_if (pt_cmpR op_in_seq (pe_ix ix_seq (pv 0) pe_int (fun _ _ => rfl)) (pe_gref T.g_CLAIMS) (by rfl)) (pss_cons (ps_set (i := 1) sc.nd rfl (Or.inl rfl) (pe_own (ok_numbers_in T) hr passN (pa_cons (pe_slice sl_U (pv 0) (po_some pe_int) po_none) (pa_cons (pe_gint T.i_MOST_PLACES) pa_nil))))
      (pss_one (ps_ret (pe_ifExp (pt_cmpR op_isN (pv 1) pe_non (nomark _)) pe_non (pe_tup (pa_cons (pe_ix ix_seq (pv 0) pe_int (fun _ _ => rfl)) (pa_cons (pe_ix ix_seq (pv 0) pe_int (fun _ _ => rfl)) (pa_cons (pv 1) pa_nil)))))))) pss_nil)
      (pss_cons (ps_par (i := 2) (j := 1) (by rfl) sc.nd rfl rfl (by decide) rfl rfl (pa_cons (pe_own (ok_number_in T) hr passN (pa_cons (pe_ix ix_seq (pv 0) pe_int (fun _ _ => rfl)) (pa_cons (pe_gint T.i_MOST_HEIGHT) pa_nil))) (pa_cons (pe_own (ok_numbers_in T) hr passN (pa_cons (pe_slice sl_U (pv 0) (po_some pe_int) po_none) (pa_cons (pe_gint T.i_MOST_PLACES) pa_nil))) pa_nil)) (by rfl))
      (pss_cons (ps_if (PW.pt (pw_or (pt_cmpR (op_neU (by exact hu64)) (pe_ix ix_seq (pv 0) pe_int (fun _ _ => rfl)) pe_str (nomark _)) (pw_or (pt_cmpR op_isN (pv 2) pe_non (nomark _)) (pw_or1 (pt_cmpR op_isN (pv 1) pe_non (nomark _)))))) (pss_one (ps_ret pe_non)) pss_nil)
      (pss_one (ps_ret (pe_tup (pa_cons pe_str (pa_cons (pe_ix ix_seq (pv 0) pe_int (fun _ _ => rfl)) (pa_cons (pv 1) (pa_cons (pv 2) pa_nil)))))))))))), ?_⟩
    walk_at "w"
    cases c with
    | wi a b =>
      obtain ⟨a1, a2, a3⟩ := name_ok (nm a (by simp [Wish.titles]))
      obtain ⟨b1, b2, b3⟩ := name_ok (nm b (by simp [Wish.titles]))
      have e : H p = some (.lst [.str "within", .str a, .str b]) := e
      refine w_ifg true (fun q hq => ?_) (fun _ H1 s1 => ?_) (fun c => nomatch c)
      · walk_at "w"
        refine w_osL ?_
        refine w_slL (SqL.of e) fun q1 h1 => ?_
        rw [cut_to1]
        walk_at "w"
        refine ⟨by walk_at "sz", fun q2 h2 => ?_⟩
        refine w_eqLS (as := ["within"]) (bs := ["within"]) (at_new h2 upd_same) upd_same ?_
        rw [decide_eq_true rfl]
        walk_at "w"
        exact hq _ (same_new h2 (same_new h1 (Same.refl _)))
      · have e1 := s1 _ _ e
        walk_at "w"
        refine w_ifE ?_
        walk_at "w"
        refine w_lenL e1 ?_
        walk_at "w"
        rw [show decide ((([V.str "within", .str a, .str b] : List V).length : Int) = 3) = true from rfl]
        walk_at "w"
        refine w_ixLa e1 atI_1 ?_
        walk_at "w"
        refine ⟨a, rfl, a1, a2, a3, fun H2 s2 => ?_⟩
        walk_at "w"
        refine w_ixLa (s2 _ _ e1) atI_2 ?_
        walk_at "w"
        refine ⟨b, rfl, b1, b2, b3, fun H3 s3 => ?_⟩
        have e3 := s3 _ _ (s2 _ _ e1)
        walk_at "w"
        refine w_ixLa e3 atI_1 ?_
        walk_at "w"
        refine w_ixLa e3 atI_2 ?_
        walk_at "w"
        refine ⟨by walk_at "sz", fun q hq => ?_⟩
        walk_at "w"
        exact k q _ (same_new hq ((s1.trans s2).trans s3)) upd_same
    | rank t xs n =>
      obtain ⟨a1, a2, a3⟩ := name_ok (nm t (by simp [Wish.titles]))
      have e : H p = some (.lst (.str "rank" :: .str t :: .str (nTx n) :: (xs.map nTx).map V.str)) := e
      refine w_ifg false (fun q hq => ?_) (fun c => nomatch c) (fun _ H1 s1 => ?_)
      · walk_at "w"
        refine w_osL ?_
        refine w_slL (SqL.of e) fun q1 h1 => ?_
        rw [cut_to1]
        walk_at "w"
        refine ⟨by walk_at "sz", fun q2 h2 => ?_⟩
        refine w_eqLS (as := ["rank"]) (bs := ["within"]) (at_new h2 upd_same) upd_same ?_
        rw [show decide ([("rank" : Str)] = [("within" : Str)]) = false by decide]
        walk_at "w"
        exact hq _ (same_new h2 (same_new h1 (Same.refl _)))
      · walk_at "w"
        refine w_ifg false (fun q hq => ?_) (fun c => nomatch c) (fun _ H2 s2 => ?_)
        · walk_at "w"
          refine w_lenL (s1 _ _ e) ?_
          walk_at "w"
          rw [decide_eq_false (by simp only [List.length_cons]; omega)]
          walk_at "w"
          refine w_ixLa (s1 _ _ e) atI_1 ?_
          walk_at "w"
          refine ⟨t, rfl, a1, a2, a3, fun H3 s3 => ?_⟩
          walk_at "w"
          exact hq _ s3
        · have s12 := s1.trans s2
          walk_at "w"
          refine w_ifb false (fun q hq => ?_) (fun c => nomatch c) (fun _ => ?_)
          · walk_at "w"
            refine w_ixLa (s12 _ _ e) atI_0 ?_
            walk_at "w"
            refine ⟨_, _, rfl, .inr (T.t_CLAIMS _), rfl, rfl, ?_⟩
            rw [show (if false = true then !inV (V.str "rank") [V.str "all", V.str "one"] else inV (V.str "rank") [V.str "all", V.str "one"]) = false by decide]
            walk_at "w"
            exact hq
          · walk_at "w"
            refine w_ixLa (s12 _ _ e) atI_2 ?_
            walk_at "w"
            have wn := wo.2
            refine ⟨n.toNat, _, by rw [nTx_S wn.1], by omega, by omega, fun H3 s3 => ?_⟩
            rw [Int.toNat_of_nonneg wn.1]
            have s13 := s12.trans s3
            walk_at "w"
            refine w_osL ?_
            walk_at "w"
            refine w_slL (SqL.of (s13 _ _ e)) fun q1 h1 => ?_
            rw [cut_from3]
            walk_at "w"
            have s14 := same_new (o := .lst ((.str "rank" :: .str t :: .str (nTx n) :: (xs.map nTx).map V.str).drop 3)) h1 s13
            refine ⟨q1, _, xs, rfl, upd_same, wo.1.rng, wo.1.l1, by have := wo.1.l12; omega, by have := wo.1.l12; omega, fun q2 H4 s4 tq => ?_⟩
            have s15 := s14.trans s4
            walk_at "w"
            refine w_ifb false (fun q hq => ?_) (fun c => nomatch c) (fun _ => ?_)
            · walk_at "w"
              refine w_ixLa (s15 _ _ e) atI_0 ?_
              walk_at "w"
              rw [show decide (("rank" : Str) = "rank") = true by decide]
              walk_at "w"
              refine ⟨rfl, ?_⟩
              rw [decide_eq_false (fun z => nomatch z)]
              walk_at "w"
              refine ⟨rfl, ?_⟩
              rw [decide_eq_false (fun z => nomatch z)]
              walk_at "w"
              exact hq
            · walk_at "w"
              refine w_ixLa (s15 _ _ e) atI_1 ?_
              walk_at "w"
              refine ⟨by walk_at "sz", fun q hq => ?_⟩
              walk_at "w"
              exact k q _ (same_new hq s15) ⟨q2, upd_same, tq.new hq⟩
    | al one t xs =>
      obtain ⟨a1, a2, a3⟩ := name_ok (nm t (by simp [Wish.titles]))
      generalize hh : (if one = true then "one" else "all" : Str) = hd
      have e : H p = some (.lst (.str hd :: .str t :: (xs.map nTx).map V.str)) := by rw [← hh]; exact e
      have hw : hd ≠ "within" := by rw [← hh]; cases one <;> decide
      have hi : inV (V.str hd) [V.str "all", V.str "one"] = true := by rw [← hh]; cases one <;> decide
      refine w_ifg false (fun q hq => ?_) (fun c => nomatch c) (fun _ H1 s1 => ?_)
      · walk_at "w"
        refine w_osL ?_
        refine w_slL (SqL.of e) fun q1 h1 => ?_
        rw [cut_to1]
        walk_at "w"
        refine ⟨by walk_at "sz", fun q2 h2 => ?_⟩
        refine w_eqLS (as := [hd]) (bs := [("within" : Str)]) (at_new h2 upd_same) upd_same ?_
        rw [decide_eq_false (fun z => hw (List.head_eq_of_cons_eq z))]
        walk_at "w"
        exact hq _ (same_new h2 (same_new h1 (Same.refl _)))
      · walk_at "w"
        refine w_ifg false (fun q hq => ?_) (fun c => nomatch c) (fun _ H2 s2 => ?_)
        · walk_at "w"
          refine w_lenL (s1 _ _ e) ?_
          walk_at "w"
          rw [decide_eq_false (by simp only [List.length_cons, List.length_map]; have := wo.l1; omega)]
          walk_at "w"
          refine w_ixLa (s1 _ _ e) atI_1 ?_
          walk_at "w"
          refine ⟨t, rfl, a1, a2, a3, fun H3 s3 => ?_⟩
          walk_at "w"
          exact hq _ s3
        · have s12 := s1.trans s2
          walk_at "w"
          refine w_ifb true (fun q hq => ?_) (fun _ => ?_) (fun c => nomatch c)
          · walk_at "w"
            refine w_ixLa (s12 _ _ e) atI_0 ?_
            walk_at "w"
            refine ⟨_, _, rfl, .inr (T.t_CLAIMS _), rfl, rfl, ?_⟩
            rw [if_neg Bool.false_ne_true, hi]
            walk_at "w"
            exact hq
          · walk_at "w"
            refine w_osL ?_
            walk_at "w"
            refine w_slL (SqL.of (s12 _ _ e)) fun q1 h1 => ?_
            rw [cut_from2]
            walk_at "w"
            have s14 := same_new (o := .lst ((.str hd :: .str t :: (xs.map nTx).map V.str).drop 2)) h1 s12
            refine ⟨q1, _, xs, rfl, upd_same, wo.rng, wo.l1, by have := wo.l12; omega, by have := wo.l12; omega, fun q2 H4 s4 tq => ?_⟩
            have s15 := s14.trans s4
            walk_at "w"
            refine w_ifE ?_
            walk_at "w"
            refine ⟨rfl, ?_⟩
            rw [decide_eq_false (fun z => nomatch z)]
            walk_at "w"
            refine w_ixLa (s15 _ _ e) atI_0 ?_
            walk_at "w"
            refine w_ixLa (s15 _ _ e) atI_1 ?_
            walk_at "w"
            refine ⟨by walk_at "sz", fun q hq => ?_⟩
            walk_at "w"
            exact k q _ (same_new hq s15) ⟨q2, by rw [hh]; exact upd_same, tq.new hq⟩
def spPutIn : Sp := fun vs H Q _ => ∃ p t d ks, vs = [.ref p] ∧ H p = some (.lst ((t :: ("degree" : Str) :: nTx d :: ("knots" : Str) :: ks.map nTx).map V.str)) ∧ t ∈ names3 ∧ PlanOk d ks ∧
  ∀ q s H', Same H H' → H' q = some (.tup [.str t, .int d, .ref s]) → TN H' s (ks.map V.int) → Q (.ref q) H'
abbrev s_put_in_words : Stmt := top 99
theorem sc_put_in_words : FnScope ["words", "degree", "knots"] ["words"] (defScope s_put_in_words) := ⟨rfl, rfl, rfl, by decide +kernel, rfl, by decide +kernel, by decide +kernel⟩
theorem ok_put_in_words (T : Txt w K mg) : Own P w K mg base "put_in_words" 3 ["words"] spPutIn := by
  refine own_of T.f_put_in_words sc_put_in_words (fun _ _ _ _ _ _ us hl => match us, hl with | [_], _ => rfl) (fun vs H Q E h => ?_) (fun f cdv A outer s H vs Q E hr h => ?_)
  · obtain ⟨p, t, d, ks, rfl, _⟩ := h; rfl
  · have sc := sc_put_in_words
    have hu64 := hr.units
    obtain ⟨p, t, d, ks, rfl, e, nm, ok, k⟩ := h
    obtain ⟨a1, a2, a3⟩ := name_ok nm
    have e : H p = some (.lst (.str t :: .str "degree" :: .str (nTx d) :: .str "knots" :: (ks.map nTx).map V.str)) := e
    have l0 := ok.l0; have l1 := ok.l1; have d0 := ok.d0; have d4 := ok.d4
    refine ⟨_, (pss_cons (ps_if (PW.pt (pw_or (pt_cmpR op_lt (pe_callB (call_lenU) (by rfl) T.b_len (by decide +kernel) (pa_cons (pv 0) pa_nil)) pe_int (nomark _)) (pw_or (pt_not (pt_val (pe_own (ok_is_name T) hr passN (pa_cons (pe_ix ix_seq (pv 0) pe_int (fun _ _ => rfl)) pa_nil)))) (pw_or1 (pt_cmpR (op_neU (by exact hu64)) (pe_lst (pa_cons (pe_ix ix_seq (pv 0) pe_int (fun _ _ => rfl)) (pa_cons (pe_ix ix_seq (pv 0) pe_int (fun _ _ => rfl)) pa_nil))) (pe_lst (pa_cons pe_str (pa_cons pe_str pa_nil))) (nomark _)))))) (pss_one (ps_ret pe_non)) pss_nil)
      (pss_cons (ps_par (i := 1) (j := 2) (by rfl) sc.nd rfl rfl (by decide) rfl rfl (pa_cons (pe_own (ok_number_in T) hr passN (pa_cons (pe_ix ix_seq (pv 0) pe_int (fun _ _ => rfl)) (pa_cons (pe_gint T.i_MOST_HEIGHT) pa_nil))) (pa_cons (pe_own (ok_numbers_in T) hr passN (pa_cons (pe_slice sl_U (pv 0) (po_some pe_int) po_none) (pa_cons (pe_gint T.i_MOST_NUMBERS) pa_nil))) pa_nil)) (by rfl))
      (pss_one (ps_ret (pe_ifExp (PW.pt (pw_or (pt_cmpR op_isN (pv 1) pe_non (nomark _)) (pw_or1 (pt_cmpR op_isN (pv 2) pe_non (nomark _))))) pe_non (pe_tup (pa_cons (pe_ix ix_seq (pv 0) pe_int (fun _ _ => rfl)) (pa_cons (pv 1) (pa_cons (pv 2) pa_nil))))))))), ?_⟩
    walk_at "w"
    refine w_ifg false (fun q hq => ?_) (fun c => nomatch c) (fun _ H1 s1 => ?_)
    · walk_at "w"
      refine w_lenL e ?_
      walk_at "w"
      rw [decide_eq_false (by simp only [List.length_cons, List.length_map]; omega)]
      walk_at "w"
      refine w_ixLa e atI_0 ?_
      walk_at "w"
      refine ⟨t, rfl, a1, a2, a3, fun H1 s1 => ?_⟩
      walk_at "w"
      refine w_ixLa (s1 _ _ e) atI_1 ?_
      walk_at "w"
      refine w_ixLa (s1 _ _ e) atI_3 ?_
      walk_at "w"
      refine ⟨by walk_at "sz", fun q1 h1 => ?_⟩
      walk_at "w"
      refine ⟨by walk_at "sz", fun q2 h2 => ?_⟩
      refine w_neLS (as := ["degree", "knots"]) (bs := ["degree", "knots"]) (at_new h2 upd_same) upd_same ?_
      rw [decide_eq_true rfl]
      walk_at "w"
      exact hq _ (same_new h2 (same_new h1 s1))
    · walk_at "w"
      refine w_ixLa (s1 _ _ e) atI_2 ?_
      walk_at "w"
      refine ⟨d.toNat, _, by rw [nTx_S d0], by omega, by omega, fun H3 s3 => ?_⟩
      rw [Int.toNat_of_nonneg d0]
      have s13 := s1.trans s3
      walk_at "w"
      refine w_osL ?_
      walk_at "w"
      refine w_slL (SqL.of (s13 _ _ e)) fun q1 h1 => ?_
      rw [cut_from4]
      walk_at "w"
      have s14 := same_new (o := .lst ((.str t :: .str "degree" :: .str (nTx d) :: .str "knots" :: (ks.map nTx).map V.str).drop 4)) h1 s13
      refine ⟨q1, _, ks, rfl, upd_same, fun x hx => ?_, by omega, by omega, by omega, fun q2 H4 s4 tq => ?_⟩
      · obtain ⟨i, i0, i1, rfl⟩ := mem_kat hx
        have := ok.rg i i0 i1; omega
      have s15 := s14.trans s4
      walk_at "w"
      refine w_ifE ?_
      walk_at "w"
      refine ⟨rfl, ?_⟩
      rw [decide_eq_false (fun z => nomatch z)]
      walk_at "w"
      refine ⟨rfl, ?_⟩
      rw [decide_eq_false (fun z => nomatch z)]
      walk_at "w"
      refine w_ixLa (s15 _ _ e) atI_0 ?_
      walk_at "w"
      refine ⟨by walk_at "sz", fun q hq => ?_⟩
      walk_at "w"
      exact k q q2 _ (same_new hq s15) upd_same (tq.new hq)
inductive Cmd where
  | put (t : Str) (d : Int) (ks : List Int)
  | drop (t : Str)
  | lift (i : Nat)
  | undo
  | names
  | claims
  | shw (t : Str)
  | claim (c : Wish)
def Cmd.words : Cmd → List Str
  | .put t d ks => "put" :: t :: "degree" :: nTx d :: "knots" :: ks.map nTx
  | .drop t => ["drop", t]
  | .lift i => ["lift", nTx (i : Nat)]
  | .undo => ["undo"]
  | .names => ["names"]
  | .claims => ["claims"]
  | .shw t => ["show", t]
  | .claim c => "claim" :: c.words
def CmdOk : Cmd → Prop
  | .put t d ks => t ∈ names3 ∧ PlanOk d ks
  | .drop t => t ∈ names3
  | .lift i => i ≤ 1000
  | .shw t => t ∈ names3
  | .claim c => WishOk c ∧ ∀ t ∈ c.titles, t ∈ names3
  | _ => True
def PartsAt (H : Hp) (q : Addr) : Cmd → Prop
  | .put t d ks => ∃ s, H q = some (.tup [.str t, .int d, .ref s]) ∧ TN H s (ks.map V.int)
  | .drop t => H q = some (.tup [.str t])
  | .lift i => H q = some (.tup [.int (i : Nat)])
  | .shw t => H q = some (.tup [.str t])
  | .claim c => ∃ a, H q = some (.tup [.ref a]) ∧ WishAt H a c
  | _ => H q = some (.tup [])
def isShort : Cmd → Prop
  | .put _ _ _ => False
  | .claim _ => False
  | _ => True
end
end Bt

set_option Elab.async false
set_option linter.all false
set_option maxRecDepth 100000
set_option maxHeartbeats 4000000
/-! commands read: short ones, all -/
namespace Bt
open PySem L2 SX
set_option pp.maxSteps 900
local macro_rules | `(tactic| walk_at "lk") => `(tactic| first
  | assumption
  | exact upd_same
  | (refine at_new ?_ ?_; · assumption
     walk_at "lk")
  | (refine at_mut ?_ ?_; · assumption
     walk_at "lk")
  | (refine at_same ?_ ?_; · assumption
     walk_at "lk"))
local macro_rules | `(tactic| walk_at "w1") => `(tactic| with_reducible first
  | refine w_seq ?_ | refine w_asg ?_ | refine w_name ?_ | refine w_ret ?_ | refine w_retN ?_ | refine w_drop ?_ | refine w_next ?_
  | refine w_op ?_ | refine w_var rfl ?_ | refine w_c ?_ | refine w_un ?_ | refine w_test ?_ | refine w_tB ?_ | refine w_bl ?_ | refine w_chain ?_
  | refine w_and ?_ | refine w_or ?_ | refine w_not ?_ | refine w_andV ?_ | refine w_orV ?_ | refine w_notV ?_ | refine w_cons ?_ | refine w_nil ?_
  | refine w_par ?_ | refine w_parL ?_ | refine w_call ?_ | refine w_CB ?_ | refine w_prop ?_ | refine w_fld ?_ | refine w_meth ?_ | refine w_make ?_ | refine w_tup ?_ | refine w_lst ?_
  | refine w_I0 ?_ | refine w_U ?_ | refine w_addI ?_ | refine w_eqI ?_ | refine w_eqS ?_ | refine w_neI ?_ | refine w_neS ?_ | refine w_isN ?_ | refine w_notN ?_
  | refine w_tt ?_ | refine w_ff ?_ | refine w_nt ?_ | refine w_nf ?_ | refine w_ntt ?_ | refine w_att ?_ | refine w_js ?_ | refine w_jsN ?_ | refine w_fmtS ?_ | refine w_m1 ?_ | refine w_m1L ?_ | refine w_sfld ?_ | refine w_bm ?_ | refine w_dc ?_ | refine w_iIt ?_ | refine w_star ?_ | refine w_mkO ?_ | refine w_raise ?_ | refine w_osg ?_ | refine w_gfld ?_ | refine w_kget ?_ | refine w_dget ?_ | refine w_din ?_ | refine w_dnotin ?_ | refine w_slice ?_ | refine w_on ?_ | refine w_os ?_ | refine w_sub ?_ | refine w_bmN ?_ | refine w_intI ?_ | refine w_intB ?_ | refine w_strS ?_
  | refine w_lc ?_ | refine w_for ?_ | refine w_iL ?_ | refine w_iT ?_ | refine w_iS ?_ | refine w_iK ?_ | refine w_iR1 ?_ | refine w_iR3 ?_ | refine w_iET ?_ | refine w_srcS ?_)
local macro_rules | `(tactic| walk_at "w") => `(tactic| (repeat walk_at "w1"); try (with_reducible refine w_ifN ?_))
local macro_rules | `(tactic| walk_at "ws") => `(tactic| with_reducible first | refine w_seq ?_ | refine w_next ?_)
local macro_rules | `(tactic| walk_at "w2") => `(tactic| repeat with_reducible first | refine w_seq ?_ | refine w_asg ?_ | refine w_name ?_ | refine w_next ?_)
local macro_rules | `(tactic| walk_at "sz") => `(tactic| (rw [sizeLine_eq]; exact Nat.le_of_ble_eq_true rfl))
section
variable {P : Program} {w : World} {K : Frag} {mg : Str → Option Value} {base : Heap} {H : Hp} {Q : VK} {σ : L2.St}
/-- a list of texts among three lists of one text -/
theorem w_in3 {p q a b c : Addr} {as : List Str} {x y z : Str} (e : H p = some (.lst (as.map V.str))) (e1 : H a = some (.lst [.str x])) (e2 : H b = some (.lst [.str y])) (e3 : H c = some (.lst [.str z])) (eq : H q = some (.tup [.ref a, .ref b, .ref c]))
    (h : Q (.bl (decide (as = [x]) || (decide (as = [y]) || (decide (as = [z]))))) H) : rInDT K (.ref p) (.ref q) H Q := by
  have one : ∀ {a : Addr} {x : Str}, H a = some (.lst [.str x]) → Dp K H (.ref a) (.list [.str x]) := fun e => .lst (SqL.of e) (.cons (.str _) .nil)
  have ev : ∀ x : Str, PyData.eqv (.list [.str x]) (.list (as.map PyData.str)) = decide (as = [x]) := fun x => by
    have z := ev_strs [x] as
    simp only [List.map_cons, List.map_nil] at z
    simp only [PyData.eqv, z]
    by_cases t : as = [x]
    · simp [t]
    · rw [decide_eq_false t, decide_eq_false (Ne.symm t)]
  refine ⟨.list (as.map PyData.str), [.list [.str x], .list [.str y], .list [.str z]], .lst (SqL.of e) (dp_strs as), .tup (SqT.of eq) (.cons (one e1) (.cons (one e2) (.cons (one e3) .nil))), rfl, pl_strs as, ?_, ?_⟩
  · exact Nat.le_trans (Nat.min_le_right _ _) (by simp only [PyData.depth, dep_strs]; decide)
  · simp only [List.any_cons, List.any_nil, ev, Bool.or_false]
    exact h
def spShort : Sp := fun vs H Q _ => ∃ p c, vs = [.ref p] ∧ H p = some (.lst (c.words.map V.str)) ∧ CmdOk c ∧ isShort c ∧ ∀ q H', Same H H' → PartsAt H' q c → Q (.ref q) H'
abbrev s_short_in : Stmt := top 101
theorem sc_short_in : FnScope ["words", "number"] ["words"] (defScope s_short_in) := ⟨rfl, rfl, rfl, by decide +kernel, rfl, by decide +kernel, by decide +kernel⟩
theorem ok_short_in (T : Txt w K mg) : Own P w K mg base "short_in" 3 ["words"] spShort := by
  refine own_of T.f_short_in sc_short_in (fun _ _ _ _ _ _ us hl => match us, hl with | [_], _ => rfl) (fun vs H Q E h => ?_) (fun f cdv A outer s H vs Q E hr h => ?_)
  · obtain ⟨p, c, rfl, _⟩ := h; rfl
  · have sc := sc_short_in
    have hu64 := hr.units
    have hu65 := units65 hr
    obtain ⟨p, c, rfl, e, co, sh, k⟩ := h
    refine ⟨_, (pss_cons (ps_if (pt_cmpR (op_inDT (by exact hu65)) (pv 0) (pe_tup (pa_cons (pe_lst (pa_cons pe_str pa_nil)) (pa_cons (pe_lst (pa_cons pe_str pa_nil)) (pa_cons (pe_lst (pa_cons pe_str pa_nil)) pa_nil)))) (by rfl)) (pss_one (ps_ret (pe_tup pa_nil))) pss_nil)
      (pss_cons (ps_if (pt_cmpR (op_neU (by exact hu64)) (pe_callB (call_lenU) (by rfl) T.b_len (by decide +kernel) (pa_cons (pv 0) pa_nil)) pe_int (nomark _)) (pss_one (ps_ret pe_non)) pss_nil)
      (pss_cons (ps_if (pt_cmpR (op_eqU (by exact hu64)) (pe_ix ix_seq (pv 0) pe_int (fun _ _ => rfl)) pe_str (nomark _)) (pss_cons (ps_set (i := 1) sc.nd rfl (Or.inl rfl) (pe_own (ok_number_in T) hr passN (pa_cons (pe_ix ix_seq (pv 0) pe_int (fun _ _ => rfl)) (pa_cons (pe_gint T.i_MOST_HEIGHT) pa_nil))))
      (pss_one (ps_ret (pe_ifExp (pt_cmpR op_isN (pv 1) pe_non (nomark _)) pe_non (pe_tup (pa_cons (pv 1) pa_nil)))))) pss_nil)
      (pss_one (ps_ret (pe_ifExp (PW.pt (pw_and (pt_cmpR op_in_seq (pe_ix ix_seq (pv 0) pe_int (fun _ _ => rfl)) (pe_tup (pa_cons pe_str (pa_cons pe_str pa_nil))) (by rfl)) (pw_and1 (pt_val (pe_own (ok_is_name T) hr passN (pa_cons (pe_ix ix_seq (pv 0) pe_int (fun _ _ => rfl)) pa_nil)))))) (pe_tup (pa_cons (pe_ix ix_seq (pv 0) pe_int (fun _ _ => rfl)) pa_nil)) pe_non)))))), ?_⟩
    walk_at "w"
    refine w_ifg (decide (c.words = [("undo" : Str)]) || (decide (c.words = [("names" : Str)]) || (decide (c.words = [("claims" : Str)])))) (fun q hq => ?_) (fun cc H1 s1 => ?_) (fun cc H1 s1 => ?_)
    · walk_at "w"
      refine ⟨by walk_at "sz", fun a ha => ?_⟩
      walk_at "w"
      refine ⟨by walk_at "sz", fun b hb => ?_⟩
      walk_at "w"
      refine ⟨by walk_at "sz", fun d hd => ?_⟩
      walk_at "w"
      refine ⟨by walk_at "sz", fun u hu => ?_⟩
      have sa := same_new (o := .lst [.str "undo"]) ha (Same.refl _)
      have sb := same_new (o := .lst [.str "names"]) hb (Same.refl _)
      have sd := same_new (o := .lst [.str "claims"]) hd (Same.refl _)
      have su := same_new (o := .tup [.ref a, .ref b, .ref d]) hu (Same.refl _)
      refine w_in3 (as := c.words) (su _ _ (sd _ _ (sb _ _ (sa _ _ e)))) (su _ _ (sd _ _ (sb _ _ upd_same))) (su _ _ (sd _ _ upd_same)) (su _ _ upd_same) upd_same ?_
      walk_at "w"
      exact hq _ (((sa.trans sb).trans sd).trans su)
    · walk_at "w"
      refine ⟨by walk_at "sz", fun u hu => ?_⟩
      have su := same_new (o := .tup []) hu s1
      walk_at "w"
      refine k u _ su ?_
      cases c with
      | undo => exact upd_same
      | names => exact upd_same
      | claims => exact upd_same
      | put t d ks => exact sh.elim
      | claim c => exact sh.elim
      | drop t => simp [Cmd.words] at cc
      | lift i => simp [Cmd.words] at cc
      | shw t => simp [Cmd.words] at cc
    · have two : ∃ x y : Str, c.words = [x, y] := by
        cases c with
        | undo => simp [Cmd.words] at cc
        | names => simp [Cmd.words] at cc
        | claims => simp [Cmd.words] at cc
        | put t d ks => exact sh.elim
        | claim c => exact sh.elim
        | drop t => exact ⟨_, _, rfl⟩
        | lift i => exact ⟨_, _, rfl⟩
        | shw t => exact ⟨_, _, rfl⟩
      obtain ⟨x, y, exy⟩ := two
      have e1 : H1 p = some (.lst [.str x, .str y]) := by have := s1 _ _ e; rw [exy] at this; exact this
      walk_at "w"
      refine w_ifb false (fun q hq => ?_) (fun c => nomatch c) fun _ => ?_
      · walk_at "w"
        refine w_lenL e1 ?_
        walk_at "w"
        exact hq
      · walk_at "w"
        refine w_ifb (decide (x = "lift")) (fun q hq => ?_) (fun c1 => ?_) (fun c1 => ?_)
        · walk_at "w"
          refine w_ixLa e1 atI_0 ?_
          walk_at "w"
          exact hq
        · have hx : x = "lift" := of_decide_eq_true c1
          cases c with
          | lift i =>
            obtain ⟨rfl, rfl⟩ : x = "lift" ∧ y = nTx (i : Nat) := by simp [Cmd.words] at exy; exact ⟨exy.1.symm, exy.2.symm⟩
            have hi : i ≤ 1000 := co
            walk_at "w"
            refine w_ixLa e1 atI_1 ?_
            walk_at "w"
            refine ⟨i, _, by rw [nTx_S (by omega)]; rfl, by omega, by omega, fun H2 s2 => ?_⟩
            walk_at "w"
            refine w_ifE ?_
            walk_at "w"
            refine ⟨rfl, ?_⟩
            rw [decide_eq_false (fun z => nomatch z)]
            walk_at "w"
            refine ⟨by walk_at "sz", fun u hu => ?_⟩
            walk_at "w"
            exact k u _ (same_new hu (s1.trans s2)) upd_same
          | drop t => simp [Cmd.words] at exy; rw [← exy.1] at hx; exact absurd hx (by decide)
          | shw t => simp [Cmd.words] at exy; rw [← exy.1] at hx; exact absurd hx (by decide)
          | undo => simp [Cmd.words] at cc
          | names => simp [Cmd.words] at cc
          | claims => simp [Cmd.words] at cc
          | put t d ks => exact sh.elim
          | claim c => exact sh.elim
        · have hx : x ≠ "lift" := of_decide_eq_false c1
          have got : (x = "drop" ∨ x = "show") ∧ y ∈ names3 ∧ ∀ q H', H' q = some (.tup [.str y]) → PartsAt H' q c := by
            cases c with
            | drop t => simp [Cmd.words] at exy; obtain ⟨rfl, rfl⟩ := exy; exact ⟨.inl rfl, co, fun q H' h => h⟩
            | shw t => simp [Cmd.words] at exy; obtain ⟨rfl, rfl⟩ := exy; exact ⟨.inr rfl, co, fun q H' h => h⟩
            | lift i => simp [Cmd.words] at exy; exact absurd exy.1.symm hx
            | undo => simp [Cmd.words] at cc
            | names => simp [Cmd.words] at cc
            | claims => simp [Cmd.words] at cc
            | put t d ks => exact sh.elim
            | claim c => exact sh.elim
          obtain ⟨gx, gn, gp⟩ := got
          obtain ⟨a1, a2, a3⟩ := name_ok gn
          walk_at "w"
          refine w_ifE ?_
          walk_at "w"
          refine w_ixLa e1 atI_0 ?_
          walk_at "w"
          refine ⟨by walk_at "sz", fun v hv => ?_⟩
          have sv := same_new (o := .tup [.str "drop", .str "show"]) hv (Same.refl _)
          refine ⟨v, _, rfl, .inr (SqT.of upd_same), rfl, rfl, ?_⟩
          rw [if_neg Bool.false_ne_true, show inV (V.str x) [V.str "drop", V.str "show"] = true by rcases gx with rfl | rfl <;> decide]
          walk_at "w"
          refine w_ixLa (sv _ _ e1) atI_1 ?_
          walk_at "w"
          refine ⟨y, rfl, a1, a2, a3, fun H2 s2 => ?_⟩
          walk_at "w"
          refine w_ixLa (s2 _ _ (sv _ _ e1)) atI_1 ?_
          walk_at "w"
          refine ⟨by walk_at "sz", fun u hu => ?_⟩
          walk_at "w"
          exact k u _ (same_new hu ((s1.trans sv).trans s2)) (gp _ _ upd_same)
def spParts : Sp := fun vs H Q _ => ∃ p c, vs = [.ref p] ∧ H p = some (.lst (c.words.map V.str)) ∧ CmdOk c ∧ ∀ q H', Same H H' → PartsAt H' q c → Q (.ref q) H'
/-- the head of a command -/
def Cmd.head : Cmd → Str
  | .put _ _ _ => "put"
  | .drop _ => "drop"
  | .lift _ => "lift"
  | .undo => "undo"
  | .names => "names"
  | .claims => "claims"
  | .shw _ => "show"
  | .claim _ => "claim"
theorem Cmd.words_head : ∀ c : Cmd, ∃ r, c.words.map V.str = .str c.head :: r
  | .put _ _ _ => ⟨_, rfl⟩
  | .drop _ => ⟨_, rfl⟩
  | .lift _ => ⟨_, rfl⟩
  | .undo => ⟨_, rfl⟩
  | .names => ⟨_, rfl⟩
  | .claims => ⟨_, rfl⟩
  | .shw _ => ⟨_, rfl⟩
  | .claim _ => ⟨_, rfl⟩
abbrev s_parts_in : Stmt := top 102
theorem sc_parts_in : FnScope ["words", "found", "places"] ["words"] (defScope s_parts_in) := ⟨rfl, rfl, rfl, by decide +kernel, rfl, by decide +kernel, by decide +kernel⟩
theorem ok_parts_in (T : Txt w K mg) : Own P w K mg base "parts_in" 4 ["words"] spParts := by
  refine own_of T.f_parts_in sc_parts_in (fun _ _ _ _ _ _ us hl => match us, hl with | [_], _ => rfl) (fun vs H Q E h => ?_) (fun f cdv A outer s H vs Q E hr h => ?_)
  · obtain ⟨p, c, rfl, _⟩ := h; rfl
  · have sc := sc_parts_in
    have hu64 := hr.units
    obtain ⟨p, c, rfl, e, co, k⟩ := h
    obtain ⟨r, er⟩ := c.words_head
    have e0 : H p = some (.lst (.str c.head :: r)) := by rw [← er]; exact e
    refine ⟨_, (pss_cons (ps_if (pt_cmpR (op_eqU (by exact hu64)) (pe_ix ix_seq (pv 0) pe_int (fun _ _ => rfl)) pe_str (nomark _)) (pss_one (ps_ret (pe_own (ok_put_in_words T) hr passN (pa_cons (pe_slice sl_U (pv 0) (po_some pe_int) po_none) pa_nil)))) pss_nil)
      (pss_cons (ps_if (pt_cmpR (op_eqU (by exact hu64)) (pe_ix ix_seq (pv 0) pe_int (fun _ _ => rfl)) pe_str (nomark _)) (pss_cons (ps_set (i := 1) sc.nd rfl (Or.inl rfl) (pe_own (ok_claim_in T) hr passN (pa_cons (pe_slice sl_U (pv 0) (po_some pe_int) po_none) pa_nil)))
      (pss_one (ps_ret (pe_ifExp (pt_cmpR op_isN (pv 1) pe_non (nomark _)) pe_non (pe_tup (pa_cons (pv 1) pa_nil)))))) pss_nil)
      (pss_cons (ps_if (pt_cmpR (op_eqU (by exact hu64)) (pe_ix ix_seq (pv 0) pe_int (fun _ _ => rfl)) pe_str (nomark _)) (pss_one ps_never) pss_nil)
      (pss_cons (ps_if (pt_cmpR (op_eqU (by exact hu64)) (pe_ix ix_seq (pv 0) pe_int (fun _ _ => rfl)) pe_str (nomark _)) (pss_cons ps_never
      (pss_one ps_never)) pss_nil)
      (pss_one (ps_ret (pe_own (ok_short_in T) hr passN (pa_cons (pv 0) pa_nil)))))))), ?_⟩
    walk_at "w"
    have tst : ∀ (z : Str) (q : Bool → Hp → Prop), q (decide (c.head = z)) H → rIx K (.ref p) (.int 0) H (fun x H1 => rEqU K x (.str z) H1 fun x H2 => ∃ k, x = .bl k ∧ q k H2) := fun z q hq => w_ixLa e0 atI_0 (w_eqS ⟨_, rfl, hq⟩)
    refine w_ifb (decide (c.head = "put")) (fun q hq => ?_) (fun c1 => ?_) (fun c1 => ?_)
    · walk_at "w"
      exact tst _ _ hq
    · cases c with
      | put t d ks =>
        walk_at "w"
        refine w_osL ?_
        walk_at "w"
        refine w_slL (SqL.of e) fun q1 h1 => ?_
        rw [cut_from1]
        walk_at "w"
        refine ⟨q1, t, d, ks, rfl, upd_same, co.1, co.2, fun q s H' s' e1 e2 => ?_⟩
        exact k q _ ((same_new h1 (Same.refl _)).trans s') ⟨s, e1, e2⟩
      | drop t => exact absurd (of_decide_eq_true c1) (show ¬("drop" : Str) = "put" by decide)
      | lift i => exact absurd (of_decide_eq_true c1) (show ¬("lift" : Str) = "put" by decide)
      | undo => exact absurd (of_decide_eq_true c1) (show ¬("undo" : Str) = "put" by decide)
      | names => exact absurd (of_decide_eq_true c1) (show ¬("names" : Str) = "put" by decide)
      | claims => exact absurd (of_decide_eq_true c1) (show ¬("claims" : Str) = "put" by decide)
      | shw t => exact absurd (of_decide_eq_true c1) (show ¬("show" : Str) = "put" by decide)
      | claim c => exact absurd (of_decide_eq_true c1) (show ¬("claim" : Str) = "put" by decide)
    · walk_at "w"
      refine w_ifb (decide (c.head = "claim")) (fun q hq => ?_) (fun c2 => ?_) (fun c2 => ?_)
      · walk_at "w"
        exact tst _ _ hq
      · cases c with
        | claim c =>
          walk_at "w"
          refine w_osL ?_
          walk_at "w"
          refine w_slL (SqL.of e) fun q1 h1 => ?_
          rw [cut_from1]
          walk_at "w"
          refine ⟨q1, c, rfl, upd_same, co.1, co.2, fun q H' s' e1 => ?_⟩
          walk_at "w"
          refine w_ifE ?_
          walk_at "w"
          refine ⟨rfl, ?_⟩
          rw [decide_eq_false (fun z => nomatch z)]
          walk_at "w"
          refine ⟨by walk_at "sz", fun u hu => ?_⟩
          walk_at "w"
          exact k u _ (same_new hu ((same_new h1 (Same.refl _)).trans s')) ⟨q, upd_same, e1.new hu⟩
        | drop t => exact absurd (of_decide_eq_true c2) (show ¬("drop" : Str) = "claim" by decide)
        | lift i => exact absurd (of_decide_eq_true c2) (show ¬("lift" : Str) = "claim" by decide)
        | undo => exact absurd (of_decide_eq_true c2) (show ¬("undo" : Str) = "claim" by decide)
        | names => exact absurd (of_decide_eq_true c2) (show ¬("names" : Str) = "claim" by decide)
        | claims => exact absurd (of_decide_eq_true c2) (show ¬("claims" : Str) = "claim" by decide)
        | shw t => exact absurd (of_decide_eq_true c2) (show ¬("show" : Str) = "claim" by decide)
        | put t d ks => exact absurd (of_decide_eq_true c2) (show ¬("put" : Str) = "claim" by decide)
      · have sh : isShort c := by
          cases c with
          | put t d ks => exact absurd (show decide (("put" : Str) = "put") = false from c1) (by decide)
          | claim c => exact absurd (show decide (("claim" : Str) = "claim") = false from c2) (by decide)
          | _ => exact True.intro
        have n1 : decide (c.head = "through") = false ∧ decide (c.head = "rank") = false := by
          cases c <;> exact ⟨rfl, rfl⟩
        walk_at "w"
        refine w_ifb false (fun q hq => ?_) (fun c => nomatch c) (fun _ => ?_)
        · walk_at "w"
          rw [← n1.1] at hq
          exact tst _ _ hq
        · walk_at "w"
          refine w_ifb false (fun q hq => ?_) (fun c => nomatch c) (fun _ => ?_)
          · walk_at "w"
            rw [← n1.2] at hq
            exact tst _ _ hq
          · walk_at "w"
            exact ⟨p, c, rfl, e, co, sh, k⟩
end
end Bt

set_option Elab.async false
set_option linter.all false
set_option maxRecDepth 100000
set_option maxHeartbeats 4000000
/-! the console -/
namespace Bt
open PySem L2 SX
set_option pp.maxSteps 900
local macro_rules | `(tactic| walk_at "lk") => `(tactic| first
  | assumption
  | exact upd_same
  | (refine at_new ?_ ?_; · assumption
     walk_at "lk")
  | (refine at_mut ?_ ?_; · assumption
     walk_at "lk")
  | (refine at_same ?_ ?_; · assumption
     walk_at "lk"))
local macro_rules | `(tactic| walk_at "w1") => `(tactic| with_reducible first
  | refine w_seq ?_ | refine w_asg ?_ | refine w_name ?_ | refine w_ret ?_ | refine w_retN ?_ | refine w_drop ?_ | refine w_next ?_
  | refine w_op ?_ | refine w_var rfl ?_ | refine w_c ?_ | refine w_un ?_ | refine w_test ?_ | refine w_tB ?_ | refine w_bl ?_ | refine w_chain ?_
  | refine w_and ?_ | refine w_or ?_ | refine w_not ?_ | refine w_andV ?_ | refine w_orV ?_ | refine w_notV ?_ | refine w_cons ?_ | refine w_nil ?_
  | refine w_par ?_ | refine w_parL ?_ | refine w_call ?_ | refine w_CB ?_ | refine w_prop ?_ | refine w_fld ?_ | refine w_meth ?_ | refine w_make ?_ | refine w_tup ?_ | refine w_lst ?_
  | refine w_I0 ?_ | refine w_U ?_ | refine w_addI ?_ | refine w_eqI ?_ | refine w_eqS ?_ | refine w_neI ?_ | refine w_neS ?_ | refine w_isN ?_ | refine w_notN ?_
  | refine w_tt ?_ | refine w_ff ?_ | refine w_nt ?_ | refine w_nf ?_ | refine w_ntt ?_ | refine w_att ?_ | refine w_js ?_ | refine w_jsN ?_ | refine w_fmtS ?_ | refine w_m1 ?_ | refine w_m1L ?_ | refine w_sfld ?_ | refine w_bm ?_ | refine w_dc ?_ | refine w_iIt ?_ | refine w_star ?_ | refine w_mkO ?_ | refine w_raise ?_ | refine w_osg ?_ | refine w_gfld ?_ | refine w_kget ?_ | refine w_dget ?_ | refine w_din ?_ | refine w_dnotin ?_ | refine w_slice ?_ | refine w_on ?_ | refine w_os ?_ | refine w_sub ?_ | refine w_bmN ?_ | refine w_intI ?_ | refine w_intB ?_ | refine w_strS ?_
  | refine w_lc ?_ | refine w_for ?_ | refine w_iL ?_ | refine w_iT ?_ | refine w_iS ?_ | refine w_iK ?_ | refine w_iR1 ?_ | refine w_iR3 ?_ | refine w_iET ?_ | refine w_srcS ?_)
local macro_rules | `(tactic| walk_at "w") => `(tactic| (repeat walk_at "w1"); try (with_reducible refine w_ifN ?_))
local macro_rules | `(tactic| walk_at "ws") => `(tactic| with_reducible first | refine w_seq ?_ | refine w_next ?_)
local macro_rules | `(tactic| walk_at "w2") => `(tactic| repeat with_reducible first | refine w_seq ?_ | refine w_asg ?_ | refine w_name ?_ | refine w_next ?_)
local macro_rules | `(tactic| walk_at "sz") => `(tactic| (rw [sizeLine_eq]; exact Nat.le_of_ble_eq_true rfl))
def ConAt (K : Frag) (H : Hp) (c : Addr) (ps : List Pg) : Prop := ∃ dx dk, H c = some (.ins (He.ga K "Console") dx [("table", .ref dk)]) ∧ DeskAt K H dk ps
/-- one desk may have been written -/
def Upd (H H' : Hp) : Prop := ∃ dk, (∀ o, H dk = some o → ∃ C dx v, o = .ins C dx [("page", v)]) ∧ Keep dk H H'
theorem Upd.stay {H H' : Hp} (u : Upd H H') : Stay H H' := by
  obtain ⟨dk, e, k⟩ := u
  exact fun b o n h => k b o (fun z => n (by subst z; exact .inl (e o h))) h
theorem Upd.of_same {H H1 H2 : Hp} (s : Same H H1) {dk C dx : Addr} {v : V} (e : H dk = some (.ins C dx [("page", v)])) (k : Keep dk H1 H2) : Upd H H2 := ⟨dk, fun o h => ⟨C, dx, v, Option.some.inj (h.symm.trans e)⟩, fun b o n h => k b o n (s _ _ h)⟩
theorem Upd.mono {H H1 H2 : Hp} (s : Same H H1) (u : Upd H1 H2) : Upd H H2 := by
  obtain ⟨dk, e, k⟩ := u
  exact ⟨dk, fun o h => e o (s _ _ h), fun b o n h => k b o n (s _ _ h)⟩
theorem nv_table {C dx : Addr} {v : V} : ¬ Vary (.ins C dx [("table", v)]) := fun h => by
  rcases h with ⟨_, _, _, z⟩ | ⟨_, _, _, z⟩ | ⟨_, z⟩
  rotate_right
  · cases z
  · injection z with _ _ z
    injection z with z _
    injection z with z _
    exact absurd z (by decide)
  · cases z
def cmdTx (c : Cmd) : Str := Txt.join (Str.ofString " ") c.words
/-- what a command does -/
def RunP (K : Frag) (H : Hp) (cn : Addr) (p : Pg) (ps : List Pg) (Q : VK) (E : XK) : Cmd → Prop
  | .put t d ks => (bad (shPut p.sh t (d, ks)) 0 p.ws = none → ∀ H', Upd H H' → ConAt K H' cn (⟨shPut p.sh t (d, ks), p.ws⟩ :: p :: ps) → Q (.str "ok") H') ∧
      ∀ i z, bad (shPut p.sh t (d, ks)) 0 p.ws = some (i, z) → XErr K "Broken" [("shown", z), ("index", .int (i : Nat))] H E
  | .claim w => (bad p.sh 0 (p.ws ++ [w]) = none → ∀ H', Upd H H' → ConAt K H' cn (⟨p.sh, p.ws ++ [w]⟩ :: p :: ps) → Q (.str "ok") H') ∧
      ∀ i z, bad p.sh 0 (p.ws ++ [w]) = some (i, z) → XErr K "Broken" [("shown", z), ("index", .int (i : Nat))] H E
  | .lift i => (i < p.ws.length → ∀ H', Upd H H' → ConAt K H' cn (⟨p.sh, lifted p.ws i⟩ :: p :: ps) → Q (.str "ok") H') ∧ (p.ws.length ≤ i → XErr K "InvalidIndex" [("given", .int (i : Nat))] H E)
  | .drop t => ((shV p.sh t).isSome = false → XErr K "UnknownName" [("given", .str t)] H E) ∧ ((shV p.sh t).isSome = true → (∀ i, uses t 0 p.ws = some i → XErr K "InUse" [("index", .int (i : Nat))] H E) ∧
      (uses t 0 p.ws = none → ∀ H', Upd H H' → ConAt K H' cn (⟨shDrop p.sh t, p.ws⟩ :: p :: ps) → Q (.str "ok") H'))
  | .undo => (ps ≠ [] → ∀ H', Upd H H' → ConAt K H' cn ps → Q (.str "ok") H') ∧ (ps = [] → ∀ H', Same H H' → E (.ref (He.ga K "NothingToUndo")) none H')
  | .names => ∀ (ys : List Str) H', ys.Perm (p.sh.map (·.1)) → PyProof.Rows.sortedS ys = true → Same H H' → Q (.str (Txt.join (Str.ofString " ") ys)) H'
  | .claims => ∀ H', Same H H' → Q (.str (nTx (p.ws.length : Nat))) H'
  | .shw t => ∀ H', Same H H' → Q (.str (frTxt (plOf p.sh t).1 (plOf p.sh t).2)) H'
theorem RunP.mono {K : Frag} {H H1 : Hp} {cn : Addr} {p : Pg} {ps : List Pg} {Q : VK} {E : XK} (s : Same H H1) : ∀ {c : Cmd}, RunP K H cn p ps Q E c → RunP K H1 cn p ps Q E c
  | .put _ _ _, h => ⟨fun b H' u => h.1 b H' (u.mono s), fun i z b => (h.2 i z b).mono s⟩
  | .claim _, h => ⟨fun b H' u => h.1 b H' (u.mono s), fun i z b => (h.2 i z b).mono s⟩
  | .lift _, h => ⟨fun b H' u => h.1 b H' (u.mono s), fun b => (h.2 b).mono s⟩
  | .drop _, h => ⟨fun b => (h.1 b).mono s, fun b => ⟨fun i u => ((h.2 b).1 i u).mono s, fun u H' v => (h.2 b).2 u H' (v.mono s)⟩⟩
  | .undo, h => ⟨fun b H' u => h.1 b H' (u.mono s), fun b H' s' => h.2 b H' (s.trans s')⟩
  | .names, h => fun ys H' a b s' => h ys H' a b (s.trans s')
  | .claims, h => fun H' s' => h H' (s.trans s')
  | .shw _, h => fun H' s' => h H' (s.trans s')
theorem RunP.imp {K : Frag} {H : Hp} {cn : Addr} {p : Pg} {ps : List Pg} {Q Q2 : VK} {E : XK} (q : ∀ H', Q (.str "ok") H' → Q2 (.str "ok") H') : ∀ {c : Cmd}, (match c with | .names => True | .claims => True | .shw _ => True | _ => False) = False → RunP K H cn p ps Q E c → RunP K H cn p ps Q2 E c
  | .put _ _ _, _, h => ⟨fun b H' u d => q _ (h.1 b H' u d), h.2⟩
  | .claim _, _, h => ⟨fun b H' u d => q _ (h.1 b H' u d), h.2⟩
  | .lift _, _, h => ⟨fun b H' u d => q _ (h.1 b H' u d), h.2⟩
  | .drop _, _, h => ⟨h.1, fun b => ⟨(h.2 b).1, fun u H' v d => q _ ((h.2 b).2 u H' v d)⟩⟩
  | .undo, _, h => ⟨fun b H' u d => q _ (h.1 b H' u d), h.2⟩
  | .names, z, _ => (by simp at z)
  | .claims, z, _ => (by simp at z)
  | .shw _, z, _ => (by simp at z)
/-- when it may be asked -/
def CmdFit (p : Pg) : Cmd → Prop
  | .claim w => Has p.sh w
  | .shw t => (shV p.sh t).isSome = true
  | _ => True
section
variable {P : Program} {w : World} {K : Frag} {mg : Str → Option Value} {base : Heap} {H : Hp} {Q : VK} {σ : L2.St}
def isAsk : Cmd → Bool
  | .names => true
  | .claims => true
  | .shw _ => true
  | _ => false
def spChange (K : Frag) : Sp := fun vs H Q E => ∃ cn c q p ps, vs = [.ref cn, .str c.head, .ref q] ∧ ConAt K H cn (p :: ps) ∧ PartsAt H q c ∧ CmdOk c ∧ CmdFit p c ∧ PgOk p ∧ isAsk c = false ∧ RunP K H cn p ps (fun _ H' => Q .non H') E c
theorem conAt_new {H H' : Hp} {cn dk dx : Addr} {ps : List Pg} (e : H cn = some (.ins (He.ga K "Console") dx [("table", .ref dk)])) (st : Stay H H') (d : DeskAt K H' dk ps) : ConAt K H' cn ps := ⟨dx, dk, st _ _ nv_table e, d⟩
abbrev s_Console_change : Stmt := inClass (top 103) 3
theorem sc_Console_change : FnScope ["self", "word", "parts"] ["self", "word", "parts"] (defScope s_Console_change) := ⟨rfl, rfl, rfl, by decide +kernel, rfl, by decide +kernel, by decide +kernel⟩
theorem ok_Console_change (T : Txt w K mg) : OwnM P w K mg base (He.ga K "Console") "change" 11 ["self", "word", "parts"] (spChange K) := by
  refine own_ofM T.m_Console_change sc_Console_change (fun _ _ _ _ _ _ us hl => match us, hl with | [_, _, _], _ => rfl) (fun vs H Q E h => ?_) (fun f cdv A outer s H vs Q E hr h => ?_)
  · obtain ⟨cn, c, q, p, ps, rfl, _⟩ := h; rfl
  · have sc := sc_Console_change
    have hu64 := hr.units
    obtain ⟨cn, c, q, p, ps, rfl, ⟨dx, dk, e1, da⟩, pa, co, cf, ok, na, rp⟩ := h
    obtain ⟨ddx, pg, e2, _⟩ := id da
    refine ⟨_, (pss_one (ps_if (pt_cmpR (op_eqU (by exact hu64)) (pv 1) pe_str (nomark _)) (pss_one (ps_expr (pe_ownM (ok_Desk_put T) T.k_Desk hr passX (pe_fld (pv 0) rfl) (pa_cons (pe_ix ix_seq (pv 2) pe_int (fun _ _ => rfl)) (pa_cons (pe_ownC (ok_Frame_init T) hr passN (pa_cons (pe_ix ix_seq (pv 2) pe_int (fun _ _ => rfl)) (pa_cons (pe_ix ix_seq (pv 2) pe_int (fun _ _ => rfl)) pa_nil))) pa_nil))))) (pss_one (ps_if (pt_cmpR (op_eqU (by exact hu64)) (pv 1) pe_str (nomark _)) (pss_one (ps_expr (pe_ownM (ok_Desk_drop T) T.k_Desk hr passX (pe_fld (pv 0) rfl) (pa_cons (pe_ix ix_seq (pv 2) pe_int (fun _ _ => rfl)) pa_nil)))) (pss_one (ps_if (pt_cmpR (op_eqU (by exact hu64)) (pv 1) pe_str (nomark _)) (pss_one (ps_expr (pe_ownM (ok_Desk_lift T) T.k_Desk hr passX (pe_fld (pv 0) rfl) (pa_cons (pe_ix ix_seq (pv 2) pe_int (fun _ _ => rfl)) pa_nil)))) (pss_one (ps_if (pt_cmpR (op_eqU (by exact hu64)) (pv 1) pe_str (nomark _)) (pss_one (ps_expr (pe_ownM (ok_Desk_claim T) T.k_Desk hr passX (pe_fld (pv 0) rfl) (pa_cons (pe_ix ix_seq (pv 2) pe_int (fun _ _ => rfl)) pa_nil)))) (pss_one (ps_expr (pe_ownM0 (ok_Desk_undo T) T.k_Desk hr passX (pe_fld (pv 0) rfl)))))))))))), ?_⟩
    walk_at "w"
    cases c with
    | put t d ks =>
      obtain ⟨sx, e3, t3⟩ := pa
      refine w_ifb true (fun q hq => ?_) (fun _ => ?_) (fun c => nomatch c)
      · walk_at "w"
        exact hq
      · walk_at "w"
        refine w_fldL e1 T.k_Console T.a_Console_table rfl ?_
        walk_at "w"
        refine w_methL e2 rfl ?_
        walk_at "w"
        refine w_ixTa e3 atI_0 ?_
        walk_at "w"
        refine w_ixTa e3 atI_1 ?_
        walk_at "w"
        refine w_ixTa e3 atI_2 ?_
        walk_at "w"
        intro x dxp hx hdx hne
        have nsx : sx ≠ x := fun z => by
          obtain ⟨o, z2, _⟩ := t3
          rw [z, hx] at z2; cases z2
        refine ⟨x, dxp, d, sx, ks, rfl, upd_same, (t3.new hdx).mut nsx, co.2, fun H2 kp f2 => ⟨rfl, ?_⟩⟩
        have s2 : Same H H2 := fun b o e => kp b o (ne_of_none e hx) (at_mut (ne_of_none e hx) (at_new hdx e))
        walk_at "w"
        exact ⟨dk, t, x, p, ps, (d, ks), rfl, da.same s2, f2, co.2, ok, co.1, fun hb H3 k3 d3 => rp.1 hb H3 (Upd.of_same s2 e2 k3) (conAt_new e1 (Upd.of_same s2 e2 k3).stay d3), fun i z hb => (rp.2 i z hb).mono s2⟩
    | drop t =>
      refine w_ifb false (fun q hq => ?_) (fun c => nomatch c) (fun _ => ?_)
      · walk_at "w"
        exact hq
      walk_at "w"
      refine w_ifb true (fun q hq => ?_) (fun _ => ?_) (fun c => nomatch c)
      · walk_at "w"
        exact hq
      · walk_at "w"
        refine w_fldL e1 T.k_Console T.a_Console_table rfl ?_
        walk_at "w"
        refine w_methL e2 rfl ?_
        walk_at "w"
        refine w_ixTa pa atI_0 ?_
        walk_at "w"
        exact ⟨dk, t, p, ps, rfl, da, ok, rp.1, fun hin => ⟨(rp.2 hin).1, fun hu H3 k3 d3 => (rp.2 hin).2 hu H3 (Upd.of_same (Same.refl _) e2 k3) (conAt_new e1 (Upd.of_same (Same.refl _) e2 k3).stay d3)⟩⟩
    | lift i =>
      refine w_ifb false (fun q hq => ?_) (fun c => nomatch c) (fun _ => ?_)
      · walk_at "w"
        exact hq
      walk_at "w"
      refine w_ifb false (fun q hq => ?_) (fun c => nomatch c) (fun _ => ?_)
      · walk_at "w"
        exact hq
      walk_at "w"
      refine w_ifb true (fun q hq => ?_) (fun _ => ?_) (fun c => nomatch c)
      · walk_at "w"
        exact hq
      · walk_at "w"
        refine w_fldL e1 T.k_Console T.a_Console_table rfl ?_
        walk_at "w"
        refine w_methL e2 rfl ?_
        walk_at "w"
        refine w_ixTa pa atI_0 ?_
        walk_at "w"
        exact ⟨dk, i, p, ps, rfl, da, ok, fun hi H3 k3 d3 => rp.1 hi H3 (Upd.of_same (Same.refl _) e2 k3) (conAt_new e1 (Upd.of_same (Same.refl _) e2 k3).stay d3), rp.2⟩
    | claim c =>
      refine w_ifb false (fun q hq => ?_) (fun c => nomatch c) (fun _ => ?_)
      · walk_at "w"
        exact hq
      walk_at "w"
      refine w_ifb false (fun q hq => ?_) (fun c => nomatch c) (fun _ => ?_)
      · walk_at "w"
        exact hq
      walk_at "w"
      refine w_ifb false (fun q hq => ?_) (fun c => nomatch c) (fun _ => ?_)
      · walk_at "w"
        exact hq
      walk_at "w"
      refine w_ifb true (fun q hq => ?_) (fun _ => ?_) (fun c => nomatch c)
      · walk_at "w"
        exact hq
      · obtain ⟨ca, e3, wa⟩ := pa
        walk_at "w"
        refine w_fldL e1 T.k_Console T.a_Console_table rfl ?_
        walk_at "w"
        refine w_methL e2 rfl ?_
        walk_at "w"
        refine w_ixTa e3 atI_0 ?_
        walk_at "w"
        exact ⟨dk, ca, p, ps, c, rfl, da, wa, co.1, cf, ok, fun hb H3 k3 d3 => rp.1 hb H3 (Upd.of_same (Same.refl _) e2 k3) (conAt_new e1 (Upd.of_same (Same.refl _) e2 k3).stay d3), rp.2⟩
    | undo =>
      refine w_ifb false (fun q hq => ?_) (fun c => nomatch c) (fun _ => ?_)
      · walk_at "w"
        exact hq
      walk_at "w"
      refine w_ifb false (fun q hq => ?_) (fun c => nomatch c) (fun _ => ?_)
      · walk_at "w"
        exact hq
      walk_at "w"
      refine w_ifb false (fun q hq => ?_) (fun c => nomatch c) (fun _ => ?_)
      · walk_at "w"
        exact hq
      walk_at "w"
      refine w_ifb false (fun q hq => ?_) (fun c => nomatch c) (fun _ => ?_)
      · walk_at "w"
        exact hq
      walk_at "w"
      refine w_fldL e1 T.k_Console T.a_Console_table rfl ?_
      walk_at "w"
      refine w_methL e2 rfl ?_
      walk_at "w"
      exact ⟨dk, p, ps, rfl, da, fun hn H3 k3 d3 => rp.1 hn H3 (Upd.of_same (Same.refl _) e2 k3) (conAt_new e1 (Upd.of_same (Same.refl _) e2 k3).stay d3), fun hn => rp.2 hn _ (Same.refl _)⟩
    | names => cases na
    | claims => cases na
    | shw t => cases na
def spAnswer (K : Frag) : Sp := fun vs H Q E => ∃ cn c q p ps, vs = [.ref cn, .str c.head, .ref q] ∧ ConAt K H cn (p :: ps) ∧ PartsAt H q c ∧ CmdFit p c ∧ PgOk p ∧ isAsk c = true ∧ RunP K H cn p ps Q E c
abbrev s_Console_answer : Stmt := inClass (top 103) 4
theorem sc_Console_answer : FnScope ["self", "word", "parts", "frame"] ["self", "word", "parts"] (defScope s_Console_answer) := ⟨rfl, rfl, rfl, by decide +kernel, rfl, by decide +kernel, by decide +kernel⟩
theorem ok_Console_answer (T : Txt w K mg) : OwnM P w K mg base (He.ga K "Console") "answer" 5 ["self", "word", "parts"] (spAnswer K) := by
  refine own_ofM T.m_Console_answer sc_Console_answer (fun _ _ _ _ _ _ us hl => match us, hl with | [_, _, _], _ => rfl) (fun vs H Q E h => ?_) (fun f cdv A outer s H vs Q E hr h => ?_)
  · obtain ⟨cn, c, q, p, ps, rfl, _⟩ := h; rfl
  · have sc := sc_Console_answer
    have hu64 := hr.units
    obtain ⟨cn, c, q, p, ps, rfl, ⟨dx, dk, e1, da⟩, pa, cf, ok, na, rp⟩ := h
    obtain ⟨ddx, pg, e2, e3⟩ := id da
    have lw := ok.lw
    have ls := ok.ls
    refine ⟨_, (pss_cons (ps_if (pt_cmpR (op_eqU (by exact hu64)) (pv 1) pe_str (nomark _)) (pss_one (ps_ret (pe_join pe_str (pe_ownP (ok_Desk_names T) T.k_Desk hr passN (pe_fld (pv 0) rfl))))) pss_nil)
      (pss_cons (ps_if (pt_cmpR (op_eqU (by exact hu64)) (pv 1) pe_str (nomark _)) (pss_one (ps_ret (pe_callTy call_strU (by rfl) T.b_str (by decide +kernel) (pa_cons (pe_callB (call_lenU) (by rfl) T.b_len (by decide +kernel) (pa_cons (pe_ownP (ok_Desk_claims T) T.k_Desk hr passN (pe_fld (pv 0) rfl)) pa_nil)) pa_nil)))) pss_nil)
      (pss_cons (ps_set (i := 3) sc.nd rfl (Or.inl rfl) (pe_ownM (ok_Desk_thing T) T.k_Desk hr passX (pe_fld (pv 0) rfl) (pa_cons (pe_ix ix_seq (pv 2) pe_int (fun _ _ => rfl)) pa_nil)))
      (pss_cons (ps_if (pt_cmpR (op_eqU (by exact hu64)) (pv 1) pe_str (nomark _)) (pss_one (ps_ret (pe_ownP (ok_Frame_text T) T.k_Frame hr passN (pv 3)))) pss_nil)
      (pss_cons ps_never
      (pss_one ps_never)))))), ?_⟩
    walk_at "w"
    cases c with
    | names =>
      refine w_ifb true (fun q hq => ?_) (fun _ => ?_) (fun c => nomatch c)
      · walk_at "w"
        exact hq
      · walk_at "w"
        refine w_fldL e1 T.k_Console T.a_Console_table rfl ?_
        refine w_propL e2 ⟨dk, p, ps, rfl, da, ls, fun ys q H' hp hs s t => ?_⟩
        refine ⟨_, q, ys, rfl, rfl, .inr t.sq, ?_, rp ys H' hp hs s⟩
        have l1 : ys.length ≤ 20 := by rw [hp.length_eq, List.length_map]; exact ls
        have l2 : ∀ l : List Str, (∀ y ∈ l, y.length ≤ 8) → (l.map (·.length)).sum ≤ l.length * 8 := fun l => by
          induction l with
          | nil => intro _; simp
          | cons a r ih =>
            intro h
            have h1 := ih fun y hy => h y (List.mem_cons_of_mem _ hy)
            have h2 := h a (List.mem_cons_self ..)
            rw [List.map_cons, List.sum_cons, List.length_cons, Nat.succ_mul]; omega
        have l3 := l2 ys fun y hy => by
          obtain ⟨kv, hk, rfl⟩ := List.mem_map.mp ((List.Perm.mem_iff hp).mp hy)
          exact (name_ok (ok.names kv hk)).2.1
        have l4 : (Str.ofString " ").length = 1 := by decide
        rw [l4]; omega
    | claims =>
      refine w_ifb false (fun q hq => ?_) (fun c => nomatch c) (fun _ => ?_)
      · walk_at "w"
        exact hq
      walk_at "w"
      refine w_ifb true (fun q hq => ?_) (fun _ => ?_) (fun c => nomatch c)
      · walk_at "w"
        exact hq
      · walk_at "w"
        refine w_fldL e1 T.k_Console T.a_Console_table rfl ?_
        refine w_propL e2 ⟨dk, p, ps, rfl, da, fun wq hw => ?_⟩
        obtain ⟨as, ew, pw⟩ := hw
        walk_at "w"
        refine w_lenT ew ?_
        walk_at "w"
        rw [List.length_map, Paired.len pw]
        exact w_strI (num_small (by omega) (by omega)).1 (rp H (Same.refl _))
    | shw t =>
      refine w_ifb false (fun q hq => ?_) (fun c => nomatch c) (fun _ => ?_)
      · walk_at "w"
        exact hq
      walk_at "w"
      refine w_ifb false (fun q hq => ?_) (fun c => nomatch c) (fun _ => ?_)
      · walk_at "w"
        exact hq
      walk_at "w"
      refine w_fldL e1 T.k_Console T.a_Console_table rfl ?_
      walk_at "w"
      refine w_methL e2 rfl ?_
      walk_at "w"
      refine w_ixTa pa atI_0 ?_
      walk_at "w"
      have gt : shV p.sh t = some (plOf p.sh t) := by
        have h : (shV p.sh t).isSome = true := cf
        unfold plOf
        cases e : shV p.sh t with
        | none => rw [e] at h; cases h
        | some x => rfl
      refine ⟨dk, t, p, ps, _, rfl, da, gt, fun a fa => ?_⟩
      walk_at "w"
      refine w_ifb true (fun q hq => ?_) (fun _ => ?_) (fun c => nomatch c)
      · walk_at "w"
        exact hq
      · walk_at "w"
        obtain ⟨fx, fp, fq, f1, _⟩ := id fa
        refine w_propL f1 ⟨a, _, _, rfl, fa, ok.sh t _ gt, fun H' s' => ?_⟩
        exact rp H' s'
    | put t d ks => cases na
    | claim c => cases na
    | drop t => cases na
    | lift i => cases na
    | undo => cases na
def spConDesk (K : Frag) : Sp := fun vs H Q _ => ∃ cn ps, vs = [.ref cn] ∧ ConAt K H cn ps ∧ ∀ dk, DeskAt K H dk ps → Q (.ref dk) H
abbrev s_Console_desk : Stmt := inClass (top 103) 1
theorem sc_Console_desk : FnScope ["self"] ["self"] (defScope s_Console_desk) := ⟨rfl, rfl, rfl, by decide +kernel, rfl, by decide +kernel, by decide +kernel⟩
theorem ok_Console_desk (T : Txt w K mg) : OwnP P w K mg base (He.ga K "Console") "desk" 1 (spConDesk K) := by
  refine own_ofP T.p_Console_desk sc_Console_desk (fun _ _ _ _ _ _ us hl => match us, hl with | [_], _ => rfl) (fun vs H Q E h => ?_) (fun f cdv A outer s H vs Q E hr h => ?_)
  · obtain ⟨cn, ps, rfl, _⟩ := h; rfl
  · have sc := sc_Console_desk
    obtain ⟨cn, ps, rfl, ⟨dx, dk, e1, da⟩, k⟩ := h
    refine ⟨_, (pss_one (ps_ret (pe_fld (pv 0) rfl))), ?_⟩
    walk_at "w"
    exact w_fldL e1 T.k_Console T.a_Console_table rfl (k dk da)
def spConI (K : Frag) : Sp := fun vs H Q _ => ∃ a dx, vs = [.ref a] ∧ H a = some (.ins (He.ga K "Console") dx []) ∧ ∀ H', Keep a H H' → ConAt K H' a [⟨[], []⟩] → Q .non H'
abbrev s_Console_init : Stmt := inClass (top 103) 0
theorem sc_Console_init : FnScope ["self"] ["self"] (defScope s_Console_init) := ⟨rfl, rfl, rfl, by decide +kernel, rfl, by decide +kernel, by decide +kernel⟩
theorem ok_Console_init (T : Txt w K mg) : OwnC P w K mg base (He.ga K "Console") "Console" 5 ["self"] (spConI K) := by
  refine own_ofC T.n_Console sc_Console_init (fun _ _ _ _ _ _ us hl => match us, hl with | [_], _ => rfl) (fun vs H Q E h => ?_) (fun f cdv A outer s H vs Q E hr h => ?_)
  · obtain ⟨a, dx, rfl, _⟩ := h; rfl
  · have sc := sc_Console_init
    obtain ⟨a, dx, rfl, e, k⟩ := h
    refine ⟨_, (pss_one (ps_fld (pv 0) (pe_ownC0 (ok_Desk_init T) hr passN) rfl)), ?_⟩
    walk_at "w"
    intro x dxp hx hdx hne
    refine ⟨x, dxp, rfl, upd_same, fun H2 kp da => ⟨rfl, ?_⟩⟩
    have s1 : Same H H2 := fun b o e => kp b o (ne_of_none e hx) (at_mut (ne_of_none e hx) (at_new hdx e))
    walk_at "w"
    refine w_sfldL (s1 _ _ e) T.k_Console T.a_Console_table (Nat.le_of_ble_eq_true rfl) ?_
    walk_at "w"
    obtain ⟨ddx, pg, d1, pa⟩ := da
    have nxa : x ≠ a := ne_of_none e hx |>.symm
    have ea := s1 _ _ e
    obtain ⟨dq, sq, wq, av, p1, ⟨kvs, p2, p3⟩, ⟨as, p4, p5⟩, p6⟩ := pa
    refine k _ (fun b o n h => at_mut n (s1 _ _ h)) ⟨dx, x, upd_same, ddx, pg, at_mut nxa d1, dq, sq, wq, av, at_mut (ne_of p1 ea fun z => ?_) p1, ⟨kvs, at_mut (ne_of p2 ea fun z => nomatch z) p2, ?_⟩, ⟨as, at_mut (ne_of p4 ea fun z => nomatch z) p4, ?_⟩, ?_⟩
    · injection z with _ _ z
      cases z
    · cases p3; exact .nil
    · cases p5; exact .nil
    · rcases p6 with p6 | ⟨_, _, p6⟩
      · exact .inl p6
      · exact p6.elim
end
end Bt

set_option Elab.async false
set_option linter.all false
set_option maxRecDepth 100000
set_option maxHeartbeats 4000000
/-! o.m(k = v): a method with one parameter behind self, given by its name; tables stay -/
namespace Bt
open PySem PySem.Spec PyProof.Rows L2
/-- a method that may be called so, too -/
def OwnM2 (P : Program) (w : World) (K : Frag) (mg : Str → Option Value) (base : Heap) (C : Addr) (m : Str) (k : Nat) (p kw : Str) (sp : Sp) : Prop :=
  ∃ (f : Addr) (fd : FuncData), FnOk P w K mg base (L2N.CX P w) k f fd [p, kw] sp ∧ Meth K C m f ∧ Binds K fd [p, kw] [] ∧ ∀ (s : Shared) (u v : Value), BindsTo s fd ⟨[u], [(kw, v)]⟩ [(p, u), (kw, v)]
theorem OwnM2.m {P : Program} {w : World} {K : Frag} {mg : Str → Option Value} {base : Heap} {C : Addr} {m p kw : Str} {k : Nat} {sp : Sp} (h : OwnM2 P w K mg base C m k p kw sp) : OwnM P w K mg base C m k [p, kw] sp := by
  obtain ⟨f, fd, a, b, c, _⟩ := h
  exact ⟨f, fd, a, b, c⟩
theorem own_ofM2 {P : Program} {w : World} {K : Frag} {mg : Str → Option Value} {base : Heap} {m qual p kw : Str} {st : Stmt} {N : List Str} {k : Nat} {sp : Sp} {C : Addr} (F : MtAt K C m qual st) (S : FnScope N [p, kw] (defScope st)) (b : BindP m qual st [p, kw])
    (b2 : ∀ (kV doc pm : Value) (an : Option Addr) (cdv ct u v : Value), bindArgs (PySem.W.fnOf m qual (defArgs st) (defBody st) (defScope st) .none kV doc pm an cdv ct) ⟨[u], [(kw, v)]⟩ = pure [(p, u), (kw, v)])
    (len : ∀ vs H Q E, sp vs H Q E → vs.length = [p, kw].length) (body : BodyOk P w K mg base N qual st k sp) : OwnM2 P w K mg base C m (k + 1) p kw sp := by
  obtain ⟨f, fd, F, hm⟩ := F
  refine ⟨f, fd, F.ok S len fun cdv A outer s H vs Q E hr h => body f cdv A outer s H vs Q E hr h, hm, F.bindsN b, fun s u v => ?_⟩
  obtain ⟨oc, od, dV, kV, doc, pm, an, cdv, ct, osl, rfl, lk, hcd, hD, hK⟩ := F.ex
  rcases hD with ⟨_, rfl⟩ | ⟨e, _⟩
  · exact .of_eq (b2 kV doc pm an cdv ct u v)
  · exact absurd rfl e
section
variable {X : Cx} {k j : Nat} {m q kw : Str} {C : Addr} {sp : Sp} {E : XK} {e o : Expr} {te ta : TE} {pos apos kpos : Pos}
/-- o.m(k = e) -/
theorem pe_ownMK {pl : Sem Bool} (O : OwnM2 X.prog X.w X.K X.mg X.base C m j q kw sp) (c : Cls X.K C) (hr : Room k X.A) (hx : Passes (L2N.CX X.prog X.w) X E) (ho : PE X o ta) (he : PE X e te) (hj : j ≤ k := by decide)
    (hall : (backToKw pos (keywordEach [⟨some kw, e, kpos⟩] X.env)).all (·.1.isSome) = true := by rfl) (hks : (backToKw pos (keywordEach [⟨some kw, e, kpos⟩] X.env)).filterMap (·.1) = [kw] := by rfl)
    (hpl : ((backTo pos (starEach [] X.env)).any (·.1) || (backToKw pos (keywordEach [⟨some kw, e, kpos⟩] X.env)).any (·.1.isNone)) = false := by rfl)
    (ht : eval (.Call (.Attribute o m apos) [] [⟨some kw, e, kpos⟩] pos) X.env = (do let ov ← eval o X.env; standAt apos.atName; let (f, first) ← holding [ov] (getMethod ov m pl); callWith pos f first (backTo pos (starEach [] X.env)) (backToKw pos (keywordEach [⟨some kw, e, kpos⟩] X.env))) := by rfl) :
    PE X (.Call (.Attribute o m apos) [] [⟨some kw, e, kpos⟩] pos) (tMeth C m sp [] E ta (tCons te tNil)) := by
  obtain ⟨f, fd, F, hM, hb, hb2⟩ := O
  refine ⟨fun pins s σ H Q I h => ?_⟩
  refine PySem.W.methodCall_KW (pl := pl) (thn (ho.run pins s σ H _ I h) fun u s1 ⟨x, H1, I1, rx, a, dx, fs, ex, ea, l, q⟩ => ?_) ht
  subst ex
  obtain rfl : u = Value.ref a := rx
  refine getmeth_ok I1 ea c hM l ?_
  refine PySem.W.callWith_KW0 (h₀ := X.base) I.ok.mod.kin hM.kp hall (thn ((pk_cons (nm := some kw) (kpos := kpos) he pk_nil).run pos pins s1 σ H1 _ I1 q) fun ws s2 ⟨zs, H2, I2, rz, q2⟩ => ⟨I2.kIn, ?_⟩) hpl
  rw [hks]
  have l2 := F.len _ _ _ _ q2
  obtain ⟨z, rfl⟩ : ∃ z, zs = [z] := by
    match zs, l2 with
    | [z], _ => exact ⟨z, rfl⟩
  obtain ⟨v, rfl, rv⟩ := vals1 rz
  refine wpAny_call (codeAny_mono (F.run X.A X.stack s2 H2 ⟨[.ref a], [(kw, v)]⟩ [.ref a, v] [.ref a, z] Q E (hr.mono hj) I2.env0 (hb2 s2 (.ref a) v) (.cons rfl (.cons rv .nil)) q2) fun r s' hq => ?_)
  cases r with
  | error e => exact hx pins σ H2 s2 e s' I2 hq
  | ok fl =>
    cases fl with
    | ret u => exact I2.after hq
    | next => exact False.elim hq
    | brk => exact False.elim hq
    | cont => exact False.elim hq
end
end Bt

set_option Elab.async false
set_option linter.all false
set_option maxRecDepth 100000
set_option maxHeartbeats 4000000
/-! console.run -/
namespace Bt
open PySem L2 SX
set_option pp.maxSteps 900
local macro_rules | `(tactic| walk_at "lk") => `(tactic| first
  | assumption
  | exact upd_same
  | (refine at_new ?_ ?_; · assumption
     walk_at "lk")
  | (refine at_mut ?_ ?_; · assumption
     walk_at "lk")
  | (refine at_same ?_ ?_; · assumption
     walk_at "lk"))
local macro_rules | `(tactic| walk_at "w1") => `(tactic| with_reducible first
  | refine w_seq ?_ | refine w_asg ?_ | refine w_name ?_ | refine w_ret ?_ | refine w_retN ?_ | refine w_drop ?_ | refine w_next ?_
  | refine w_op ?_ | refine w_var rfl ?_ | refine w_c ?_ | refine w_un ?_ | refine w_test ?_ | refine w_tB ?_ | refine w_bl ?_ | refine w_chain ?_
  | refine w_and ?_ | refine w_or ?_ | refine w_not ?_ | refine w_andV ?_ | refine w_orV ?_ | refine w_notV ?_ | refine w_cons ?_ | refine w_nil ?_
  | refine w_par ?_ | refine w_parL ?_ | refine w_call ?_ | refine w_CB ?_ | refine w_prop ?_ | refine w_fld ?_ | refine w_meth ?_ | refine w_make ?_ | refine w_tup ?_ | refine w_lst ?_
  | refine w_I0 ?_ | refine w_U ?_ | refine w_addI ?_ | refine w_eqI ?_ | refine w_eqS ?_ | refine w_neI ?_ | refine w_neS ?_ | refine w_isN ?_ | refine w_notN ?_
  | refine w_tt ?_ | refine w_ff ?_ | refine w_nt ?_ | refine w_nf ?_ | refine w_ntt ?_ | refine w_att ?_ | refine w_js ?_ | refine w_jsN ?_ | refine w_fmtS ?_ | refine w_m1 ?_ | refine w_m1L ?_ | refine w_sfld ?_ | refine w_bm ?_ | refine w_dc ?_ | refine w_iIt ?_ | refine w_star ?_ | refine w_mkO ?_ | refine w_raise ?_ | refine w_osg ?_ | refine w_gfld ?_ | refine w_kget ?_ | refine w_dget ?_ | refine w_din ?_ | refine w_dnotin ?_ | refine w_slice ?_ | refine w_on ?_ | refine w_os ?_ | refine w_sub ?_ | refine w_bmN ?_ | refine w_intI ?_ | refine w_intB ?_ | refine w_strS ?_
  | refine w_lc ?_ | refine w_for ?_ | refine w_iL ?_ | refine w_iT ?_ | refine w_iS ?_ | refine w_iK ?_ | refine w_iR1 ?_ | refine w_iR3 ?_ | refine w_iET ?_ | refine w_srcS ?_)
local macro_rules | `(tactic| walk_at "w") => `(tactic| (repeat walk_at "w1"); try (with_reducible refine w_ifN ?_))
local macro_rules | `(tactic| walk_at "ws") => `(tactic| with_reducible first | refine w_seq ?_ | refine w_next ?_)
local macro_rules | `(tactic| walk_at "w2") => `(tactic| repeat with_reducible first | refine w_seq ?_ | refine w_asg ?_ | refine w_name ?_ | refine w_next ?_)
local macro_rules | `(tactic| walk_at "sz") => `(tactic| (rw [sizeLine_eq]; exact Nat.le_of_ble_eq_true rfl))
theorem nTx_free {x : Int} (h : 0 ≤ x) : 32 ∉ TL.tl (nTx x) := by
  rw [nTx_S h]; exact TL.numL_free (.inl (by decide))
theorem nTx_len {x : Int} (h : 0 ≤ x) (h2 : x < 10 ^ 21) : (nTx x).length ≤ 21 := (num_small h h2).2
/-- a word of a command -/
def WordOk (z : Str) : Prop := 32 ∉ TL.tl z ∧ z.length ≤ 21
theorem wordOk_name {t : Str} (h : t ∈ names3) : WordOk t := by
  simp only [List.mem_cons, List.not_mem_nil, or_false] at h
  rcases h with rfl | rfl | rfl <;> exact ⟨by decide, by decide⟩
theorem wordOk_num {x : Int} (h : 0 ≤ x) (h2 : x < 10 ^ 21) : WordOk (nTx x) := ⟨nTx_free h, nTx_len h h2⟩
theorem PlanOk.rng {d : Int} {ks : List Int} (h : PlanOk d ks) : ∀ x ∈ ks, 0 ≤ x ∧ x ≤ 1000000 := fun x hx => by
  obtain ⟨i, h0, h1, rfl⟩ := mem_kat hx
  exact h.rg i h0 h1
theorem wordsOk : ∀ {c : Cmd}, CmdOk c → (∀ z ∈ c.words, WordOk z) ∧ c.words.length ≤ 20 ∧ c.words ≠ []
  | .put t d ks, h => by
    have l1 := h.2.l1; have d0 := h.2.d0; have d4 := h.2.d4
    refine ⟨fun z hz => ?_, by simp only [Cmd.words, List.length_cons, List.length_map]; omega, fun z => nomatch z⟩
    simp only [Cmd.words, List.mem_cons, List.mem_map] at hz
    rcases hz with rfl | rfl | rfl | rfl | rfl | ⟨x, hx, rfl⟩
    · exact ⟨by decide, by decide⟩
    · exact wordOk_name h.1
    · exact ⟨by decide, by decide⟩
    · exact wordOk_num d0 (by omega)
    · exact ⟨by decide, by decide⟩
    · have := h.2.rng x hx
      exact wordOk_num this.1 (by omega)
  | .drop t, h => by
    refine ⟨fun z hz => ?_, Nat.le_of_ble_eq_true rfl, fun z => nomatch z⟩
    simp only [Cmd.words, List.mem_cons, List.not_mem_nil, or_false] at hz
    rcases hz with rfl | rfl
    · exact ⟨by decide, by decide⟩
    · exact wordOk_name h
  | .shw t, h => by
    refine ⟨fun z hz => ?_, Nat.le_of_ble_eq_true rfl, fun z => nomatch z⟩
    simp only [Cmd.words, List.mem_cons, List.not_mem_nil, or_false] at hz
    rcases hz with rfl | rfl
    · exact ⟨by decide, by decide⟩
    · exact wordOk_name h
  | .lift i, h => by
    refine ⟨fun z hz => ?_, Nat.le_of_ble_eq_true rfl, fun z => nomatch z⟩
    simp only [Cmd.words, List.mem_cons, List.not_mem_nil, or_false] at hz
    have hi : i ≤ 1000 := h
    rcases hz with rfl | rfl
    · exact ⟨by decide, by decide⟩
    · exact wordOk_num (by omega) (by omega)
  | .undo, _ => ⟨fun z hz => by simp only [Cmd.words, List.mem_cons, List.not_mem_nil, or_false] at hz; subst hz; exact ⟨by decide, by decide⟩, by decide, by decide⟩
  | .names, _ => ⟨fun z hz => by simp only [Cmd.words, List.mem_cons, List.not_mem_nil, or_false] at hz; subst hz; exact ⟨by decide, by decide⟩, by decide, by decide⟩
  | .claims, _ => ⟨fun z hz => by simp only [Cmd.words, List.mem_cons, List.not_mem_nil, or_false] at hz; subst hz; exact ⟨by decide, by decide⟩, by decide, by decide⟩
  | .claim c, h => by
    obtain ⟨wo, nm⟩ := h
    cases c with
    | wi a b =>
      refine ⟨fun z hz => ?_, Nat.le_of_ble_eq_true rfl, fun z => nomatch z⟩
      simp only [Cmd.words, Wish.words, List.mem_cons, List.not_mem_nil, or_false] at hz
      rcases hz with rfl | rfl | rfl | rfl
      · exact ⟨by decide, by decide⟩
      · exact ⟨by decide, by decide⟩
      · exact wordOk_name (nm _ (by simp [Wish.titles]))
      · exact wordOk_name (nm _ (by simp [Wish.titles]))
    | rank t xs n =>
      obtain ⟨po, n0, n1⟩ := wo
      refine ⟨fun z hz => ?_, by simp only [Cmd.words, Wish.words, List.length_cons, List.length_map]; have := po.l12; omega, fun z => nomatch z⟩
      simp only [Cmd.words, Wish.words, List.mem_cons, List.mem_map] at hz
      rcases hz with rfl | rfl | rfl | rfl | ⟨x, hx, rfl⟩
      · exact ⟨by decide, by decide⟩
      · exact ⟨by decide, by decide⟩
      · exact wordOk_name (nm _ (by simp [Wish.titles]))
      · exact wordOk_num n0 (by omega)
      · have := po.rng x hx
        exact wordOk_num this.1 (by omega)
    | al one t xs =>
      have po : PlOk xs := wo
      refine ⟨fun z hz => ?_, by simp only [Cmd.words, Wish.words, List.length_cons, List.length_map]; have := po.l12; omega, fun z => nomatch z⟩
      simp only [Cmd.words, Wish.words, List.mem_cons, List.mem_map] at hz
      rcases hz with rfl | rfl | rfl | ⟨x, hx, rfl⟩
      · exact ⟨by decide, by decide⟩
      · cases one <;> exact ⟨by decide, by decide⟩
      · exact wordOk_name (nm _ (by simp [Wish.titles]))
      · have := po.rng x hx
        exact wordOk_num this.1 (by omega)
theorem cmd_split {c : Cmd} (h : CmdOk c) : Txt.split (cmdTx c) (Str.ofString " ") = c.words := by
  obtain ⟨h1, _, h3⟩ := wordsOk h
  exact TL.split_join (s := 32) (S := []) (by decide) (by decide +kernel) h3 fun p hp => (h1 p hp).1
theorem cmd_len {c : Cmd} (h : CmdOk c) : (cmdTx c).length ≤ 500 := by
  obtain ⟨h1, h2, _⟩ := wordsOk h
  have l2 : ∀ l : List Str, (∀ y ∈ l, y.length ≤ 21) → (l.map (·.length)).sum ≤ l.length * 21 := fun l => by
    induction l with
    | nil => intro _; simp
    | cons a r ih =>
      intro h
      have h1 := ih fun y hy => h y (List.mem_cons_of_mem _ hy)
      have h2 := h a (List.mem_cons_self ..)
      rw [List.map_cons, List.sum_cons, List.length_cons, Nat.succ_mul]; omega
  have h4 := l2 c.words fun y hy => (h1 y hy).2
  have h5 := join_len (Str.ofString " ") c.words
  have h6 : (Str.ofString " ").length = 1 := by decide
  rw [h6] at h5
  unfold cmdTx
  omega
section
variable {P : Program} {w : World} {K : Frag} {mg : Str → Option Value} {base : Heap} {H : Hp} {Q : VK} {σ : L2.St}
theorem PartsAt.same {H H' : Hp} {q : Addr} (s : Same H H') : ∀ {c : Cmd}, PartsAt H q c → PartsAt H' q c
  | .put _ _ _, h => by obtain ⟨x, e, t⟩ := h; exact ⟨x, s _ _ e, t.same s⟩
  | .claim _, h => by obtain ⟨x, e, t⟩ := h; exact ⟨x, s _ _ e, t.same s⟩
  | .lift _, h => s _ _ h
  | .drop _, h => s _ _ h
  | .undo, h => s _ _ h
  | .names, h => s _ _ h
  | .claims, h => s _ _ h
  | .shw _, h => s _ _ h
def spRun (K : Frag) : Sp := fun vs H Q E => ∃ cn c p ps, vs = [.ref cn, .str (cmdTx c)] ∧ ConAt K H cn (p :: ps) ∧ CmdOk c ∧ CmdFit p c ∧ PgOk p ∧ RunP K H cn p ps Q E c
theorem ConAt.same {H H' : Hp} {cn : Addr} {ps : List Pg} (s : Same H H') (h : ConAt K H cn ps) : ConAt K H' cn ps := by
  obtain ⟨dx, dk, e, d⟩ := h
  exact ⟨dx, dk, s _ _ e, d.same s⟩
abbrev s_Console_run : Stmt := inClass (top 103) 2
theorem sc_Console_run : FnScope ["self", "command", "words", "parts"] ["self", "command"] (defScope s_Console_run) := ⟨rfl, rfl, rfl, by decide +kernel, rfl, by decide +kernel, by decide +kernel⟩
theorem ok_Console_run2 (T : Txt w K mg) : OwnM2 P w K mg base (He.ga K "Console") "run" 12 "self" "command" (spRun K) := by
  refine own_ofM2 T.m_Console_run sc_Console_run (fun _ _ _ _ _ _ us hl => match us, hl with | [_, _], _ => rfl) (fun _ _ _ _ _ _ _ _ => rfl) (fun vs H Q E h => ?_) (fun f cdv A outer s H vs Q E hr h => ?_)
  · obtain ⟨cn, c, p, ps, rfl, _⟩ := h; rfl
  · have sc := sc_Console_run
    have hu64 := hr.units
    obtain ⟨cn, c, p, ps, rfl, ca, co, cf, ok, rp⟩ := h
    have cl := cmd_len co
    refine ⟨_, (pss_cons (ps_set (i := 2) sc.nd rfl (Or.inl rfl) (pe_ifExp (pt_val (pe_callB call_isi (by rfl) T.b_isinstance (by decide +kernel) (pa_cons (pv 1) (pa_cons (pe_bltn (v := .ty "str") (u := .type "str") rfl T.b_str (by decide +kernel) rfl) pa_nil)))) (pe_split (pv 1) pe_str) (pe_lst (pa_cons pe_str pa_nil))))
      (pss_cons (ps_set (i := 3) sc.nd rfl (Or.inl rfl) (pe_own (ok_parts_in T) hr passN (pa_cons (pv 2) pa_nil)))
      (pss_cons (ps_if (pt_cmpR op_isN (pv 3) pe_non (nomark _)) (pss_one ps_never) pss_nil)
      (pss_cons (ps_if (pt_cmpR op_in_seq (pe_ix ix_seq (pv 2) pe_int (fun _ _ => rfl)) (pe_tup (pa_cons pe_str (pa_cons pe_str (pa_cons pe_str (pa_cons pe_str (pa_cons pe_str pa_nil)))))) (by rfl)) (pss_one (ps_ret (pe_ownM (ok_Console_answer T) T.k_Console hr passX (pv 0) (pa_cons (pe_ix ix_seq (pv 2) pe_int (fun _ _ => rfl)) (pa_cons (pv 3) pa_nil))))) pss_nil)
      (pss_cons (ps_expr (pe_ownM (ok_Console_change T) T.k_Console hr passX (pv 0) (pa_cons (pe_ix ix_seq (pv 2) pe_int (fun _ _ => rfl)) (pa_cons (pv 3) pa_nil))))
      (pss_one (ps_ret pe_str))))))), ?_⟩
    walk_at "w"
    refine w_ifE ?_
    walk_at "w"
    refine w_isiS ?_
    walk_at "w"
    refine ⟨_, _, rfl, rfl, by decide, by rw [sizeLine_eq]; omega, ?_⟩
    rw [cmd_split co]
    intro q1 h1
    have s1 := same_new (o := .lst (c.words.map V.str)) h1 (Same.refl _)
    walk_at "w"
    refine ⟨q1, c, rfl, upd_same, co, fun q2 H2 s2 pa => ?_⟩
    have s12 := s1.trans s2
    obtain ⟨r, er⟩ := c.words_head
    have e2 : H2 q1 = some (.lst (.str c.head :: r)) := by rw [← er]; exact s2 _ _ upd_same
    walk_at "w"
    refine w_ifb false (fun q hq => ?_) (fun c => nomatch c) (fun _ => ?_)
    · walk_at "w"
      refine ⟨rfl, ?_⟩
      rw [decide_eq_false (fun z => nomatch z)]
      exact ⟨_, rfl, hq⟩
    · walk_at "w"
      refine w_ifg (isAsk c) (fun q hq => ?_) (fun ia H3 s3 => ?_) (fun ia H3 s3 => ?_)
      · walk_at "w"
        refine w_ixLa e2 atI_0 ?_
        walk_at "w"
        refine ⟨by walk_at "sz", fun u hu => ?_⟩
        refine ⟨u, _, rfl, .inr (SqT.of upd_same), rfl, rfl, ?_⟩
        rw [if_neg Bool.false_ne_true, show inV (V.str c.head) [V.str "rank", V.str "through", V.str "show", V.str "names", V.str "claims"] = isAsk c by cases c <;> rfl]
        exact ⟨_, rfl, hq _ (same_new hu (Same.refl _))⟩
      · have s13 := s12.trans s3
        obtain ⟨cx, dk, ec, _⟩ := ca
        walk_at "w"
        refine w_methL (s13 _ _ ec) rfl ?_
        walk_at "w"
        refine w_ixLa (s3 _ _ e2) atI_0 ?_
        walk_at "w"
        exact ⟨cn, c, q2, p, ps, rfl, ConAt.same s13 ⟨cx, dk, ec, by assumption⟩, pa.same s3, cf, ok, ia, rp.mono s13⟩
      · have s13 := s12.trans s3
        obtain ⟨cx, dk, ec, _⟩ := id ca
        walk_at "w"
        refine w_methL (s13 _ _ ec) rfl ?_
        walk_at "w"
        refine w_ixLa (s3 _ _ e2) atI_0 ?_
        walk_at "w"
        refine ⟨cn, c, q2, p, ps, rfl, ca.same s13, pa.same s3, co, cf, ok, ia, RunP.imp (fun H' h => ?_) (by cases c <;> first | rfl | cases ia) (rp.mono s13)⟩
        walk_at "w"
        exact h
theorem ok_Console_run (T : Txt w K mg) : OwnM P w K mg base (He.ga K "Console") "run" 12 ["self", "command"] (spRun K) := (ok_Console_run2 T).m
end
end Bt

set_option Elab.async false
set_option linter.all false
set_option maxRecDepth 100000
set_option maxHeartbeats 4000000
/-! the law: draws, plans -/
namespace Bt
open PySem L2
set_option pp.maxSteps 900
local macro_rules | `(tactic| walk_at "lk") => `(tactic| first
  | assumption
  | exact upd_same
  | (refine at_new ?_ ?_; · assumption
     walk_at "lk")
  | (refine at_mut ?_ ?_; · assumption
     walk_at "lk")
  | (refine at_same ?_ ?_; · assumption
     walk_at "lk"))
local macro_rules | `(tactic| walk_at "w1") => `(tactic| with_reducible first
  | refine w_seq ?_ | refine w_asg ?_ | refine w_name ?_ | refine w_ret ?_ | refine w_retN ?_ | refine w_drop ?_ | refine w_next ?_
  | refine w_op ?_ | refine w_var rfl ?_ | refine w_c ?_ | refine w_un ?_ | refine w_test ?_ | refine w_tB ?_ | refine w_bl ?_ | refine w_chain ?_
  | refine w_and ?_ | refine w_or ?_ | refine w_not ?_ | refine w_andV ?_ | refine w_orV ?_ | refine w_notV ?_ | refine w_cons ?_ | refine w_nil ?_
  | refine w_par ?_ | refine w_parL ?_ | refine w_call ?_ | refine w_CB ?_ | refine w_prop ?_ | refine w_fld ?_ | refine w_meth ?_ | refine w_make ?_ | refine w_tup ?_ | refine w_lst ?_
  | refine w_I0 ?_ | refine w_U ?_ | refine w_addI ?_ | refine w_eqI ?_ | refine w_eqS ?_ | refine w_neI ?_ | refine w_neS ?_ | refine w_isN ?_ | refine w_notN ?_
  | refine w_tt ?_ | refine w_ff ?_ | refine w_nt ?_ | refine w_nf ?_ | refine w_ntt ?_ | refine w_att ?_ | refine w_js ?_ | refine w_jsN ?_ | refine w_fmtS ?_ | refine w_m1 ?_ | refine w_m1L ?_ | refine w_sfld ?_ | refine w_bm ?_ | refine w_dc ?_ | refine w_iIt ?_ | refine w_star ?_ | refine w_mkO ?_ | refine w_raise ?_ | refine w_osg ?_ | refine w_gfld ?_ | refine w_kget ?_ | refine w_dget ?_ | refine w_din ?_ | refine w_dnotin ?_ | refine w_slice ?_ | refine w_on ?_ | refine w_os ?_ | refine w_sub ?_ | refine w_bmN ?_ | refine w_intI ?_ | refine w_intB ?_ | refine w_strS ?_
  | refine w_lc ?_ | refine w_for ?_ | refine w_iL ?_ | refine w_iT ?_ | refine w_iS ?_ | refine w_iK ?_ | refine w_iR1 ?_ | refine w_iR3 ?_ | refine w_iET ?_ | refine w_srcS ?_)
local macro_rules | `(tactic| walk_at "w") => `(tactic| (repeat walk_at "w1"); try (with_reducible refine w_ifN ?_))
local macro_rules | `(tactic| walk_at "ws") => `(tactic| with_reducible first | refine w_seq ?_ | refine w_next ?_)
local macro_rules | `(tactic| walk_at "w2") => `(tactic| repeat with_reducible first | refine w_seq ?_ | refine w_asg ?_ | refine w_name ?_ | refine w_next ?_)
local macro_rules | `(tactic| walk_at "sz") => `(tactic| (rw [sizeLine_eq]; exact Nat.le_of_ble_eq_true rfl))
/-- an urn stands at u -/
def Urn (H : Hp) (u : Addr) : Prop := ∃ a b c : Int, H u = some (.lst [.int a, .int b, .int c])
/-- a plan, as the law has it -/
def PlanAt (H : Hp) (p : Addr) (pl : Plan) : Prop := ∃ q, H p = some (.lst [.int pl.1, .ref q]) ∧ TN H q (pl.2.map V.int)
theorem nv_plan {d : Int} {q : Addr} : ¬ Vary (.lst [.int d, .ref q]) := fun h => by
  rcases h with ⟨_, _, _, z⟩ | ⟨_, _, _, z⟩ | ⟨_, z⟩
  rotate_right
  · cases z
  · cases z
  · injection z with z
    injection z with _ z
    injection z with z _
    cases z
theorem PlanAt.stay {H H' : Hp} {p : Addr} {pl : Plan} (s : Stay H H') (h : PlanAt H p pl) : PlanAt H' p pl := by
  obtain ⟨q, e, t⟩ := h
  exact ⟨q, s _ _ nv_plan e, t.stay s⟩
theorem Urn.keep {H H' : Hp} {u : Addr} (h : Urn H u) (k : Keep u H H') : Stay H H' := by
  obtain ⟨a, b, c, e⟩ := h
  exact Keep.stay (.inr (.inl ⟨a, b, c, rfl⟩)) e k
theorem Urn.same {H H' : Hp} {u : Addr} (h : Urn H u) (s : Same H H') : Urn H' u := by
  obtain ⟨a, b, c, e⟩ := h
  exact ⟨a, b, c, s _ _ e⟩
theorem Keep.trans {H H1 H2 : Hp} {u : Addr} (a : Keep u H H1) (b : Keep u H1 H2) : Keep u H H2 := fun x o n h => b x o n (a x o n h)
theorem Same.keep {H H1 : Hp} {u : Addr} (a : Same H H1) : Keep u H H1 := fun x o _ h => a x o h
theorem Keep.refl {H : Hp} {u : Addr} : Keep u H H := fun _ _ _ h => h
section
variable {P : Program} {w : World} {K : Frag} {mg : Str → Option Value} {base : Heap} {H : Hp} {Q : VK} {σ : L2.St}
/-- a, b = a list of two that stands -/
theorem w_unl2 {D : L2.St → Hp → Prop} {a : Addr} {x y : V} {g1 g2 : TG} (e : H a = some (.lst [x, y])) (h : g1 x σ H fun σ' H' => g2 y σ' H' D) : gUnl K 2 (gCons g1 (gCons g2 gNil)) (.ref a) σ H D := by
  have hq : (fun σ2 H2 => gNil [] σ2 H2 D) = D := by { funext a b; exact propext ⟨fun z => z.2, fun z => ⟨rfl, z⟩⟩ }
  have e2 : (fun (σ' : L2.St) (H' : Hp) => gCons g2 gNil [y] σ' H' D) = fun σ' H' => g2 y σ' H' D := by
    funext σ' H'
    exact propext ⟨fun ⟨v, r, er, hh⟩ => by cases er; rw [hq] at hh; exact hh, fun hh => ⟨y, [], rfl, by rw [hq]; exact hh⟩⟩
  exact ⟨a, [x, y], rfl, SqL.of e, rfl, x, [y], rfl, by rw [e2]; exact h⟩
theorem atI3_0 {a b c : V} : atI [a, b, c] 0 = some a := rfl
def spGrab : Sp := fun vs H Q _ => ∃ u m, vs = [.ref u, .int m] ∧ Urn H u ∧ 0 < m ∧ m < 1000000 ∧ ∀ i H', 0 ≤ i → i < m → Keep u H H' → Urn H' u → Q (.int i) H'
abbrev s__law_grab : Stmt := top 106
theorem sc__law_grab : FnScope ["_law_urn_here", "_law_top", "_law_base", "_law_figure"] ["_law_urn_here", "_law_top"] (defScope s__law_grab) := ⟨rfl, rfl, rfl, by decide +kernel, rfl, by decide +kernel, by decide +kernel⟩
theorem ok_law_grab (T : Txt w K mg) : Own P w K mg base "_law_grab" 1 ["_law_urn_here", "_law_top"] spGrab := by
  refine own_of T.f_law_grab sc__law_grab (fun _ _ _ _ _ _ us hl => match us, hl with | [_, _], _ => rfl) (fun vs H Q E h => ?_) (fun f cdv A outer s H vs Q E hr h => ?_)
  · obtain ⟨u, m, rfl, _⟩ := h; rfl
  · have sc := sc__law_grab
    obtain ⟨u, m, rfl, ⟨a, b, c, e⟩, m0, m1, k⟩ := h
    refine ⟨_, (pss_cons (ps_if (pt_cmpR op_gt (pe_ix ix_seq (pv 0) pe_int (fun _ _ => rfl)) pe_int (nomark _)) (pss_cons (ps_set (i := 3) sc.nd rfl (Or.inl rfl) (pe_op op_mod (pe_callTy call_intU (by rfl) T.b_int (by decide +kernel) (pa_cons (pe_ix ix_seq (pv 0) pe_int (fun _ _ => rfl)) pa_nil)) (pv 1)))
      (pss_cons (ps_asg (pe_op op_fdiv (pe_ix ix_seq (pv 0) pe_int (fun _ _ => rfl)) (pv 1)) (pg_sub (pv 0) pe_int set_list))
      (pss_one (ps_ret (pv 3))))) pss_nil)
      (pss_cons (ps_asg (pe_op op_addU (pe_ix ix_seq (pv 0) pe_int (fun _ _ => rfl)) pe_int) (pg_sub (pv 0) pe_int set_list))
      (pss_cons (ps_set (i := 2) sc.nd rfl (Or.inl rfl) (pe_op op_mod (pe_callTy call_intU (by rfl) T.b_int (by decide +kernel) (pa_cons (pe_op op_addU (pe_ix ix_seq (pv 0) pe_int (fun _ _ => rfl)) (pe_op op_mulU pe_int (pe_ix ix_seq (pv 0) pe_int (fun _ _ => rfl)))) pa_nil)) pe_int))
      (pss_cons (ps_asg (pe_op op_mod (pe_callTy call_intU (by rfl) T.b_int (by decide +kernel) (pa_cons (pe_op op_addU (pe_op op_addU (pe_op op_mulU (pv 2) (pe_op op_addU (pe_op op_mod (pe_callTy call_intU (by rfl) T.b_int (by decide +kernel) (pa_cons (pv 2) pa_nil)) pe_int) pe_int)) (pe_op op_mulU pe_int (pe_ix ix_seq (pv 0) pe_int (fun _ _ => rfl)))) pe_int) pa_nil)) pe_int) (pg_sub (pv 0) pe_int set_list))
      (pss_one (ps_ret (pe_op op_mod (pe_op op_fdiv (pe_callTy call_intU (by rfl) T.b_int (by decide +kernel) (pa_cons (pe_ix ix_seq (pv 0) pe_int (fun _ _ => rfl)) pa_nil)) pe_int) (pv 1)))))))), ?_⟩
    walk_at "w"
    refine w_ifb (decide (0 < a)) (fun q hq => ?_) (fun c1 => ?_) (fun c1 => ?_)
    · walk_at "w"
      refine w_ixLa e rfl ?_
      walk_at "w"
      exact hq
    · walk_at "w"
      refine w_ixLa e rfl ?_
      walk_at "w"
      refine w_I m0 ?_
      walk_at "w"
      refine w_ixLa e rfl ?_
      walk_at "w"
      refine w_I ⟨m0, by omega⟩ ?_
      walk_at "w"
      refine w_setL e rfl ?_
      walk_at "w"
      exact k _ _ (Int.emod_nonneg _ (by omega)) (Int.emod_lt_of_pos _ m0) (fun x o n h => at_mut n h) ⟨_, _, _, upd_same⟩
    · walk_at "w"
      refine w_ixLa e rfl ?_
      walk_at "w"
      refine w_setL e rfl ?_
      walk_at "w"
      refine w_ixLa upd_same rfl ?_
      walk_at "w"
      refine w_ixLa upd_same rfl ?_
      refine w_mulI (.inl ⟨by decide, by decide⟩) ?_
      walk_at "w"
      refine w_I (by decide) ?_
      walk_at "w"
      have b0 := Int.emod_nonneg (b + 58013 * (c + 1)) (show (2147483353 : Int) ≠ 0 by decide)
      have b1 := Int.emod_lt_of_pos (b + 58013 * (c + 1)) (show (0 : Int) < 2147483353 by decide)
      refine w_I (by decide) ?_
      walk_at "w"
      refine w_mulI (.inl ⟨by omega, by omega⟩) ?_
      walk_at "w"
      refine w_ixLa upd_same rfl ?_
      refine w_mulI (.inl ⟨by decide, by decide⟩) ?_
      walk_at "w"
      refine w_I (by decide) ?_
      walk_at "w"
      refine w_setL upd_same rfl ?_
      walk_at "w"
      refine w_ixLa upd_same rfl ?_
      walk_at "w"
      refine w_I ⟨by decide, by decide⟩ ?_
      walk_at "w"
      refine w_I m0 ?_
      exact k _ _ (Int.emod_nonneg _ (by omega)) (Int.emod_lt_of_pos _ m0) (fun x o n h => at_mut n (at_mut n h)) ⟨_, _, _, upd_same⟩
def spTake : Sp := fun vs H Q _ => ∃ u l ys, vs = [.ref u, .ref l] ∧ Urn H u ∧ H l = some (.lst ys) ∧ l ≠ u ∧ 0 < ys.length ∧ ys.length < 1000 ∧ ∀ v ∈ ys, ∀ H', Keep u H H' → Urn H' u → Q v H'
abbrev s__law_take : Stmt := top 107
theorem sc__law_take : FnScope ["_law_urn_here", "_law_some"] ["_law_urn_here", "_law_some"] (defScope s__law_take) := ⟨rfl, rfl, rfl, by decide +kernel, rfl, by decide +kernel, by decide +kernel⟩
theorem ok_law_take (T : Txt w K mg) : Own P w K mg base "_law_take" 2 ["_law_urn_here", "_law_some"] spTake := by
  refine own_of T.f_law_take sc__law_take (fun _ _ _ _ _ _ us hl => match us, hl with | [_, _], _ => rfl) (fun vs H Q E h => ?_) (fun f cdv A outer s H vs Q E hr h => ?_)
  · obtain ⟨u, l, ys, rfl, _⟩ := h; rfl
  · have sc := sc__law_take
    obtain ⟨u, l, ys, rfl, hu, e, ne, l0, l1, k⟩ := h
    refine ⟨_, (pss_one (ps_ret (pe_ix ix_seq (pv 1) (pe_own (ok_law_grab T) hr passN (pa_cons (pv 0) (pa_cons (pe_callB (call_lenU) (by rfl) T.b_len (by decide +kernel) (pa_cons (pv 1) pa_nil)) pa_nil))) (fun _ _ => rfl)))), ?_⟩
    walk_at "w"
    refine w_lenL e ?_
    walk_at "w"
    refine ⟨u, _, rfl, hu, by omega, by omega, fun i H' i0 i1 kp hu' => ?_⟩
    obtain ⟨n, rfl⟩ := Int.eq_ofNat_of_zero_le i0
    have hn : n < ys.length := by omega
    exact w_ixLa (kp _ _ ne e) (atI_nat (List.getElem?_eq_getElem hn)) (k _ (List.getElem_mem hn) _ kp hu')
def spMany : Sp := fun vs H Q _ => ∃ p pl, vs = [.ref p] ∧ PlanAt H p pl ∧ Q (.int ((pl.2.length : Int) - pl.1 - 1)) H
abbrev s__law_many : Stmt := top 109
theorem sc__law_many : FnScope ["_law_plan"] ["_law_plan"] (defScope s__law_many) := ⟨rfl, rfl, rfl, by decide +kernel, rfl, by decide +kernel, by decide +kernel⟩
theorem ok_law_many (T : Txt w K mg) : Own P w K mg base "_law_many" 1 ["_law_plan"] spMany := by
  refine own_of T.f_law_many sc__law_many (fun _ _ _ _ _ _ us hl => match us, hl with | [_], _ => rfl) (fun vs H Q E h => ?_) (fun f cdv A outer s H vs Q E hr h => ?_)
  · obtain ⟨p, pl, rfl, _⟩ := h; rfl
  · have sc := sc__law_many
    obtain ⟨p, pl, rfl, ⟨q, e, t⟩, k⟩ := h
    refine ⟨_, (pss_one (ps_ret (pe_op op_sub (pe_op op_sub (pe_callB (call_lenU) (by rfl) T.b_len (by decide +kernel) (pa_cons (pe_ix ix_seq (pv 0) pe_int (fun _ _ => rfl)) pa_nil)) (pe_ix ix_seq (pv 0) pe_int (fun _ _ => rfl))) pe_int))), ?_⟩
    walk_at "w"
    refine w_ixLa e rfl ?_
    walk_at "w"
    refine w_lenN t ?_
    walk_at "w"
    refine w_ixLa e rfl ?_
    walk_at "w"
    rw [List.length_map]
    exact k
def spFramed (K : Frag) : Sp := fun vs H Q _ => ∃ p pl, vs = [.ref p] ∧ PlanAt H p pl ∧ PlanOk pl.1 pl.2 ∧ ∀ a H', Same H H' → FrameAt K H' a pl.1 pl.2 → Q (.ref a) H'
abbrev s__law_framed : Stmt := top 110
theorem sc__law_framed : FnScope ["_law_plan"] ["_law_plan"] (defScope s__law_framed) := ⟨rfl, rfl, rfl, by decide +kernel, rfl, by decide +kernel, by decide +kernel⟩
theorem ok_law_framed (T : Txt w K mg) : Own P w K mg base "_law_framed" 7 ["_law_plan"] (spFramed K) := by
  refine own_of T.f_law_framed sc__law_framed (fun _ _ _ _ _ _ us hl => match us, hl with | [_], _ => rfl) (fun vs H Q E h => ?_) (fun f cdv A outer s H vs Q E hr h => ?_)
  · obtain ⟨p, pl, rfl, _⟩ := h; rfl
  · have sc := sc__law_framed
    obtain ⟨p, pl, rfl, ⟨q, e, t⟩, ok, k⟩ := h
    refine ⟨_, (pss_one (ps_ret (pe_ownC (ok_Frame_init T) hr passN (pa_cons (pe_ix ix_seq (pv 0) pe_int (fun _ _ => rfl)) (pa_cons (pe_ix ix_seq (pv 0) pe_int (fun _ _ => rfl)) pa_nil))))), ?_⟩
    walk_at "w"
    refine w_ixLa e rfl ?_
    walk_at "w"
    refine w_ixLa e rfl ?_
    walk_at "w"
    intro x dxp hx hdx hne
    have nqx : q ≠ x := fun z => by
      obtain ⟨o, z2, _⟩ := t
      rw [z, hx] at z2; cases z2
    refine ⟨x, dxp, pl.1, q, pl.2, rfl, upd_same, (t.new hdx).mut nqx, ok, fun H2 kp f2 => ⟨rfl, ?_⟩⟩
    exact k x H2 (fun b o e => kp b o (ne_of_none e hx) (at_mut (ne_of_none e hx) (at_new hdx e))) f2
def spLUp : Sp := fun vs H Q _ => ∃ p pl h x, vs = [.ref p, .int h, .int x] ∧ PlanAt H p pl ∧ 0 ≤ pl.1 ∧ 0 ≤ h ∧ h + pl.1 + 1 < pl.2.length ∧ Q (.bl (up pl.1 pl.2 h x)) H
abbrev s__law_is_up : Stmt := top 112
theorem sc__law_is_up : FnScope ["_law_plan", "_law_hill", "_law_x", "_law_degree", "_law_knots"] ["_law_plan", "_law_hill", "_law_x"] (defScope s__law_is_up) := ⟨rfl, rfl, rfl, by decide +kernel, rfl, by decide +kernel, by decide +kernel⟩
theorem ok_law_is_up (T : Txt w K mg) : Own P w K mg base "_law_is_up" 1 ["_law_plan", "_law_hill", "_law_x"] spLUp := by
  refine own_of T.f_law_is_up sc__law_is_up (fun _ _ _ _ _ _ us hl => match us, hl with | [_, _, _], _ => rfl) (fun vs H Q E h => ?_) (fun f cdv A outer s H vs Q E hr h => ?_)
  · obtain ⟨p, pl, h, x, rfl, _⟩ := h; rfl
  · have sc := sc__law_is_up
    have hu64 := hr.units
    obtain ⟨p, ⟨d, ks⟩, h, x, rfl, ⟨q, e, t⟩, d0, h0, h1, k⟩ := h
    dsimp only at e t d0 h1 k
    refine ⟨_, (pss_cons (ps_asg (pv 0) (pg_unl (n := 2) rfl (pgs_cons (pg_name (i := 3) sc.nd rfl (Or.inl rfl)) (pgs_cons (pg_name (i := 4) sc.nd rfl (Or.inl rfl)) pgs_nil))))
      (pss_cons (ps_if (pt_chain op_lt op_lt (pe_ix ix_seq (pv 4) (pv 1) (fun _ _ => rfl)) (pv 2) (pe_ix ix_seq (pv 4) (pe_op op_addU (pe_op op_addU (pv 1) (pv 3)) pe_int) (fun _ _ => rfl))) (pss_one (ps_ret pe_bl)) pss_nil)
      (pss_one (ps_ret (pe_or (pe_chain (op_eqU (by exact hu64)) (op_eqU (by exact hu64)) (pv 2) (pe_ix ix_seq (pv 4) (pv 1) (fun _ _ => rfl)) (pe_ix ix_seq (pv 4) (pe_op op_addU (pv 1) (pv 3)) (fun _ _ => rfl))) (pe_one (pe_chain (op_eqU (by exact hu64)) (op_eqU (by exact hu64)) (pv 2) (pe_ix ix_seq (pv 4) (pe_un un_neg pe_int) (fun _ _ => rfl)) (pe_ix ix_seq (pv 4) (pe_op op_addU (pv 1) pe_int) (fun _ _ => rfl))))))))), ?_⟩
    walk_at "w"
    refine w_unl2 e ?_
    walk_at "w"
    have ge : ∀ {i : Int}, 0 ≤ i → i < ks.length → atI (ks.map V.int) i = some (.int (kat ks i)) := fun a b => atI_kat a b
    refine w_ifb (decide (kat ks h < x) && decide (x < kat ks (h + d + 1))) (fun q2 hq2 => ?_) (fun c => ?_) (fun c => ?_)
    · walk_at "w"
      refine w_ixN t (ge (by omega) (by omega)) ?_
      walk_at "w"
      refine w_iteAT hq2 fun _ hq3 => ?_
      walk_at "w"
      refine w_ixN t (ge (by omega) (by omega)) ?_
      walk_at "w"
      exact hq3
    · walk_at "w"
      rw [show up d ks h x = true by simp only [up, c, Bool.true_or]] at k
      exact k
    · rw [show up d ks h x = ((decide (x = kat ks h) && decide (kat ks h = kat ks (h + d))) || (decide (x = kat ks ((ks.length : Int) - 1)) && decide (kat ks ((ks.length : Int) - 1) = kat ks (h + 1)))) by
        have z : ∀ a b : Int, (decide (x = a) && decide (x = b)) = (decide (x = a) && decide (a = b)) := fun a b => by
          by_cases y : x = a
          · rw [y]
          · rw [decide_eq_false y]; rfl
        simp only [up, c, Bool.false_or, z]] at k
      walk_at "w"
      refine w_ixN t (ge (by omega) (by omega)) ?_
      walk_at "w"
      by_cases y1 : x = kat ks h
      · rw [decide_eq_true y1, Bool.true_and] at k
        rw [decide_eq_true y1]
        walk_at "w"
        refine w_ixN t (ge (by omega) (by omega)) ?_
        walk_at "w"
        refine w_iteOV k fun _ k2 => ?_
        walk_at "w"
        refine w_ixN t (atI_katLast (by omega)) ?_
        walk_at "w"
        refine w_iteAV k2 fun _ k3 => ?_
        walk_at "w"
        refine w_ixN t (ge (by omega) (by omega)) ?_
        walk_at "w"
        exact k3
      · rw [decide_eq_false y1, Bool.false_and, Bool.false_or] at k
        rw [decide_eq_false y1]
        walk_at "w"
        refine w_ixN t (atI_katLast (by omega)) ?_
        walk_at "w"
        refine w_iteAV k fun _ k3 => ?_
        walk_at "w"
        refine w_ixN t (ge (by omega) (by omega)) ?_
        walk_at "w"
        exact k3
end
end Bt

set_option Elab.async false
set_option linter.all false
set_option maxRecDepth 100000
set_option maxHeartbeats 4000000
/-! rules that the layer lacks: max of three -/
namespace Bt
open PySem PySem.Spec PyProof.Rows L2
theorem call_max3 {X : Cx} (hc : X.calm = true) : CallR X (.builtin "max") (fun xs H Q => ∃ i j k : Int, xs = [.int i, .int j, .int k] ∧ Q (.int (max (max i j) k)) H) := by
  intro pins s σ H xs us Q I r h
  obtain ⟨i, j, k, rfl, q⟩ := h
  cases r with
  | cons r1 r =>
    obtain ⟨u, w', rfl, ⟨t', rfl⟩, ⟨t2, rfl⟩⟩ := vals2 r
    obtain ⟨t, rfl⟩ := r1
    refine max_three_ints (I.ok.hd hc) fun h' tk kk => ⟨_, H, I.kept kk, ?_, q⟩
    by_cases h1 : j > i
    · rw [if_pos h1]
      by_cases h2 : k > j
      · rw [if_pos h2, show max (max i j) k = k by omega]; exact ⟨_, rfl⟩
      · rw [if_neg h2, show max (max i j) k = j by omega]; exact ⟨_, rfl⟩
    · rw [if_neg h1]
      by_cases h2 : k > i
      · rw [if_pos h2, show max (max i j) k = k by omega]; exact ⟨_, rfl⟩
      · rw [if_neg h2, show max (max i j) k = i by omega]; exact ⟨_, rfl⟩
end Bt

set_option Elab.async false
set_option linter.all false
set_option maxRecDepth 100000
set_option maxHeartbeats 4000000
/-! the law: the length of the longest rows of pairs -/
namespace Bt
open PySem L2
set_option pp.maxSteps 900
local macro_rules | `(tactic| walk_at "lk") => `(tactic| first
  | assumption
  | exact upd_same
  | (refine at_new ?_ ?_; · assumption
     walk_at "lk")
  | (refine at_mut ?_ ?_; · assumption
     walk_at "lk")
  | (refine at_same ?_ ?_; · assumption
     walk_at "lk"))
local macro_rules | `(tactic| walk_at "w1") => `(tactic| with_reducible first
  | refine w_seq ?_ | refine w_asg ?_ | refine w_name ?_ | refine w_ret ?_ | refine w_retN ?_ | refine w_drop ?_ | refine w_next ?_
  | refine w_op ?_ | refine w_var rfl ?_ | refine w_c ?_ | refine w_un ?_ | refine w_test ?_ | refine w_tB ?_ | refine w_bl ?_ | refine w_chain ?_
  | refine w_and ?_ | refine w_or ?_ | refine w_not ?_ | refine w_andV ?_ | refine w_orV ?_ | refine w_notV ?_ | refine w_cons ?_ | refine w_nil ?_
  | refine w_par ?_ | refine w_parL ?_ | refine w_call ?_ | refine w_CB ?_ | refine w_prop ?_ | refine w_fld ?_ | refine w_meth ?_ | refine w_make ?_ | refine w_tup ?_ | refine w_lst ?_
  | refine w_I0 ?_ | refine w_U ?_ | refine w_addI ?_ | refine w_eqI ?_ | refine w_eqS ?_ | refine w_neI ?_ | refine w_neS ?_ | refine w_isN ?_ | refine w_notN ?_
  | refine w_tt ?_ | refine w_ff ?_ | refine w_nt ?_ | refine w_nf ?_ | refine w_ntt ?_ | refine w_att ?_ | refine w_js ?_ | refine w_jsN ?_ | refine w_fmtS ?_ | refine w_m1 ?_ | refine w_m1L ?_ | refine w_sfld ?_ | refine w_bm ?_ | refine w_dc ?_ | refine w_iIt ?_ | refine w_star ?_ | refine w_mkO ?_ | refine w_raise ?_ | refine w_osg ?_ | refine w_gfld ?_ | refine w_kget ?_ | refine w_dget ?_ | refine w_din ?_ | refine w_dnotin ?_ | refine w_slice ?_ | refine w_on ?_ | refine w_os ?_ | refine w_sub ?_ | refine w_bmN ?_ | refine w_intI ?_ | refine w_intB ?_ | refine w_strS ?_
  | refine w_lc ?_ | refine w_for ?_ | refine w_iL ?_ | refine w_iT ?_ | refine w_iS ?_ | refine w_iK ?_ | refine w_iR1 ?_ | refine w_iR3 ?_ | refine w_iET ?_ | refine w_srcS ?_)
local macro_rules | `(tactic| walk_at "w") => `(tactic| (repeat walk_at "w1"); try (with_reducible refine w_ifN ?_))
local macro_rules | `(tactic| walk_at "ws") => `(tactic| with_reducible first | refine w_seq ?_ | refine w_next ?_)
local macro_rules | `(tactic| walk_at "w2") => `(tactic| repeat with_reducible first | refine w_seq ?_ | refine w_asg ?_ | refine w_name ?_ | refine w_next ?_)
local macro_rules | `(tactic| walk_at "sz") => `(tactic| (rw [sizeLine_eq]; exact Nat.le_of_ble_eq_true rfl))
/-- the one row while a place is gone through: up to h new -/
def rowN (U : Nat → Nat → Bool) (i h : Nat) : Nat → Nat := fun j => if j ≤ h then pfx U j (i + 1) else pfx U j i
theorem rowV_last {n : Nat} {f : Nat → Nat} : atI (rowV n f) (-1) = some (.int (f n : Nat)) := by
  unfold atI ixN
  rw [if_neg (by decide), if_pos (by rw [rowV_len]; omega)]
  have e1 : (-1 + ((rowV n f).length : Int)).toNat = n := by rw [rowV_len]; omega
  simp only [e1, Option.bind_some]
  rw [rowV, List.getElem?_map, List.getElem?_range (by omega)]
  rfl
theorem rowV_ext {n : Nat} {f g : Nat → Nat} (e : ∀ j, j ≤ n → f j = g j) : rowV n f = rowV n g := List.map_congr_left fun i hi => by
  have := List.mem_range.mp hi
  rw [e i (by omega)]
theorem rowV_rep (n : Nat) : (List.replicate ((n : Int) + 1).toNat [V.int 0]).flatten = rowV n fun _ => 0 := by
  rw [show ((n : Int) + 1).toNat = n + 1 by omega, List.flatten_replicate_singleton]
  apply List.ext_getElem?
  intro j
  rw [rowV, List.getElem?_map, List.getElem?_replicate]
  by_cases h : j < n + 1
  · rw [if_pos h, List.getElem?_range h]; rfl
  · rw [if_neg h, List.getElem?_eq_none (by simp; omega)]; rfl
section
variable {P : Program} {w : World} {K : Frag} {mg : Str → Option Value} {base : Heap} {H : Hp} {Q : VK} {σ : L2.St}
def spFree : Sp := fun vs H Q _ => ∃ p q pl xs, vs = [.ref p, .ref q] ∧ PlanAt H p pl ∧ PlanOk pl.1 pl.2 ∧ TN H q (xs.map V.int) ∧ xs.length ≤ 20 ∧ ∀ H', Same H H' → Q (.int (rk pl.1 pl.2 xs : Nat)) H'
abbrev s__law_free : Stmt := top 113
theorem sc__law_free : FnScope ["_law_plan", "_law_spots", "_law_best", "_law_x", "_law_last", "_law_hill", "_law_more"] ["_law_plan", "_law_spots"] (defScope s__law_free) := ⟨rfl, rfl, rfl, by decide +kernel, rfl, by decide +kernel, by decide +kernel⟩
theorem ok_law_free (T : Txt w K mg) : Own P w K mg base "_law_free" 2 ["_law_plan", "_law_spots"] spFree := by
  refine own_of T.f_law_free sc__law_free (fun _ _ _ _ _ _ us hl => match us, hl with | [_, _], _ => rfl) (fun vs H Q E h => ?_) (fun f cdv A outer s H vs Q E hr h => ?_)
  · obtain ⟨p, q, pl, xs, rfl, _⟩ := h; rfl
  · have sc := sc__law_free
    have hu64 := hr.units
    obtain ⟨p, q, ⟨d, ks⟩, xs, rfl, pa, ok, tq, lx, k⟩ := h
    dsimp only at ok k
    have d0 := ok.d0; have d4 := ok.d4; have l0 := ok.l0; have l1 := ok.l1
    obtain ⟨n, hn⟩ : ∃ n : Nat, (ks.length : Int) - d - 1 = n := ⟨_, (Int.toNat_of_nonneg (by omega)).symm⟩
    have hN : hillsN d ks = n := by unfold hillsN; rw [hn]; rfl
    refine ⟨_, (pss_cons (ps_set (i := 2) sc.nd rfl (Or.inl rfl) (pe_op op_mulU (pe_lst (pa_cons pe_int pa_nil)) (pe_op op_addU (pe_own (ok_law_many T) hr passN (pa_cons (pv 0) pa_nil)) pe_int)))
      (pss_cons (ps_for (passes_of rfl) rfl (pi_tup (pv 1)) (pg_name (i := 3) sc.nd rfl (Or.inl rfl)) (pss_cons (ps_set (i := 4) sc.nd rfl (Or.inl rfl) (pe_callTy call_list_of (by rfl) T.b_list (by decide +kernel) (pa_cons (pv 2) pa_nil)))
      (pss_one (ps_for (passes_of rfl) rfl (pi_range1 rfl T.b_range (pa_cons (pe_own (ok_law_many T) hr passN (pa_cons (pv 0) pa_nil)) pa_nil)) (pg_name (i := 5) sc.nd rfl (Or.inl rfl)) (pss_cons (ps_set (i := 6) sc.nd rfl (Or.inl rfl) (pe_op op_addU (pe_ix ix_seq (pv 4) (pv 5) (fun _ _ => rfl)) (pe_callTy call_intU (by rfl) T.b_int (by decide +kernel) (pa_cons (pe_own (ok_law_is_up T) hr passN (pa_cons (pv 0) (pa_cons (pv 5) (pa_cons (pv 3) pa_nil)))) pa_nil))))
      (pss_one (ps_asg (pe_callB (call_max3 rfl) (by rfl) T.b_max (by decide +kernel) (pa_cons (pe_ix ix_seq (pv 2) (pv 5) (fun _ _ => rfl)) (pa_cons (pe_ix ix_seq (pv 4) (pe_op op_addU (pv 5) pe_int) (fun _ _ => rfl)) (pa_cons (pv 6) pa_nil)))) (pg_sub (pv 2) (pe_op op_addU (pv 5) pe_int) set_list))))))))
      (pss_one (ps_ret (pe_ix ix_seq (pv 2) (pe_un un_neg pe_int) (fun _ _ => rfl)))))), ?_⟩
    walk_at "w"
    refine ⟨by walk_at "sz", fun a ha => ?_⟩
    walk_at "w"
    have s1 := same_new (o := .lst [.int 0]) ha (Same.refl _)
    refine ⟨p, (d, ks), rfl, pa.stay (Same.stay s1), ?_⟩
    dsimp only
    rw [hn]
    walk_at "w"
    refine w_mulL upd_same (by omega) (by omega) (by decide) fun b hb => ?_
    rw [rowV_rep]
    have hb0 : H b = none := none_of_new hb
    have s2 : Same H (upd (upd H a (.lst [.int 0])) b (.lst (rowV n fun _ => 0))) := same_new hb s1
    generalize hU : upN d ks xs = U at *
    walk_at "w"
    refine w_srcN (tq.same s2) ?_
    refine forB_tup (xs := xs.map V.int) (fun i σ H1 => ∃ v3 v4 v5 v6, σ = [some (.ref p), some (.ref q), some (.ref b), v3, v4, v5, v6] ∧ Same H H1 ∧ H1 b = some (.lst (rowV n fun j => pfx U j i))) ⟨_, _, _, _, rfl, s2, by rw [upd_same]; exact congrArg (fun z => some (HO.lst z)) (rowV_ext fun j _ => pfx_0.symm)⟩ (fun i σ H1 _ h => by obtain ⟨_, _, _, _, _, s, _⟩ := h; exact (tq.same s).sq) (fun i x σ H1 hx h => ?_) fun σ H1 h => ?_
    · obtain ⟨v3, v4, v5, v6, rfl, s3, e3⟩ := h
      obtain ⟨hi, rfl⟩ := getE_kat hx
      walk_at "w"
      refine ⟨b, _, rfl, .inl (SqL.of e3), fun c hc => ?_⟩
      have ncb : b ≠ c := ne_of_none e3 hc
      have s4 := same_new (o := .lst (rowV n fun j => pfx U j i)) hc s3
      walk_at "w"
      refine ⟨p, (d, ks), rfl, pa.stay (Same.stay s4), ?_⟩
      dsimp only
      rw [hn]
      refine w_srcR (by omega) (by omega) ?_
      rw [show ((n : Nat) : Int).toNat = n by omega]
      refine forB_range (fun h σ H2 => ∃ v5 v6, σ = [some (.ref p), some (.ref q), some (.ref b), some (.int (kat xs i)), some (.ref c), v5, v6] ∧ Same H H2 ∧ H2 b = some (.lst (rowV n (rowN U i h))) ∧ H2 c = some (.lst (rowV n fun j => pfx U j i))) ⟨_, _, rfl, s4, ?_, upd_same⟩ (fun h σ H2 hh hI => ?_) fun σ H2 hI => ?_
      · rw [upd_ne ncb, e3]
        exact congrArg (fun z => some (HO.lst z)) (rowV_ext fun j _ => by
          unfold rowN
          split
          · rw [show j = 0 by omega]; simp [pfx]
          · rfl)
      · obtain ⟨v5, v6, rfl, s5, e5, e6⟩ := hI
        have hz : ((0 : Int) + (h : Nat)) = (h : Nat) := by omega
        rw [hz]
        walk_at "w"
        refine w_ixLa e6 (rowV_at (by omega) (by omega)) ?_
        walk_at "w"
        refine ⟨p, (d, ks), _, _, rfl, pa.stay (Same.stay s5), d0, by omega, by show ((h : Nat) : Int) + d + 1 < (ks.length : Int); omega, ?_⟩
        dsimp only
        walk_at "w"
        refine w_ixLa e5 (rowV_at (by omega) (by omega)) ?_
        walk_at "w"
        refine w_ixLa e6 (rowV_at (by omega) (by omega)) ?_
        walk_at "w"
        refine ⟨_, _, _, rfl, ?_⟩
        have xu : up d ks ((h : Nat) : Int) (kat xs i) = U h i := by rw [← hU]; rfl
        have ev : max (max ((rowN U i h ((h : Nat) : Int).toNat : Nat) : Int) ((pfx U (((h : Nat) : Int) + 1).toNat i : Nat) : Int)) (((pfx U ((h : Nat) : Int).toNat i : Nat) : Int) + (if up d ks ((h : Nat) : Int) (kat xs i) = true then 1 else 0)) = ((pfx U (h + 1) (i + 1) : Nat) : Int) := by
          rw [xu, show ((h : Nat) : Int).toNat = h by omega, show (((h : Nat) : Int) + 1).toNat = h + 1 by omega]
          rw [show rowN U i h h = pfx U h (i + 1) by unfold rowN; rw [if_pos (Nat.le_refl _)]]
          rw [show pfx U (h + 1) (i + 1) = max (max (pfx U h (i + 1)) (pfx U (h + 1) i)) (pfx U h i + (if U h i = true then 1 else 0)) by rw [pfx]]
          split <;> omega
        rw [ev]
        walk_at "w"
        have jx : ixN (rowV n (rowN U i h)).length (((h : Nat) : Int) + 1) = some (h + 1) := by
          unfold ixN
          rw [rowV_len, if_pos (by omega), if_pos (by omega)]
          congr 1
        refine w_setL e5 jx ?_
        have ncb2 : c ≠ b := Ne.symm ncb
        refine ⟨_, _, rfl, fun x o e => at_mut (ne_of_none e hb0) (s5 _ _ e), ?_, by rw [upd_ne ncb2]; exact e6⟩
        rw [upd_same, rowV_set (by omega)]
        exact congrArg (fun z => some (HO.lst z)) (rowV_ext fun j _ => by
          unfold rowN
          by_cases h1 : j = h + 1
          · subst h1; rw [if_pos rfl, if_pos (Nat.le_refl _)]
          · rw [if_neg h1]
            by_cases h2 : j ≤ h
            · rw [if_pos h2, if_pos (by omega)]
            · rw [if_neg h2, if_neg (by omega)])
      · obtain ⟨v5, v6, rfl, s5, e5, e6⟩ := hI
        refine ⟨_, _, _, _, rfl, s5, ?_⟩
        rw [e5]
        exact congrArg (fun z => some (HO.lst z)) (rowV_ext fun j hj => by unfold rowN; rw [if_pos hj])
    · obtain ⟨v3, v4, v5, v6, rfl, s3, e3⟩ := h
      walk_at "w"
      refine w_ixLa e3 rowV_last ?_
      rw [List.length_map]
      have k2 := k _ s3
      unfold rk at k2
      rw [hN, hU, sfx_pfx] at k2
      exact k2
end
end Bt

set_option Elab.async false
set_option linter.all false
set_option maxRecDepth 100000
set_option maxHeartbeats 4000000
/-! the law: what is shown, what is broken -/
namespace Bt
open PySem L2
set_option pp.maxSteps 900
local macro_rules | `(tactic| walk_at "lk") => `(tactic| first
  | assumption
  | exact upd_same
  | (refine at_new ?_ ?_; · assumption
     walk_at "lk")
  | (refine at_mut ?_ ?_; · assumption
     walk_at "lk")
  | (refine at_same ?_ ?_; · assumption
     walk_at "lk"))
local macro_rules | `(tactic| walk_at "w1") => `(tactic| with_reducible first
  | refine w_seq ?_ | refine w_asg ?_ | refine w_name ?_ | refine w_ret ?_ | refine w_retN ?_ | refine w_drop ?_ | refine w_next ?_
  | refine w_op ?_ | refine w_var rfl ?_ | refine w_c ?_ | refine w_un ?_ | refine w_test ?_ | refine w_tB ?_ | refine w_bl ?_ | refine w_chain ?_
  | refine w_and ?_ | refine w_or ?_ | refine w_not ?_ | refine w_andV ?_ | refine w_orV ?_ | refine w_notV ?_ | refine w_cons ?_ | refine w_nil ?_
  | refine w_par ?_ | refine w_parL ?_ | refine w_call ?_ | refine w_CB ?_ | refine w_prop ?_ | refine w_fld ?_ | refine w_meth ?_ | refine w_make ?_ | refine w_tup ?_ | refine w_lst ?_
  | refine w_I0 ?_ | refine w_U ?_ | refine w_addI ?_ | refine w_eqI ?_ | refine w_eqS ?_ | refine w_neI ?_ | refine w_neS ?_ | refine w_isN ?_ | refine w_notN ?_
  | refine w_tt ?_ | refine w_ff ?_ | refine w_nt ?_ | refine w_nf ?_ | refine w_ntt ?_ | refine w_att ?_ | refine w_js ?_ | refine w_jsN ?_ | refine w_fmtS ?_ | refine w_m1 ?_ | refine w_m1L ?_ | refine w_sfld ?_ | refine w_bm ?_ | refine w_dc ?_ | refine w_iIt ?_ | refine w_star ?_ | refine w_mkO ?_ | refine w_raise ?_ | refine w_osg ?_ | refine w_gfld ?_ | refine w_kget ?_ | refine w_dget ?_ | refine w_din ?_ | refine w_dnotin ?_ | refine w_slice ?_ | refine w_on ?_ | refine w_os ?_ | refine w_sub ?_ | refine w_bmN ?_ | refine w_intI ?_ | refine w_intB ?_ | refine w_strS ?_
  | refine w_lc ?_ | refine w_for ?_ | refine w_iL ?_ | refine w_iT ?_ | refine w_iS ?_ | refine w_iK ?_ | refine w_iR1 ?_ | refine w_iR3 ?_ | refine w_iET ?_ | refine w_srcS ?_)
local macro_rules | `(tactic| walk_at "w") => `(tactic| (repeat walk_at "w1"); try (with_reducible refine w_ifN ?_))
local macro_rules | `(tactic| walk_at "ws") => `(tactic| with_reducible first | refine w_seq ?_ | refine w_next ?_)
local macro_rules | `(tactic| walk_at "w2") => `(tactic| repeat with_reducible first | refine w_seq ?_ | refine w_asg ?_ | refine w_name ?_ | refine w_next ?_)
local macro_rules | `(tactic| walk_at "sz") => `(tactic| (rw [sizeLine_eq]; exact Nat.le_of_ble_eq_true rfl))
abbrev LSh : Hp → Addr → Shelf → Prop := ShAt PlanAt
theorem PlanAt.same {H H' : Hp} {p : Addr} {pl : Plan} (s : Same H H') (h : PlanAt H p pl) : PlanAt H' p pl := h.stay (Same.stay s)
theorem LSh.sameL {H H' : Hp} {s : Addr} {sh : Shelf} (k : Same H H') (h : LSh H s sh) : LSh H' s sh := ShAt.same (fun _ _ r => r.same k) k h
theorem nil_filter {α : Type} {p : α → Bool} {l : List α} : decide (l.filter (fun x => !p x) = []) = l.all p := by
  by_cases h : l.all p = true
  · rw [h]
    exact decide_eq_true (List.filter_eq_nil_iff.mpr fun x hx => by simp [List.all_eq_true.mp h x hx])
  · rw [Bool.eq_false_iff.mpr h]
    exact decide_eq_false fun z => h (List.all_eq_true.mpr fun x hx => by simpa using List.filter_eq_nil_iff.mp z x hx)
section
variable {P : Program} {w : World} {K : Frag} {mg : Str → Option Value} {base : Heap} {H : Hp} {Q : VK} {σ : L2.St}
def spLShown : Sp := fun vs H Q _ => ∃ s c sh wi, vs = [.ref s, .ref c] ∧ LSh H s sh ∧ WishAt H c wi ∧ WishOk wi ∧ Has sh wi ∧ ShOk sh ∧ ∀ q H', Same H H' → H' q = some (.tup [.bl (holds sh wi), shownV sh wi]) → Q (.ref q) H'
abbrev s__law_shown : Stmt := top 115
theorem sc__law_shown : FnScope ["_law_shelf", "_law_wish", "_law_plan", "_law_free_here", "_law_other", "_law_lacking", "_law_knot_here"] ["_law_shelf", "_law_wish"] (defScope s__law_shown) := ⟨rfl, rfl, rfl, by decide +kernel, rfl, by decide +kernel, by decide +kernel⟩
theorem ok_law_shown (T : Txt w K mg) : Own P w K mg base "_law_shown" 3 ["_law_shelf", "_law_wish"] spLShown := by
  refine own_of T.f_law_shown sc__law_shown (fun _ _ _ _ _ _ us hl => match us, hl with | [_, _], _ => rfl) (fun vs H Q E h => ?_) (fun f cdv A outer s H vs Q E hr h => ?_)
  · obtain ⟨s, c, sh, wi, rfl, _⟩ := h; rfl
  · have sc := sc__law_shown
    have hu64 := hr.units
    have hu65 := units65 hr
    have hu1 := units1 hr
    obtain ⟨s, c, sh, wi, rfl, ls, wa, wo, has, so, k⟩ := h
    have gt := has.get (t := wi.title) (by cases wi <;> simp [Wish.titles, Wish.title])
    obtain ⟨pa, dg, pp⟩ := ls.get gt
    refine ⟨_, (pss_cons (ps_set (i := 2) sc.nd rfl (Or.inr rfl) (pe_dget (by exact hu1) (pv 0) (pe_ix ix_seq (pv 1) pe_int (fun _ _ => rfl)) (fun _ _ => rfl)))
      (pss_cons (ps_if (pt_cmpR (op_eqU (by exact hu64)) (pe_ix ix_seq (pv 1) pe_int (fun _ _ => rfl)) pe_str (nomark _)) (pss_cons (ps_set (i := 4) sc.nd rfl (Or.inr rfl) (pe_dget (by exact hu1) (pv 0) (pe_ix ix_seq (pv 1) pe_int (fun _ _ => rfl)) (fun _ _ => rfl)))
      (pss_cons (ps_setLc (i := 5) (own := [("_law_knot_here", 6)]) rfl sc.nd rfl rfl (sw_true rfl rfl rfl (by decide +kernel)) (pi_tup (pe_ix ix_seq (pv 2) pe_int (fun _ _ => rfl))) (blkOk_by (by rfl)) (fun _ _ _ _ _ => (pg_name (i := 6) sc.nd rfl (Or.inl rfl))) (fun _ _ _ _ _ => (pts_one (pt_cmpR op_gt (pe_tcount K (pe_ix (ix_seqK K) (pv 2) pe_int (fun _ _ => rfl)) (pa_cons (pv 6) pa_nil) (by exact hu65)) (pe_tcount K (pe_ix (ix_seqK K) (pv 4) pe_int (fun _ _ => rfl)) (pa_cons (pv 6) pa_nil) (by exact hu65)) (nomark _)))) (fun _ _ _ _ _ => (pv 6)))
      (pss_one (ps_ret (pe_tup (pa_cons (pe_and (pe_cmpR (op_eqU (by exact hu64)) (pe_ix ix_seq (pv 2) pe_int (fun _ _ => rfl)) (pe_ix ix_seq (pv 4) pe_int (fun _ _ => rfl)) (nomark _)) (pe_one (pe_cmpR (op_eqU (by exact hu64)) (pv 5) (pe_lst pa_nil) (nomark _)))) (pa_cons pe_non pa_nil))))))) pss_nil)
      (pss_cons (ps_set (i := 3) sc.nd rfl (Or.inl rfl) (pe_own (ok_law_free T) hr passN (pa_cons (pv 2) (pa_cons (pe_ix ix_seq (pv 1) pe_int (fun _ _ => rfl)) pa_nil))))
      (pss_cons (ps_if (pt_cmpR (op_eqU (by exact hu64)) (pe_ix ix_seq (pv 1) pe_int (fun _ _ => rfl)) pe_str (nomark _)) (pss_one (ps_ret (pe_tup (pa_cons (pe_cmpR op_ge (pv 3) (pe_ix ix_seq (pv 1) pe_int (fun _ _ => rfl)) (nomark _)) (pa_cons (pv 3) pa_nil))))) pss_nil)
      (pss_one (ps_ret (pe_tup (pa_cons (pe_and (pe_cmpR (op_eqU (by exact hu64)) (pv 3) (pe_callB (call_lenU) (by rfl) T.b_len (by decide +kernel) (pa_cons (pe_ix ix_seq (pv 1) pe_int (fun _ _ => rfl)) pa_nil)) (nomark _)) (pe_one (pe_or (pe_cmpR (op_eqU (by exact hu64)) (pe_ix ix_seq (pv 1) pe_int (fun _ _ => rfl)) pe_str (nomark _)) (pe_one (pe_cmpR (op_eqU (by exact hu64)) (pv 3) (pe_own (ok_law_many T) hr passN (pa_cons (pv 2) pa_nil)) (nomark _)))))) (pa_cons (pv 3) pa_nil))))))))), ?_⟩
    walk_at "w"
    cases wi with
    | wi a b =>
      have e : H c = some (.tup [.str "within", .str a, .str b]) := wa
      refine w_ixTa e rfl ?_
      refine ⟨s, _, rfl, dg, ?_⟩
      walk_at "w"
      refine w_ifb true (fun q hq => ?_) (fun _ => ?_) (fun c => nomatch c)
      · walk_at "w"
        refine w_ixTa e rfl ?_
        walk_at "w"
        rw [show decide ((("within" : Str)) = Str.ofString "within") = true by decide]
        exact hq
      · have gb := has.get (t := b) (by simp [Wish.titles])
        obtain ⟨pb, dgb, ppb⟩ := ls.get gb
        obtain ⟨q1, e1, t1⟩ := id pp
        obtain ⟨q2, e2, t2⟩ := id ppb
        walk_at "w"
        refine w_ixTa e rfl ?_
        refine ⟨s, _, rfl, dgb, ?_⟩
        walk_at "w"
        refine w_ixLa e1 rfl ?_
        refine w_srcN t1 ?_
        have ok1 : PlanOk (plOf sh a).1 (plOf sh a).2 := so a _ gt
        refine w_lcP (yl_tupN t1) (fun x => match x with | .int i => decide (((plOf sh b).2.count i : Int) < ((plOf sh a).2.count i : Int)) | _ => false) id (by rw [List.length_map]; have := ok1.l1; have := ok1.d4; show (plOf sh a).2.length < _; omega) (fun _ => rfl) (fun x hx H' s' q hq => ?_) (fun x hx _ H' s' q hq => ?_) fun p2 H' hp s' ef => ?_
        · obtain ⟨i, hi, rfl⟩ := List.mem_map.mp hx
          walk_at "w"
          refine w_ixLa (s' _ _ e1) rfl ?_
          refine w_bmNL (t1.same s') ?_
          walk_at "w"
          refine w_cntT (t1.same s') ?_
          walk_at "w"
          refine w_ixLa (s' _ _ e2) rfl ?_
          refine w_bmNL (t2.same s') ?_
          walk_at "w"
          refine w_cntT (t2.same s') ?_
          walk_at "w"
          exact hq _ (Same.refl _)
        · walk_at "w"
          exact hq _ (Same.refl _)
        · rw [List.map_id, List.filter_map] at ef
          walk_at "w"
          refine w_ixLa (s' _ _ e1) rfl ?_
          walk_at "w"
          refine w_ixLa (s' _ _ e2) rfl ?_
          have e1' : V.int (plOf sh (Wish.wi a b).title).1 = V.int (plOf sh a).1 := rfl
          have hin : holds sh (.wi a b) = (decide ((plOf sh a).1 = (plOf sh b).1) && decide ((plOf sh a).2.filter (fun i => !decide ((plOf sh a).2.count i ≤ (plOf sh b).2.count i)) = [])) := by
            show inside _ _ _ _ = _
            unfold inside
            rw [nil_filter]
          have ef2 : H' p2 = some (.lst (((plOf sh a).2.filter (fun i => !decide ((plOf sh a).2.count i ≤ (plOf sh b).2.count i))).map V.int)) := by
            rw [ef]
            refine congrArg (fun z => some (HO.lst z)) (congrArg (List.map V.int) (List.filter_congr fun i _ => ?_))
            show decide (((plOf sh b).2.count i : Int) < ((plOf sh a).2.count i : Int)) = !decide ((plOf sh a).2.count i ≤ (plOf sh b).2.count i)
            by_cases z : (plOf sh a).2.count i ≤ (plOf sh b).2.count i
            · rw [decide_eq_true z, decide_eq_false (by omega)]; rfl
            · rw [decide_eq_false z, decide_eq_true (by omega)]; rfl
          generalize hb0 : (plOf sh a).2.filter (fun i => !decide ((plOf sh a).2.count i ≤ (plOf sh b).2.count i)) = bs at *
          by_cases z : (plOf sh a).1 = (plOf sh b).1
          · rw [decide_eq_true z, Bool.true_and] at hin
            refine w_eqI ?_
            rw [show decide ((plOf sh (Wish.wi a b).title).1 = (plOf sh b).1) = true from decide_eq_true z]
            walk_at "w"
            refine ⟨by walk_at "sz", fun u hu => ?_⟩
            have ev : PyData.eqv (.list (bs.map PyData.int)) (.list []) = decide (bs = []) := by
              have y := ev_ints bs []
              simp only [List.map_nil] at y
              simp only [PyData.eqv, y]
            refine w_eqD (.lst (SqL.of (at_new hu ef2)) (dp_ints bs)) (dp_nilL upd_same) (pl_ints bs) rfl (Nat.le_trans (Nat.min_le_right _ _) (by decide)) ?_
            rw [ev, ← hin]
            walk_at "w"
            refine ⟨by walk_at "sz", fun q hq => ?_⟩
            walk_at "w"
            exact k q _ (same_new hq (same_new hu s')) upd_same
          · rw [decide_eq_false z, Bool.false_and] at hin
            refine w_eqI ?_
            rw [show decide ((plOf sh (Wish.wi a b).title).1 = (plOf sh b).1) = false from decide_eq_false z]
            walk_at "w"
            refine ⟨by walk_at "sz", fun q hq => ?_⟩
            walk_at "w"
            exact k q _ (same_new hq s') (by rw [hin]; exact upd_same)
    | rank t xs n =>
      obtain ⟨sp, e, ts⟩ := wa
      have ok1 : PlanOk (plOf sh t).1 (plOf sh t).2 := so t _ gt
      refine w_ixTa e rfl ?_
      refine ⟨s, _, rfl, dg, ?_⟩
      walk_at "w"
      refine w_ifb false (fun q hq => ?_) (fun c => nomatch c) (fun _ => ?_)
      · walk_at "w"
        refine w_ixTa e rfl ?_
        walk_at "w"
        rw [show decide ((("rank" : Str)) = Str.ofString "within") = false by decide]
        exact hq
      · walk_at "w"
        refine w_ixTa e rfl ?_
        walk_at "w"
        refine ⟨pa, sp, plOf sh t, xs, rfl, pp, ok1, ts, by have := wo.1.l12; omega, fun H1 s1 => ?_⟩
        walk_at "w"
        refine w_ifb true (fun q hq => ?_) (fun _ => ?_) (fun c => nomatch c)
        · walk_at "w"
          refine w_ixTa (s1 _ _ e) rfl ?_
          walk_at "w"
          rw [show decide ((("rank" : Str)) = Str.ofString "rank") = true by decide]
          exact hq
        · walk_at "w"
          refine w_ixTa (s1 _ _ e) rfl ?_
          walk_at "w"
          refine ⟨by walk_at "sz", fun q hq => ?_⟩
          walk_at "w"
          exact k q _ (same_new hq s1) upd_same
    | al one t xs =>
      obtain ⟨sp, e, ts⟩ := wa
      have ok1 : PlanOk (plOf sh t).1 (plOf sh t).2 := so t _ gt
      have hd : ∀ z : Str, z = "within" ∨ z = "rank" → decide ((if one = true then "one" else "all" : Str) = z) = false := fun z hz => by rcases hz with rfl | rfl <;> cases one <;> decide
      have wo1 : PlOk xs := wo
      refine w_ixTa e rfl ?_
      refine ⟨s, _, rfl, dg, ?_⟩
      walk_at "w"
      refine w_ifb false (fun q hq => ?_) (fun c => nomatch c) (fun _ => ?_)
      · walk_at "w"
        refine w_ixTa e rfl ?_
        walk_at "w"
        rw [hd _ (.inl rfl)]
        exact hq
      · walk_at "w"
        refine w_ixTa e rfl ?_
        walk_at "w"
        refine ⟨pa, sp, plOf sh t, xs, rfl, pp, ok1, ts, by have := wo1.l12; omega, fun H1 s1 => ?_⟩
        walk_at "w"
        refine w_ifb false (fun q hq => ?_) (fun c => nomatch c) (fun _ => ?_)
        · walk_at "w"
          refine w_ixTa (s1 _ _ e) rfl ?_
          walk_at "w"
          rw [hd _ (.inr rfl)]
          exact hq
        · have fin : ∀ z : Bool, z = holds sh (.al one t xs) → ∀ q, H1 q = none → Q (.ref q) (upd H1 q (.tup [.bl z, .int (rk (plOf sh t).1 (plOf sh t).2 xs : Nat)])) := fun z hz q hq => k q _ (same_new hq s1) (by rw [hz]; exact upd_same)
          walk_at "w"
          refine w_ixTa (s1 _ _ e) rfl ?_
          walk_at "w"
          refine w_lenN (ts.same s1) ?_
          rw [List.length_map]
          walk_at "w"
          have ho : decide ((if one = true then "one" else "all" : Str) = ("all" : Str)) = !one := by cases one <;> decide
          by_cases z1 : ((rk (plOf sh t).1 (plOf sh t).2 xs : Nat) : Int) = xs.length
          · rw [decide_eq_true z1]
            walk_at "w"
            refine w_ixTa (s1 _ _ e) rfl ?_
            walk_at "w"
            rw [ho]
            cases one with
            | false =>
              walk_at "w"
              refine ⟨by walk_at "sz", fun q hq => ?_⟩
              walk_at "w"
              exact fin _ (by show _ = (decide (((rk (plOf sh t).1 (plOf sh t).2 xs : Nat) : Int) = xs.length) && _); rw [decide_eq_true z1]; rfl) q hq
            | true =>
              walk_at "w"
              refine ⟨pa, plOf sh t, rfl, pp.same s1, ?_⟩
              walk_at "w"
              refine ⟨by walk_at "sz", fun q hq => ?_⟩
              walk_at "w"
              exact fin _ (by show _ = (decide (((rk (plOf sh t).1 (plOf sh t).2 xs : Nat) : Int) = xs.length) && _); rw [decide_eq_true z1]; rfl) q hq
          · rw [decide_eq_false z1]
            walk_at "w"
            refine ⟨by walk_at "sz", fun q hq => ?_⟩
            walk_at "w"
            exact fin _ (by show _ = (decide (((rk (plOf sh t).1 (plOf sh t).2 xs : Nat) : Int) = xs.length) && _); rw [decide_eq_false z1]; rfl) q hq
end
end Bt

set_option Elab.async false
set_option linter.all false
set_option maxRecDepth 100000
set_option maxHeartbeats 4000000
/-! rules that the layer lacks: repr of an int, of None, of a text -/
namespace Bt
open PySem PySem.Spec PyProof.Rows L2
/-- what repr answers of an int, of None, of a text -/
def rpTx : V → Str
  | .int i => Str.ofString (toString i)
  | .str z => reprText z
  | _ => "None"
def RpIn (x : V) : Prop := (∃ i : Int, x = .int i ∧ i.natAbs.log2 < 1920) ∨ x = .non
theorem call_reprU {X : Cx} : CallR X (.builtin "repr") (fun xs H Q => ∃ x, xs = [x] ∧ (((∃ i : Int, x = .int i ∧ i.natAbs.log2 < 1920) ∨ x = .non) ∨ ∃ z, x = .str z ∧ (reprText z).length ≤ sizeLine) ∧ Q (.str (rpTx x)) H) := by
  intro pins s σ H xs us Q I r h
  obtain ⟨x, rfl, hx, q⟩ := h
  obtain ⟨u, rfl, r1⟩ := vals1 r
  rcases hx with (⟨i, rfl, hz⟩ | rfl) | ⟨z, rfl, hz⟩
  · obtain ⟨t, rfl⟩ := r1
    exact PySem.P.repr_of_int hz ⟨.str _, H, I.tok _, ⟨_, rfl⟩, q⟩
  · cases r1
    exact PySem.P.repr_of_none ⟨.str _, H, I.tok _, ⟨_, rfl⟩, q⟩
  · obtain ⟨t, rfl⟩ := r1
    exact PySem.P.repr_of_str ⟨.str _, H, I.tok _, ⟨_, rfl⟩, q⟩ hz
theorem w_repr {x : V} {R : V → Prop} (hx : (∃ i : Int, x = .int i ∧ i.natAbs.log2 < 1920) ∨ x = .non) (h : R x) : ∃ y, [x] = [y] ∧ (((∃ i : Int, y = .int i ∧ i.natAbs.log2 < 1920) ∨ y = .non) ∨ ∃ z, y = .str z ∧ (reprText z).length ≤ sizeLine) ∧ R y := ⟨x, rfl, .inl hx, h⟩
theorem w_reprS {z : Str} {R : V → Prop} (hz : (reprText z).length ≤ sizeLine) (h : R (.str z)) : ∃ y, [V.str z] = [y] ∧ (((∃ i : Int, y = .int i ∧ i.natAbs.log2 < 1920) ∨ y = .non) ∨ ∃ z, y = .str z ∧ (reprText z).length ≤ sizeLine) ∧ R y := ⟨.str z, rfl, .inr ⟨z, rfl, hz⟩, h⟩
end Bt

set_option Elab.async false
set_option linter.all false
set_option maxRecDepth 100000
set_option maxHeartbeats 4000000
/-! the law: what is broken -/
namespace Bt
open PySem L2
set_option pp.maxSteps 900
local macro_rules | `(tactic| walk_at "lk") => `(tactic| first
  | assumption
  | exact upd_same
  | (refine at_new ?_ ?_; · assumption
     walk_at "lk")
  | (refine at_mut ?_ ?_; · assumption
     walk_at "lk")
  | (refine at_same ?_ ?_; · assumption
     walk_at "lk"))
local macro_rules | `(tactic| walk_at "w1") => `(tactic| with_reducible first
  | refine w_seq ?_ | refine w_asg ?_ | refine w_name ?_ | refine w_ret ?_ | refine w_retN ?_ | refine w_drop ?_ | refine w_next ?_
  | refine w_op ?_ | refine w_var rfl ?_ | refine w_c ?_ | refine w_un ?_ | refine w_test ?_ | refine w_tB ?_ | refine w_bl ?_ | refine w_chain ?_
  | refine w_and ?_ | refine w_or ?_ | refine w_not ?_ | refine w_andV ?_ | refine w_orV ?_ | refine w_notV ?_ | refine w_cons ?_ | refine w_nil ?_
  | refine w_par ?_ | refine w_parL ?_ | refine w_call ?_ | refine w_CB ?_ | refine w_prop ?_ | refine w_fld ?_ | refine w_meth ?_ | refine w_make ?_ | refine w_tup ?_ | refine w_lst ?_
  | refine w_I0 ?_ | refine w_U ?_ | refine w_addI ?_ | refine w_eqI ?_ | refine w_eqS ?_ | refine w_neI ?_ | refine w_neS ?_ | refine w_isN ?_ | refine w_notN ?_
  | refine w_tt ?_ | refine w_ff ?_ | refine w_nt ?_ | refine w_nf ?_ | refine w_ntt ?_ | refine w_att ?_ | refine w_js ?_ | refine w_jsN ?_ | refine w_fmtS ?_ | refine w_m1 ?_ | refine w_m1L ?_ | refine w_sfld ?_ | refine w_bm ?_ | refine w_dc ?_ | refine w_iIt ?_ | refine w_star ?_ | refine w_mkO ?_ | refine w_raise ?_ | refine w_osg ?_ | refine w_gfld ?_ | refine w_kget ?_ | refine w_dget ?_ | refine w_din ?_ | refine w_dnotin ?_ | refine w_slice ?_ | refine w_on ?_ | refine w_os ?_ | refine w_sub ?_ | refine w_bmN ?_ | refine w_intI ?_ | refine w_intB ?_ | refine w_strS ?_
  | refine w_lc ?_ | refine w_for ?_ | refine w_iL ?_ | refine w_iT ?_ | refine w_iS ?_ | refine w_iK ?_ | refine w_iR1 ?_ | refine w_iR3 ?_ | refine w_iET ?_ | refine w_srcS ?_)
local macro_rules | `(tactic| walk_at "w") => `(tactic| (repeat walk_at "w1"); try (with_reducible refine w_ifN ?_))
local macro_rules | `(tactic| walk_at "ws") => `(tactic| with_reducible first | refine w_seq ?_ | refine w_next ?_)
local macro_rules | `(tactic| walk_at "w2") => `(tactic| repeat with_reducible first | refine w_seq ?_ | refine w_asg ?_ | refine w_name ?_ | refine w_next ?_)
local macro_rules | `(tactic| walk_at "sz") => `(tactic| (rw [sizeLine_eq]; exact Nat.le_of_ble_eq_true rfl))
def WlAt (H : Hp) (p : Addr) (ws : List Wish) : Prop := ∃ as : List Addr, H p = some (.lst (as.map V.ref)) ∧ Paired (WishAt H) as ws
theorem WlAt.same {H H' : Hp} {p : Addr} {ws : List Wish} (s : Same H H') (h : WlAt H p ws) : WlAt H' p ws := by
  obtain ⟨as, e, ps⟩ := h
  exact ⟨as, s _ _ e, Paired.imp (fun _ _ r => r.same s) ps⟩
def badV : Option (Nat × V) → List V
  | none => []
  | some (i, v) => [.str "Broken", .str (rpTx (.int (i : Nat))), .str (rpTx v)]
theorem log_small {i : Int} (h : i.natAbs < 2 ^ 100) : i.natAbs.log2 < 1920 := by
  by_cases z : i.natAbs = 0
  · rw [z]; decide
  · exact Nat.lt_of_lt_of_le ((Nat.log2_lt z).mpr h) (by decide)
section
variable {P : Program} {w : World} {K : Frag} {mg : Str → Option Value} {base : Heap} {H : Hp} {Q : VK} {σ : L2.St}
theorem sfx_le {U : Nat → Nat → Bool} {n m : Nat} : ∀ a b : Nat, sfx U n m a b ≤ b := by
  intro a
  induction a with
  | zero => intro b; simp [sfx]
  | succ a ia =>
    intro b
    induction b with
    | zero => simp [sfx]
    | succ b ib =>
      have h1 := ia (b + 1)
      have h2 := ia b
      rw [sfx]
      split <;> omega
theorem rk_le (d : Int) (ks xs : List Int) : rk d ks xs ≤ xs.length := sfx_le _ _
theorem shown_rp {sh : Shelf} {c : Wish} (wo : WishOk c) : (∃ i : Int, shownV sh c = .int i ∧ i.natAbs.log2 < 1920) ∨ shownV sh c = .non := by
  have hr : ∀ t xs, PlOk xs → (∃ i : Int, V.int (rk (plOf sh t).1 (plOf sh t).2 xs : Nat) = .int i ∧ i.natAbs.log2 < 1920) := fun t xs h => ⟨_, rfl, log_small (by
    have h1 := rk_le (plOf sh t).1 (plOf sh t).2 xs
    have h2 := h.l12
    exact Nat.lt_of_lt_of_le (show ((rk (plOf sh t).1 (plOf sh t).2 xs : Nat) : Int).natAbs < 13 by omega) (by decide))⟩
  cases c with
  | wi a b => exact .inr rfl
  | rank t xs n => exact .inl (hr t xs wo.1)
  | al one t xs => exact .inl (hr t xs wo)
def spLBroken : Sp := fun vs H Q _ => ∃ s l sh ws, vs = [.ref s, .ref l] ∧ LSh H s sh ∧ WlAt H l ws ∧ WsOk sh ws ∧ ShOk sh ∧ ws.length ≤ 100 ∧ ∀ q H', Same H H' → H' q = some (.lst (badV (bad sh 0 ws))) → Q (.ref q) H'
abbrev s__law_broken : Stmt := top 116
theorem sc__law_broken : FnScope ["_law_shelf", "_law_wishes", "_law_k", "_law_fine", "_law_shown_here"] ["_law_shelf", "_law_wishes"] (defScope s__law_broken) := ⟨rfl, rfl, rfl, by decide +kernel, rfl, by decide +kernel, by decide +kernel⟩
theorem ok_law_broken (T : Txt w K mg) : Own P w K mg base "_law_broken" 4 ["_law_shelf", "_law_wishes"] spLBroken := by
  refine own_of T.f_law_broken sc__law_broken (fun _ _ _ _ _ _ us hl => match us, hl with | [_, _], _ => rfl) (fun vs H Q E h => ?_) (fun f cdv A outer s H vs Q E hr h => ?_)
  · obtain ⟨s, l, sh, ws, rfl, _⟩ := h; rfl
  · have sc := sc__law_broken
    have hu64 := hr.units
    obtain ⟨sd, lw, sh, ws, rfl, sa, wa, wo, so, hlen, k⟩ := h
    obtain ⟨as, e, ps⟩ := id wa
    have hal := Paired.len ps
    refine ⟨_, (pss_cons (ps_for (passes_of rfl) rfl (pi_range1 rfl T.b_range (pa_cons (pe_callB (call_lenU) (by rfl) T.b_len (by decide +kernel) (pa_cons (pv 1) pa_nil)) pa_nil)) (pg_name (i := 2) sc.nd rfl (Or.inl rfl)) (pss_cons (ps_asg (pe_own (ok_law_shown T) hr passN (pa_cons (pv 0) (pa_cons (pe_ix ix_seq (pv 1) (pv 2) (fun _ _ => rfl)) pa_nil))) (pg_tup rfl (pgs_cons (pg_name (i := 3) sc.nd rfl (Or.inl rfl)) (pgs_cons (pg_name (i := 4) sc.nd rfl (Or.inl rfl)) pgs_nil))))
      (pss_one (ps_if (pt_not (pt_val (pv 3))) (pss_one (ps_ret (pe_lst (pa_cons pe_str (pa_cons (pe_callB call_reprU (by rfl) T.b_repr (by decide +kernel) (pa_cons (pv 2) pa_nil)) (pa_cons (pe_callB call_reprU (by rfl) T.b_repr (by decide +kernel) (pa_cons (pv 4) pa_nil)) pa_nil)))))) pss_nil))))
      (pss_one (ps_ret (pe_lst pa_nil)))), ?_⟩
    walk_at "w"
    refine w_lenL e ?_
    rw [List.length_map, hal]
    refine w_srcR (by omega) (by omega) ?_
    refine forB_range (fun i σ H' => ∃ a b c, σ = [some (.ref sd), some (.ref lw), a, b, c] ∧ Same H H' ∧ bad sh 0 ws = bad sh i (ws.drop i)) ⟨_, _, _, rfl, Same.refl _, rfl⟩ (fun i σ H' hi h => ?_) (fun σ H' h => ?_)
    · obtain ⟨a, b, c1, rfl, s1, hb⟩ := h
      have hia : i < as.length := by omega
      have hiw : i < ws.length := hi
      obtain ⟨y, hy, ry⟩ := Paired.at_ ps (List.getElem?_eq_getElem hiw)
      have hd : ws.drop i = ws[i] :: ws.drop (i + 1) := List.drop_eq_getElem_cons hiw
      obtain ⟨ok1, ok2⟩ := wo _ (List.getElem_mem hiw)
      rw [hd, bad] at hb
      generalize ws[i] = wi at *
      have hat : atI (as.map V.ref) ((0 : Int) + (i : Nat)) = some (.ref y) := by
        rw [Int.zero_add]
        exact atI_nat (by rw [List.getElem?_map, hy]; rfl)
      walk_at "w"
      refine w_ixLa (s1 _ _ e) hat ?_
      refine ⟨sd, y, sh, wi, rfl, sa.sameL s1, ry.same s1, ok1, ok2, so, fun q H1 s2 e1 => ?_⟩
      refine w_unp2 e1 ?_
      walk_at "w"
      refine w_ifb (!holds sh wi) (fun q hq => ?_) (fun c1 => ?_) fun c1 => ?_
      · walk_at "w"
        exact hq
      · rw [if_neg (by simpa using c1)] at hb
        walk_at "w"
        refine w_repr (.inl ⟨_, rfl, log_small (Nat.lt_of_lt_of_le (show ((0 : Int) + (i : Nat)).natAbs < 101 by omega) (by decide))⟩) ?_
        walk_at "w"
        refine w_repr (shown_rp ok1) ?_
        walk_at "w"
        refine ⟨by walk_at "sz", fun q2 hq2 => ?_⟩
        walk_at "w"
        refine k q2 _ (same_new hq2 (s1.trans s2)) ?_
        rw [hb, Int.zero_add]
        exact upd_same
      · rw [if_pos (by simpa using c1)] at hb
        walk_at "w"
        exact ⟨_, _, _, rfl, s1.trans s2, hb⟩
    · obtain ⟨a, b, c, rfl, s1, hb⟩ := h
      walk_at "w"
      refine ⟨by walk_at "sz", fun q hq => ?_⟩
      walk_at "w"
      refine k q _ (same_new hq s1) ?_
      rw [hb, List.drop_eq_nil_of_le (show ws.length ≤ (ws.length : Int).toNat by omega)]
      exact upd_same
end
end Bt

set_option Elab.async false
set_option linter.all false
set_option maxRecDepth 100000
set_option maxHeartbeats 4000000
/-! the law: a deed as a command's text -/
namespace Bt
open PySem L2
set_option pp.maxSteps 900
local macro_rules | `(tactic| walk_at "lk") => `(tactic| first
  | assumption
  | exact upd_same
  | (refine at_new ?_ ?_; · assumption
     walk_at "lk")
  | (refine at_mut ?_ ?_; · assumption
     walk_at "lk")
  | (refine at_same ?_ ?_; · assumption
     walk_at "lk"))
local macro_rules | `(tactic| walk_at "w1") => `(tactic| with_reducible first
  | refine w_seq ?_ | refine w_asg ?_ | refine w_name ?_ | refine w_ret ?_ | refine w_retN ?_ | refine w_drop ?_ | refine w_next ?_
  | refine w_op ?_ | refine w_var rfl ?_ | refine w_c ?_ | refine w_un ?_ | refine w_test ?_ | refine w_tB ?_ | refine w_bl ?_ | refine w_chain ?_
  | refine w_and ?_ | refine w_or ?_ | refine w_not ?_ | refine w_andV ?_ | refine w_orV ?_ | refine w_notV ?_ | refine w_cons ?_ | refine w_nil ?_
  | refine w_par ?_ | refine w_parL ?_ | refine w_call ?_ | refine w_CB ?_ | refine w_prop ?_ | refine w_fld ?_ | refine w_meth ?_ | refine w_make ?_ | refine w_tup ?_ | refine w_lst ?_
  | refine w_I0 ?_ | refine w_U ?_ | refine w_addI ?_ | refine w_eqI ?_ | refine w_eqS ?_ | refine w_neI ?_ | refine w_neS ?_ | refine w_isN ?_ | refine w_notN ?_
  | refine w_tt ?_ | refine w_ff ?_ | refine w_nt ?_ | refine w_nf ?_ | refine w_ntt ?_ | refine w_att ?_ | refine w_js ?_ | refine w_jsN ?_ | refine w_fmtS ?_ | refine w_m1 ?_ | refine w_m1L ?_ | refine w_sfld ?_ | refine w_bm ?_ | refine w_dc ?_ | refine w_iIt ?_ | refine w_star ?_ | refine w_mkO ?_ | refine w_raise ?_ | refine w_osg ?_ | refine w_gfld ?_ | refine w_kget ?_ | refine w_dget ?_ | refine w_din ?_ | refine w_dnotin ?_ | refine w_slice ?_ | refine w_on ?_ | refine w_os ?_ | refine w_sub ?_ | refine w_bmN ?_ | refine w_intI ?_ | refine w_intB ?_ | refine w_strS ?_
  | refine w_lc ?_ | refine w_for ?_ | refine w_iL ?_ | refine w_iT ?_ | refine w_iS ?_ | refine w_iK ?_ | refine w_iR1 ?_ | refine w_iR3 ?_ | refine w_iET ?_ | refine w_srcS ?_)
local macro_rules | `(tactic| walk_at "w") => `(tactic| (repeat walk_at "w1"); try (with_reducible refine w_ifN ?_))
local macro_rules | `(tactic| walk_at "ws") => `(tactic| with_reducible first | refine w_seq ?_ | refine w_next ?_)
local macro_rules | `(tactic| walk_at "w2") => `(tactic| repeat with_reducible first | refine w_seq ?_ | refine w_asg ?_ | refine w_name ?_ | refine w_next ?_)
local macro_rules | `(tactic| walk_at "sz") => `(tactic| (rw [sizeLine_eq]; exact Nat.le_of_ble_eq_true rfl))
def DeedAt (H : Hp) (p : Addr) : Cmd → Prop
  | .put t d ks => ∃ a, H p = some (.lst [.str "put", .str t, .ref a]) ∧ PlanAt H a (d, ks)
  | .claim c => ∃ a, H p = some (.lst [.str "claim", .ref a]) ∧ WishAt H a c
  | .lift i => H p = some (.lst [.str "lift", .int (i : Nat)])
  | .drop t => H p = some (.lst [.str "drop", .str t])
  | _ => False
theorem tx1 (a : Str) : Txt.join (Str.ofString " ") [a] = a := by rw [TL.join_eq]; rfl
theorem tx2 (a b : Str) (r : List Str) : Txt.join (Str.ofString " ") (a :: b :: r) = a ++ Str.ofString " " ++ Txt.join (Str.ofString " ") (b :: r) := by rw [TL.join_eq, TL.join_eq]; rfl
theorem name_len3 {t : Str} (h : t ∈ names3) : t.length ≤ 4 := by
  simp only [names3, List.mem_cons, List.not_mem_nil, or_false] at h
  rcases h with rfl | rfl | rfl <;> decide
theorem put_tx {t : Str} {d : Int} {ks : List Int} (h : ks ≠ []) : cmdTx (.put t d ks) = Str.ofString "put " ++ t ++ Str.ofString " degree " ++ nTx d ++ Str.ofString " knots " ++ Txt.join (Str.ofString " ") (ks.map nTx) := by
  cases ks with
  | nil => exact absurd rfl h
  | cons a r =>
    show Txt.join _ (Str.ofString "put" :: t :: Str.ofString "degree" :: nTx d :: Str.ofString "knots" :: nTx a :: r.map nTx) = _
    rw [tx2, tx2, tx2, tx2, tx2]
    rw [show Str.ofString "put " = Str.ofString "put" ++ Str.ofString " " by decide, show Str.ofString " degree " = Str.ofString " " ++ (Str.ofString "degree" ++ Str.ofString " ") by decide, show Str.ofString " knots " = Str.ofString " " ++ (Str.ofString "knots" ++ Str.ofString " ") by decide]
    simp only [Str.append_assoc, List.map_cons]
theorem claim_tx {c : Wish} {h t : Str} {r : List Int} (n : r ≠ []) (e : c.words = h :: t :: r.map nTx) : cmdTx (.claim c) = Str.ofString "claim " ++ h ++ Str.ofString " " ++ t ++ Str.ofString " " ++ Txt.join (Str.ofString " ") (r.map nTx) := by
  show Txt.join _ (Str.ofString "claim" :: c.words) = _
  rw [e]
  cases r with
  | nil => exact absurd rfl n
  | cons a r =>
    rw [List.map_cons, tx2, tx2, tx2, show Str.ofString "claim " = Str.ofString "claim" ++ Str.ofString " " by decide]
    simp only [Str.append_assoc]
section
variable {P : Program} {w : World} {K : Frag} {mg : Str → Option Value} {base : Heap} {H : Hp} {Q : VK} {σ : L2.St}
def spWritten : Sp := fun vs H Q _ => ∃ p c, vs = [.ref p] ∧ DeedAt H p c ∧ CmdOk c ∧ ∀ H', Same H H' → Q (.str (cmdTx c)) H'
abbrev s__law_written : Stmt := top 122
theorem sc__law_written : FnScope ["_law_deed", "_law_wish", "_law_numbers", "_law_knots", "_law_each"] ["_law_deed"] (defScope s__law_written) := ⟨rfl, rfl, rfl, by decide +kernel, rfl, by decide +kernel, by decide +kernel⟩
theorem ok_law_written (T : Txt w K mg) : Own P w K mg base "_law_written" 1 ["_law_deed"] spWritten := by
  refine own_of T.f_law_written sc__law_written (fun _ _ _ _ _ _ us hl => match us, hl with | [_], _ => rfl) (fun vs H Q E h => ?_) (fun f cdv A outer s H vs Q E hr h => ?_)
  · obtain ⟨p, c, rfl, _⟩ := h; rfl
  · have sc := sc__law_written
    have hu64 := hr.units
    obtain ⟨p, c, rfl, da, co, k⟩ := h
    refine ⟨_, (pss_cons (ps_if (pt_cmpR (op_eqU (by exact hu64)) (pe_ix ix_seq (pv 0) pe_int (fun _ _ => rfl)) pe_str (nomark _)) (pss_cons (ps_set (i := 3) sc.nd rfl (Or.inl rfl) (pe_join pe_str (pe_lc (own := [("_law_each", 4)]) rfl sc.nd (pi_tup (pe_ix ix_seq (pe_ix ix_seq (pv 0) pe_int (fun _ _ => rfl)) pe_int (fun _ _ => rfl))) (blkOk_by (by rfl)) (fun _ _ _ _ _ => (pg_name (i := 4) sc.nd rfl (Or.inl rfl))) (fun _ _ _ _ _ => pts_nil) (fun _ _ _ _ _ => (pe_callTy call_strU (by rfl) T.b_str (by decide +kernel) (pa_cons (pv 4) pa_nil))))))
      (pss_one (ps_ret (pe_op op_addU (pe_op op_addU (pe_op op_addU (pe_op op_addU (pe_op op_addU pe_str (pe_ix ix_seq (pv 0) pe_int (fun _ _ => rfl))) pe_str) (pe_callTy call_strU (by rfl) T.b_str (by decide +kernel) (pa_cons (pe_ix ix_seq (pe_ix ix_seq (pv 0) pe_int (fun _ _ => rfl)) pe_int (fun _ _ => rfl)) pa_nil))) pe_str) (pv 3))))) pss_nil)
      (pss_cons (ps_if (pt_cmpR (op_neU (by exact hu64)) (pe_ix ix_seq (pv 0) pe_int (fun _ _ => rfl)) pe_str (nomark _)) (pss_one (ps_ret (pe_op op_addU (pe_op op_addU (pe_ix ix_seq (pv 0) pe_int (fun _ _ => rfl)) pe_str) (pe_callTy call_strU (by rfl) T.b_str (by decide +kernel) (pa_cons (pe_ix ix_seq (pv 0) pe_int (fun _ _ => rfl)) pa_nil))))) pss_nil)
      (pss_cons (ps_set (i := 1) sc.nd rfl (Or.inl rfl) (pe_ix ix_seq (pv 0) pe_int (fun _ _ => rfl)))
      (pss_cons (ps_if (pt_cmpR (op_eqU (by exact hu64)) (pe_ix ix_seq (pv 1) pe_int (fun _ _ => rfl)) pe_str (nomark _)) (pss_one (ps_ret (pe_op op_addU (pe_op op_addU (pe_op op_addU pe_str (pe_ix ix_seq (pv 1) pe_int (fun _ _ => rfl))) pe_str) (pe_ix ix_seq (pv 1) pe_int (fun _ _ => rfl))))) pss_nil)
      (pss_cons (ps_set (i := 2) sc.nd rfl (Or.inl rfl) (pe_op op_addU (pe_ifExp (pt_cmpR (op_eqU (by exact hu64)) (pe_ix ix_seq (pv 1) pe_int (fun _ _ => rfl)) pe_str (nomark _)) (pe_lst (pa_cons (pe_ix ix_seq (pv 1) pe_int (fun _ _ => rfl)) pa_nil)) (pe_lst pa_nil)) (pe_callTy call_list_of (by rfl) T.b_list (by decide +kernel) (pa_cons (pe_ix ix_seq (pv 1) pe_int (fun _ _ => rfl)) pa_nil))))
      (pss_one (ps_ret (pe_op op_addU (pe_op op_addU (pe_op op_addU (pe_op op_addU (pe_op op_addU pe_str (pe_ix ix_seq (pv 1) pe_int (fun _ _ => rfl))) pe_str) (pe_ix ix_seq (pv 1) pe_int (fun _ _ => rfl))) pe_str) (pe_join pe_str (pe_lc (own := [("_law_each", 4)]) rfl sc.nd (pi_list (pv 2)) (blkOk_by (by rfl)) (fun _ _ _ _ _ => (pg_name (i := 4) sc.nd rfl (Or.inl rfl))) (fun _ _ _ _ _ => pts_nil) (fun _ _ _ _ _ => (pe_callTy call_strU (by rfl) T.b_str (by decide +kernel) (pa_cons (pv 4) pa_nil))))))))))))), ?_⟩
    walk_at "w"
    cases c with
    | put t d ks =>
      obtain ⟨a, e, q1, e1, t1⟩ := da
      have ok : PlanOk d ks := co.2
      have rg : ∀ x ∈ ks, 0 ≤ x ∧ x < 10 ^ 21 := fun x hx => by
        obtain ⟨i, h0, h1, rfl⟩ := mem_kat hx
        have := ok.rg i h0 h1; omega
      have hl : ks.length ≤ 20 := by have := ok.l1; have := ok.d4; omega
      refine w_ifb true (fun q hq => ?_) (fun _ => ?_) (fun c => nomatch c)
      · walk_at "w"
        refine w_ixLa e rfl ?_
        walk_at "w"
        rw [show decide ((("put" : Str)) = Str.ofString "put") = true by decide]
        exact hq
      · walk_at "w"
        refine w_ixLa e rfl ?_
        walk_at "w"
        refine w_ixLa e1 rfl ?_
        refine w_srcN t1 ?_
        refine w_lcM (yl_tupN t1) (fun x => match x with | .int i => .str (Str.ofString (toString i)) | y => y) (by rw [List.length_map]; show ks.length < _; omega) (fun _ => rfl) (fun x hx H' s q hq => ?_) fun p2 H' hp s e2 => ?_
        · obtain ⟨i, hi, rfl⟩ := List.mem_map.mp hx
          walk_at "w"
          have r := rg i hi
          refine w_strI (num_small r.1 r.2).1 ?_
          exact hq H' (Same.refl _)
        · walk_at "w"
          have jb := join_small (ks := ks) rg hl
          refine ⟨_, p2, ks.map fun k => Str.ofString (toString k), rfl, rfl, .inl (SqL.of (by rw [e2, List.map_map, List.map_map]; rfl)), by omega, ?_⟩
          walk_at "w"
          refine w_ixLa (s _ _ e) rfl ?_
          walk_at "w"
          have l0 := name_len3 co.1
          refine w_addS (by rw [sizeLine_eq, show (Str.ofString "put ").length = 4 by decide]; omega) ?_
          walk_at "w"
          refine w_addS (by rw [sizeLine_eq, Str.length_append, show (Str.ofString "put ").length = 4 by decide, show (Str.ofString " degree ").length = 8 by decide]; omega) ?_
          walk_at "w"
          refine w_ixLa (s _ _ e) rfl ?_
          walk_at "w"
          refine w_ixLa (s _ _ e1) rfl ?_
          have nd := num_small (i := d) ok.d0 (by have := ok.d4; omega)
          walk_at "w"
          refine w_strI nd.1 ?_
          have z1 := nd.2
          have z2 : (Str.ofString "put ").length = 4 := by decide
          have z3 : (Str.ofString " degree ").length = 8 := by decide
          have z4 : (Str.ofString " knots ").length = 7 := by decide
          have jl : (Txt.join (Str.ofString " ") (ks.map fun k => Str.ofString (toString k))).length ≤ 440 := Nat.le_trans (join_len _ _) jb
          refine w_addS (by rw [sizeLine_eq]; simp only [Str.length_append]; show _ + (Str.ofString (toString d)).length ≤ _; omega) ?_
          walk_at "w"
          refine w_addS (by rw [sizeLine_eq]; simp only [Str.length_append]; show _ + (Str.ofString (toString d)).length + _ ≤ _; omega) ?_
          walk_at "w"
          refine w_addS (by rw [sizeLine_eq]; simp only [Str.length_append]; show _ + (Str.ofString (toString d)).length + _ + _ ≤ _; omega) ?_
          have z := k _ s
          have h0 : 0 < ks.length := by have := ok.l0; have := ok.d0; omega
          rw [put_tx (fun n => by rw [n] at h0; exact absurd h0 (by decide))] at z
          exact z
    | drop t =>
      have e : H p = some (.lst [.str "drop", .str t]) := da
      refine w_ifb false (fun q hq => ?_) (fun c => nomatch c) (fun _ => ?_)
      · walk_at "w"
        refine w_ixLa e rfl ?_
        walk_at "w"
        rw [show decide ((("drop" : Str)) = Str.ofString "put") = false by decide]
        exact hq
      · walk_at "w"
        refine w_ifb true (fun q hq => ?_) (fun _ => ?_) (fun c => nomatch c)
        · walk_at "w"
          refine w_ixLa e rfl ?_
          walk_at "w"
          rw [show decide ((("drop" : Str)) = Str.ofString "claim") = false by decide]
          exact hq
        · walk_at "w"
          refine w_ixLa e rfl ?_
          walk_at "w"
          refine w_addS (by rw [sizeLine_eq]; decide) ?_
          walk_at "w"
          refine w_ixLa e rfl ?_
          walk_at "w"
          refine w_addS (by have l := name_len3 co; rw [sizeLine_eq, Str.length_append, show (Str.ofString "drop").length = 4 by decide, show (Str.ofString " ").length = 1 by decide]; omega) ?_
          have z := k _ (Same.refl _)
          rw [show cmdTx (.drop t) = Str.ofString "drop" ++ Str.ofString " " ++ t by show Txt.join _ [_, _] = _; rw [tx2, tx1]] at z
          exact z
    | lift i =>
      have e : H p = some (.lst [.str "lift", .int (i : Nat)]) := da
      refine w_ifb false (fun q hq => ?_) (fun c => nomatch c) (fun _ => ?_)
      · walk_at "w"
        refine w_ixLa e rfl ?_
        walk_at "w"
        rw [show decide ((("lift" : Str)) = Str.ofString "put") = false by decide]
        exact hq
      · walk_at "w"
        refine w_ifb true (fun q hq => ?_) (fun _ => ?_) (fun c => nomatch c)
        · walk_at "w"
          refine w_ixLa e rfl ?_
          walk_at "w"
          rw [show decide ((("lift" : Str)) = Str.ofString "claim") = false by decide]
          exact hq
        · walk_at "w"
          refine w_ixLa e rfl ?_
          walk_at "w"
          refine w_addS (by rw [sizeLine_eq]; decide) ?_
          walk_at "w"
          refine w_ixLa e rfl ?_
          walk_at "w"
          have ci : i ≤ 1000 := co
          have ns := num_small (i := (i : Int)) (by omega) (by omega)
          refine w_strI ns.1 ?_
          refine w_addS (by have l := ns.2; rw [sizeLine_eq, Str.length_append, show (Str.ofString "lift").length = 4 by decide, show (Str.ofString " ").length = 1 by decide]; omega) ?_
          have z := k _ (Same.refl _)
          rw [show cmdTx (.lift i) = Str.ofString "lift" ++ Str.ofString " " ++ nTx (i : Nat) by show Txt.join _ [_, _] = _; rw [tx2, tx1]] at z
          exact z
    | claim c =>
      obtain ⟨a, e, wa⟩ := da
      refine w_ifb false (fun q hq => ?_) (fun c => nomatch c) (fun _ => ?_)
      · walk_at "w"
        refine w_ixLa e rfl ?_
        walk_at "w"
        rw [show decide ((("claim" : Str)) = Str.ofString "put") = false by decide]
        exact hq
      · walk_at "w"
        refine w_ifb false (fun q hq => ?_) (fun c => nomatch c) (fun _ => ?_)
        · walk_at "w"
          refine w_ixLa e rfl ?_
          walk_at "w"
          rw [show decide ((("claim" : Str)) = Str.ofString "claim") = true by decide]
          exact hq
        · walk_at "w"
          refine w_ixLa e rfl ?_
          cases c with
          | wi t1 t2 =>
            have e2 : H a = some (.tup [.str "within", .str t1, .str t2]) := wa
            walk_at "w"
            refine w_ifb true (fun q hq => ?_) (fun _ => ?_) (fun c => nomatch c)
            · walk_at "w"
              refine w_ixTa e2 rfl ?_
              walk_at "w"
              rw [show decide ((("within" : Str)) = Str.ofString "within") = true by decide]
              exact hq
            · have l1 := name_len3 (co.2 t1 (by simp [Wish.titles]))
              have l2 := name_len3 (co.2 t2 (by simp [Wish.titles]))
              have z2 : (Str.ofString "claim within ").length = 13 := by decide
              have z3 : (Str.ofString " ").length = 1 := by decide
              walk_at "w"
              refine w_ixTa e2 rfl ?_
              refine w_addS (by rw [sizeLine_eq]; omega) ?_
              walk_at "w"
              refine w_addS (by rw [sizeLine_eq]; simp only [Str.length_append]; omega) ?_
              walk_at "w"
              refine w_ixTa e2 rfl ?_
              refine w_addS (by rw [sizeLine_eq]; simp only [Str.length_append]; omega) ?_
              have z := k _ (Same.refl _)
              rw [show cmdTx (.claim (.wi t1 t2)) = Str.ofString "claim within " ++ t1 ++ Str.ofString " " ++ t2 by
                show Txt.join _ [Str.ofString "claim", Str.ofString "within", _, _] = _
                rw [tx2, tx2, tx2, tx1, show Str.ofString "claim within " = Str.ofString "claim" ++ Str.ofString " " ++ (Str.ofString "within" ++ Str.ofString " ") by decide]
                simp only [Str.append_assoc]] at z
              exact z
          | rank t1 xs n =>
            obtain ⟨sp, e2, ts⟩ := wa
            walk_at "w"
            refine w_ifb false (fun q hq => ?_) (fun c => nomatch c) (fun _ => ?_)
            · walk_at "w"
              refine w_ixTa e2 rfl ?_
              walk_at "w"
              rw [show decide ((("rank" : Str)) = Str.ofString "within") = false by decide]
              exact hq
            · walk_at "w"
              refine w_ifE ?_
              walk_at "w"
              refine w_ixTa e2 rfl ?_
              walk_at "w"
              rw [show decide ((("rank" : Str)) = Str.ofString "rank") = true by decide]
              walk_at "w"
              refine w_ixTa e2 rfl ?_
              walk_at "w"
              refine ⟨by walk_at "sz", fun q hq => ?_⟩
              walk_at "w"
              refine w_ixTa (at_new hq e2) rfl ?_
              walk_at "w"
              refine ⟨sp, _, rfl, .inr (ts.new hq).sq, fun l hl => ?_⟩
              have hx : xs.length ≤ 12 := co.1.1.l12
              refine w_addL (at_new hl upd_same) upd_same (by rw [sizeLine_eq, List.length_map]; show 1 + _ ≤ _; omega) (fun m hm => ?_)
              have sm : Same H (upd (upd (upd H q (.lst [.int n])) l (.lst (xs.map V.int))) m (.lst ([.int n] ++ xs.map V.int))) := same_new hm (same_new hl (same_new hq (Same.refl _)))
              have em : upd (upd (upd H q (.lst [.int n])) l (.lst (xs.map V.int))) m (.lst ([.int n] ++ xs.map V.int)) m = some (.lst ((n :: xs).map V.int)) := upd_same
              have lx : (n :: xs).length ≤ 13 := by rw [List.length_cons]; omega
              have rg : ∀ x ∈ n :: xs, 0 ≤ x ∧ x < 10 ^ 21 := fun x hx => by
                rcases List.mem_cons.mp hx with rfl | hx
                · have := co.1.2.1; have := co.1.2.2; omega
                · have := co.1.1.rng x hx; omega
              generalize upd (upd (upd H q (.lst [.int n])) l (.lst (xs.map V.int))) m (.lst ([.int n] ++ xs.map V.int)) = Hm at sm em ⊢
              walk_at "w"
              refine w_ixTa (sm _ _ e2) rfl ?_
              have lh := (show (Str.ofString "rank").length ≤ 4 by decide)
              have l1 := name_len3 (co.2 t1 (by simp [Wish.titles]))
              have z2 : (Str.ofString "claim ").length = 6 := by decide
              have z3 : (Str.ofString " ").length = 1 := by decide
              refine w_addS (by rw [sizeLine_eq]; omega) ?_
              walk_at "w"
              refine w_addS (by rw [sizeLine_eq]; simp only [Str.length_append]; omega) ?_
              walk_at "w"
              refine w_ixTa (sm _ _ e2) rfl ?_
              refine w_addS (by rw [sizeLine_eq]; simp only [Str.length_append]; omega) ?_
              walk_at "w"
              refine w_addS (by rw [sizeLine_eq]; simp only [Str.length_append]; omega) ?_
              walk_at "w"
              refine w_srcL (SqL.of em) ?_
              refine w_lcM (yl_lst em) (fun x => match x with | .int i => .str (Str.ofString (toString i)) | y => y) (by rw [List.length_map]; omega) (fun _ => rfl) (fun x hx' H' s q hq => ?_) fun p2 H' hp s e3 => ?_
              · obtain ⟨i, hi, rfl⟩ := List.mem_map.mp hx'
                walk_at "w"
                have r := rg i hi
                refine w_strI (num_small r.1 r.2).1 ?_
                exact hq H' (Same.refl _)
              · have jb := join_small (ks := n :: xs) rg (by omega)
                have jl : (Txt.join (Str.ofString " ") (List.map (fun k => Str.ofString (toString k)) (n :: xs))).length ≤ 440 := Nat.le_trans (join_len _ _) jb
                refine ⟨_, p2, List.map (fun k => Str.ofString (toString k)) (n :: xs), rfl, rfl, .inl (SqL.of (by rw [e3, List.map_map, List.map_map]; rfl)), by omega, ?_⟩
                refine w_addS (by rw [sizeLine_eq]; simp only [Str.length_append]; omega) ?_
                have z := k _ (sm.trans s)
                rw [claim_tx (h := "rank") (r := n :: xs) (nomatch ·) rfl] at z
                exact z
          | al one t1 xs =>
            obtain ⟨sp, e2, ts⟩ := wa
            have hd : ∀ z : Str, z = "within" ∨ z = "rank" → decide ((if one = true then "one" else "all" : Str) = z) = false := fun z hz => by rcases hz with rfl | rfl <;> cases one <;> decide
            walk_at "w"
            refine w_ifb false (fun q hq => ?_) (fun c => nomatch c) (fun _ => ?_)
            · walk_at "w"
              refine w_ixTa e2 rfl ?_
              walk_at "w"
              rw [hd _ (.inl rfl)]
              exact hq
            · walk_at "w"
              refine w_ifE ?_
              walk_at "w"
              refine w_ixTa e2 rfl ?_
              walk_at "w"
              rw [hd _ (.inr rfl)]
              walk_at "w"
              refine ⟨by walk_at "sz", fun q hq => ?_⟩
              walk_at "w"
              refine w_ixTa (at_new hq e2) rfl ?_
              walk_at "w"
              refine ⟨sp, _, rfl, .inr (ts.new hq).sq, fun l hl => ?_⟩
              have wo : PlOk xs := co.1
              have hx : xs.length ≤ 12 := wo.l12
              have h1x : 1 ≤ xs.length := wo.l1
              refine w_addL (at_new hl upd_same) upd_same (by rw [sizeLine_eq, List.length_map]; show 0 + _ ≤ _; omega) (fun m hm => ?_)
              have sm : Same H (upd (upd (upd H q (.lst [])) l (.lst (xs.map V.int))) m (.lst ([] ++ xs.map V.int))) := same_new hm (same_new hl (same_new hq (Same.refl _)))
              have em : upd (upd (upd H q (.lst [])) l (.lst (xs.map V.int))) m (.lst ([] ++ xs.map V.int)) m = some (.lst (xs.map V.int)) := upd_same
              have rg : ∀ x ∈ xs, 0 ≤ x ∧ x < 10 ^ 21 := fun x hx => by
                have := wo.rng x hx; omega
              generalize upd (upd (upd H q (.lst [])) l (.lst (xs.map V.int))) m (.lst ([] ++ xs.map V.int)) = Hm at sm em ⊢
              walk_at "w"
              refine w_ixTa (sm _ _ e2) rfl ?_
              have lh := (show (if one = true then "one" else "all" : Str).length ≤ 3 by cases one <;> decide)
              have l1 := name_len3 (co.2 t1 (by simp [Wish.titles]))
              have z2 : (Str.ofString "claim ").length = 6 := by decide
              have z3 : (Str.ofString " ").length = 1 := by decide
              refine w_addS (by rw [sizeLine_eq]; omega) ?_
              walk_at "w"
              refine w_addS (by rw [sizeLine_eq]; simp only [Str.length_append]; omega) ?_
              walk_at "w"
              refine w_ixTa (sm _ _ e2) rfl ?_
              refine w_addS (by rw [sizeLine_eq]; simp only [Str.length_append]; omega) ?_
              walk_at "w"
              refine w_addS (by rw [sizeLine_eq]; simp only [Str.length_append]; omega) ?_
              walk_at "w"
              refine w_srcL (SqL.of em) ?_
              refine w_lcM (yl_lst em) (fun x => match x with | .int i => .str (Str.ofString (toString i)) | y => y) (by rw [List.length_map]; omega) (fun _ => rfl) (fun x hx' H' s q hq => ?_) fun p2 H' hp s e3 => ?_
              · obtain ⟨i, hi, rfl⟩ := List.mem_map.mp hx'
                walk_at "w"
                have r := rg i hi
                refine w_strI (num_small r.1 r.2).1 ?_
                exact hq H' (Same.refl _)
              · have jb := join_small (ks := xs) rg (by omega)
                have jl : (Txt.join (Str.ofString " ") (List.map (fun k => Str.ofString (toString k)) (xs))).length ≤ 440 := Nat.le_trans (join_len _ _) jb
                refine ⟨_, p2, List.map (fun k => Str.ofString (toString k)) (xs), rfl, rfl, .inl (SqL.of (by rw [e3, List.map_map, List.map_map]; rfl)), by omega, ?_⟩
                refine w_addS (by rw [sizeLine_eq]; simp only [Str.length_append]; omega) ?_
                have z := k _ (sm.trans s)
                rw [claim_tx (h := if one = true then "one" else "all") (r := xs) (fun n => by rw [n] at h1x; exact absurd h1x (by decide)) rfl] at z
                exact z
    | undo => exact absurd da id
    | names => exact absurd da id
    | claims => exact absurd da id
    | shw t => exact absurd da id
end
end Bt

set_option Elab.async false
set_option linter.all false
set_option maxRecDepth 100000
set_option maxHeartbeats 4000000
/-! the law: an urn -/
namespace Bt
open PySem L2
set_option pp.maxSteps 900
local macro_rules | `(tactic| walk_at "lk") => `(tactic| first
  | assumption
  | exact upd_same
  | (refine at_new ?_ ?_; · assumption
     walk_at "lk")
  | (refine at_mut ?_ ?_; · assumption
     walk_at "lk")
  | (refine at_same ?_ ?_; · assumption
     walk_at "lk"))
local macro_rules | `(tactic| walk_at "w1") => `(tactic| with_reducible first
  | refine w_seq ?_ | refine w_asg ?_ | refine w_name ?_ | refine w_ret ?_ | refine w_retN ?_ | refine w_drop ?_ | refine w_next ?_
  | refine w_op ?_ | refine w_var rfl ?_ | refine w_c ?_ | refine w_un ?_ | refine w_test ?_ | refine w_tB ?_ | refine w_bl ?_ | refine w_chain ?_
  | refine w_and ?_ | refine w_or ?_ | refine w_not ?_ | refine w_andV ?_ | refine w_orV ?_ | refine w_notV ?_ | refine w_cons ?_ | refine w_nil ?_
  | refine w_par ?_ | refine w_parL ?_ | refine w_call ?_ | refine w_CB ?_ | refine w_prop ?_ | refine w_fld ?_ | refine w_meth ?_ | refine w_make ?_ | refine w_tup ?_ | refine w_lst ?_
  | refine w_I0 ?_ | refine w_U ?_ | refine w_addI ?_ | refine w_eqI ?_ | refine w_eqS ?_ | refine w_neI ?_ | refine w_neS ?_ | refine w_isN ?_ | refine w_notN ?_
  | refine w_tt ?_ | refine w_ff ?_ | refine w_nt ?_ | refine w_nf ?_ | refine w_ntt ?_ | refine w_att ?_ | refine w_js ?_ | refine w_jsN ?_ | refine w_fmtS ?_ | refine w_m1 ?_ | refine w_m1L ?_ | refine w_sfld ?_ | refine w_bm ?_ | refine w_dc ?_ | refine w_iIt ?_ | refine w_star ?_ | refine w_mkO ?_ | refine w_raise ?_ | refine w_osg ?_ | refine w_gfld ?_ | refine w_kget ?_ | refine w_dget ?_ | refine w_din ?_ | refine w_dnotin ?_ | refine w_slice ?_ | refine w_on ?_ | refine w_os ?_ | refine w_sub ?_ | refine w_bmN ?_ | refine w_intI ?_ | refine w_intB ?_ | refine w_strS ?_
  | refine w_lc ?_ | refine w_for ?_ | refine w_iL ?_ | refine w_iT ?_ | refine w_iS ?_ | refine w_iK ?_ | refine w_iR1 ?_ | refine w_iR3 ?_ | refine w_iET ?_ | refine w_srcS ?_)
local macro_rules | `(tactic| walk_at "w") => `(tactic| (repeat walk_at "w1"); try (with_reducible refine w_ifN ?_))
local macro_rules | `(tactic| walk_at "ws") => `(tactic| with_reducible first | refine w_seq ?_ | refine w_next ?_)
local macro_rules | `(tactic| walk_at "w2") => `(tactic| repeat with_reducible first | refine w_seq ?_ | refine w_asg ?_ | refine w_name ?_ | refine w_next ?_)
local macro_rules | `(tactic| walk_at "sz") => `(tactic| (rw [sizeLine_eq]; exact Nat.le_of_ble_eq_true rfl))
section
variable {P : Program} {w : World} {K : Frag} {mg : Str → Option Value} {base : Heap} {H : Hp} {Q : VK} {σ : L2.St}
/-- a if t else b, the heap as it is -/
theorem w_ifV {tt : TT} {ta tb : TE} (b : Bool) (x y : V) (e : ∀ q : Bool → Hp → Prop, q b H → tt σ H q) (h1 : ∀ q : VK, b = true → q x H → ta σ H q) (h2 : ∀ q : VK, b = false → q y H → tb σ H q) (h : Q (if b = true then x else y) H) : tIf tt ta tb σ H Q := e _ (by
  cases b with
  | true => rw [if_pos rfl] at *; exact h1 Q rfl h
  | false => rw [if_neg Bool.false_ne_true] at *; exact h2 Q rfl h)
theorem ite_int {b : Bool} {i j : Int} : ∃ k : Int, (if b = true then V.int i else V.int j) = .int k := by cases b <;> exact ⟨_, rfl⟩
theorem w_tIf {tt : TT} {ta tb : TE} (h : tIf tt ta tb σ H Q) : tIf tt ta tb σ H Q := h
def spUrnI (K : Frag) : Sp := fun vs H Q _ => ∃ (a : Addr) (ns : List Int) (k : Nat), vs = [.ref a, .int (k : Nat)] ∧ SqL K H a (ns.map V.int) ∧ ns.length ≤ 63 ∧ k < 4 ∧ ∀ u H', Same H H' → H u = none → Urn H' u → Q (.ref u) H'
abbrev s__law_urn : Stmt := top 105
theorem sc__law_urn : FnScope ["_law_cells", "_law_k", "_law_each", "_law_digits", "_law_cell", "_law_mixed"] ["_law_cells", "_law_k"] (defScope s__law_urn) := ⟨rfl, rfl, rfl, by decide +kernel, rfl, by decide +kernel, by decide +kernel⟩
theorem ok_law_urn (T : Txt w K mg) : Own P w K mg base "_law_urn" 1 ["_law_cells", "_law_k"] (spUrnI K) := by
  refine own_of T.f_law_urn sc__law_urn (fun _ _ _ _ _ _ us hl => match us, hl with | [_, _], _ => rfl) (fun vs H Q E h => ?_) (fun f cdv A outer s H vs Q E hr h => ?_)
  · obtain ⟨a, ns, k, rfl, _⟩ := h; rfl
  · have sc := sc__law_urn
    obtain ⟨a, ns, n, rfl, e, hl, hk, k⟩ := h
    refine ⟨_, (pss_cons (ps_par (i := 4) (j := 5) (by rfl) sc.nd rfl rfl (by decide) rfl rfl (pa_cons (pe_ifExp (pt_cmpR op_lt (pv 1) (pe_callB (call_lenU) (by rfl) T.b_len (by decide +kernel) (pa_cons (pv 0) pa_nil)) (nomark _)) (pe_callTy call_intU (by rfl) T.b_int (by decide +kernel) (pa_cons (pe_ix ix_seq (pv 0) (pv 1) (fun _ _ => rfl)) pa_nil)) pe_int) (pa_cons (pe_op op_addU (pe_op op_mulU pe_int (pe_op op_addU (pv 1) pe_int)) pe_int) pa_nil)) (by rfl))
      (pss_cons (ps_for (passes_of rfl) rfl (pi_list (pe_slice sl_U (pv 0) po_none (po_some pe_int))) (pg_name (i := 2) sc.nd rfl (Or.inl rfl)) (pss_one (ps_set (i := 5) sc.nd rfl (Or.inl rfl) (pe_op op_mod (pe_callTy call_intU (by rfl) T.b_int (by decide +kernel) (pa_cons (pe_op op_addU (pe_op op_addU (pe_op op_mulU (pv 5) pe_int) (pe_op op_mod (pe_callTy call_intU (by rfl) T.b_int (by decide +kernel) (pa_cons (pv 2) pa_nil)) pe_int)) (pe_op op_mulU pe_int (pv 1))) pa_nil)) pe_int))))
      (pss_cons (ps_set (i := 3) sc.nd rfl (Or.inl rfl) (pe_ifExp (PW.pt (pw_or (pt_cmpR op_lt (pv 4) pe_int (nomark _)) (pw_or1 (pt_cmpR op_ge (pv 4) (pe_op op_pow pe_int pe_int) (nomark _))))) (pe_callB call_abs (by rfl) T.b_abs (by decide +kernel) (pa_cons (pv 4) pa_nil)) pe_int))
      (pss_one (ps_ret (pe_lst (pa_cons (pv 3) (pa_cons (pe_op op_mod (pe_callTy call_intU (by rfl) T.b_int (by decide +kernel) (pa_cons (pe_op op_addU (pv 5) (pe_op op_mulU pe_int (pe_op op_mod (pe_callTy call_intU (by rfl) T.b_int (by decide +kernel) (pa_cons (pv 4) pa_nil)) pe_int))) pa_nil)) pe_int) (pa_cons pe_int pa_nil))))))))), ?_⟩
    walk_at "w"
    refine w_ifV (decide (n < ns.length)) (.int (kat ns n)) (.int 0) (fun q hq => ?_) (fun q c hq => ?_) (fun q c hq => ?_) ?_
    · walk_at "w"
      refine w_lenSq e ?_
      walk_at "w"
      rw [List.length_map, show decide (((n : Nat) : Int) < (ns.length : Nat)) = decide (n < ns.length) by
        by_cases z : n < ns.length
        · rw [decide_eq_true z, decide_eq_true (by omega)]
        · rw [decide_eq_false z, decide_eq_false (by omega)]]
      exact hq
    · have c2 := of_decide_eq_true c
      walk_at "w"
      refine w_ixL e (atI_kat (by omega) (by omega)) ?_
      walk_at "w"
      exact hq
    · walk_at "w"
      exact hq
    · obtain ⟨cell, hc⟩ := ite_int (b := decide (n < ns.length)) (i := kat ns n) (j := 0)
      rw [hc]
      walk_at "w"
      refine w_mulI (.inl ⟨by decide, by decide⟩) ?_
      walk_at "w"
      refine w_osL ?_
      refine w_slL e fun p hp => ?_
      have s1 := same_new (o := .lst (cutV (ns.map V.int) none (some 7))) hp (Same.refl _)
      have ecut : cutV (ns.map V.int) none (some 7) = (ns.take 7).map V.int := by
        unfold cutV
        rw [List.length_map, HT.sIx_none, show (7 : Int) = ((7 : Nat) : Int) by rfl, HT.sIx_nat, List.drop_zero, Nat.sub_zero, List.map_take]
        by_cases z : 7 ≤ ns.length
        · rw [show min 7 ns.length = 7 by omega]
        · rw [show min 7 ns.length = ns.length by omega, List.take_of_length_le (by rw [List.length_map]; omega), List.take_of_length_le (by rw [List.length_map]; omega)]
      rw [ecut] at s1 ⊢
      walk_at "w"
      refine w_srcL (SqL.of upd_same) ?_
      refine forB_list (xs := (ns.take 7).map V.int) (fun i σ H1 => ∃ v2 v3 m, σ = [some (.ref a), some (.int (n : Nat)), v2, v3, some (.int cell), some (.int m)] ∧ H1 = upd H p (.lst ((ns.take 7).map V.int))) ⟨_, _, _, rfl, rfl⟩ (fun i σ H1 _ h => by obtain ⟨_, _, _, _, rfl⟩ := h; exact SqL.of upd_same) (fun i x σ H1 hx h => ?_) fun σ H1 h => ?_
      · obtain ⟨v2, v3, m, rfl, rfl⟩ := h
        obtain ⟨hi, rfl⟩ := getE_kat hx
        walk_at "w"
        refine w_mulI (.inr ⟨by decide, by decide⟩) ?_
        walk_at "w"
        refine w_I (by decide) ?_
        walk_at "w"
        refine w_mulI (.inl ⟨by decide, by decide⟩) ?_
        walk_at "w"
        refine w_I (by decide) ?_
        walk_at "w"
        exact ⟨_, _, _, rfl, rfl⟩
      · obtain ⟨v2, v3, m, rfl, rfl⟩ := h
        walk_at "w"
        refine w_ifV (decide (cell < 0) || decide (cell ≥ 10 ^ 17)) (.int (if cell < 0 then -cell else cell)) (.int 0) (fun q hq => ?_) (fun q c hq => ?_) (fun q c hq => ?_) ?_
        · walk_at "w"
          refine w_iteO hq fun _ hq2 => ?_
          walk_at "w"
          refine w_I ⟨by decide, by decide, by decide⟩ ?_
          walk_at "w"
          exact hq2
        · walk_at "w"
          exact ⟨_, rfl, hq⟩
        · walk_at "w"
          exact hq
        · obtain ⟨dg, hd⟩ := ite_int (b := decide (cell < 0) || decide (cell ≥ 10 ^ 17)) (i := if cell < 0 then -cell else cell) (j := 0)
          rw [hd]
          walk_at "w"
          refine w_I (by decide) ?_
          refine w_mulI (.inl ⟨by decide, by decide⟩) ?_
          walk_at "w"
          refine w_I (by decide) ?_
          walk_at "w"
          refine ⟨by walk_at "sz", fun u hu => ?_⟩
          walk_at "w"
          exact k u _ (same_new hu s1) (none_of_new hu) ⟨_, _, _, upd_same⟩
end
end Bt

set_option Elab.async false
set_option linter.all false
/-! plain: knots by order and counts -/
namespace Bt
structure KnOk (B d : Int) (ks : List Int) : Prop where
  d0 : 0 ≤ d
  d4 : d ≤ 4
  l0 : d + 2 ≤ ks.length
  l1 : ks.length ≤ d + 11
  rg : ∀ x ∈ ks, 0 ≤ x ∧ x ≤ B
  so : ks.Pairwise (· ≤ ·)
  ct : ∀ x, (ks.count x : Int) ≤ d + 1
theorem kat_mem {ks : List Int} {i : Int} (h0 : 0 ≤ i) (h1 : i < ks.length) : kat ks i ∈ ks := by
  have hn : i.toNat < ks.length := by omega
  unfold kat
  rw [List.getD_eq_getElem?_getD, List.getElem?_eq_getElem hn]
  exact List.getElem_mem hn
theorem kat_get {ks : List Int} {n : Nat} (h : n < ks.length) : kat ks (n : Nat) = ks[n] := by
  unfold kat
  rw [List.getD_eq_getElem?_getD, show ((n : Nat) : Int).toNat = n by omega, List.getElem?_eq_getElem h]
  rfl
theorem so_kat {ks : List Int} (so : ks.Pairwise (· ≤ ·)) {i j : Int} (h0 : 0 ≤ i) (h : i ≤ j) (h1 : j < ks.length) : kat ks i ≤ kat ks j := by
  obtain ⟨a, rfl⟩ := Int.eq_ofNat_of_zero_le h0
  obtain ⟨b, rfl⟩ := Int.eq_ofNat_of_zero_le (show 0 ≤ j by omega)
  rw [kat_get (show a < ks.length by omega), kat_get (show b < ks.length by omega)]
  by_cases z : a = b
  · subst z; exact Int.le_refl _
  · exact List.pairwise_iff_getElem.mp so a b (by omega) (by omega) (by omega)
/-- alike from a to b: counted as often -/
theorem count_run {x : Int} : ∀ (n a : Nat) (ks : List Int), a + n ≤ ks.length → (∀ i, a ≤ i → i < a + n → ks[i]? = some x) → n ≤ ks.count x := by
  intro n a
  induction a with
  | zero =>
    intro ks
    induction n generalizing ks with
    | zero => intro _ _; exact Nat.zero_le _
    | succ n ih =>
      intro hl h
      cases ks with
      | nil => simp at hl
      | cons y r =>
        have h0 := h 0 (by omega) (by omega)
        simp at h0
        subst h0
        rw [List.count_cons_self]
        have := ih r (by simp at hl; omega) fun i _ hi => by
          have := h (i + 1) (by omega) (by omega)
          simpa using this
        omega
  | succ a ih =>
    intro ks hl h
    cases ks with
    | nil => simp at hl
    | cons y r =>
      have := ih r (by simp at hl; omega) fun i h1 h2 => by
        have := h (i + 1) (by omega) (by omega)
        simpa using this
      rw [List.count_cons]
      exact Nat.le_trans this (Nat.le_add_right _ _)
theorem KnOk.plan {B d : Int} {ks : List Int} (h : KnOk B d ks) (hB : B ≤ 1000000) : PlanOk d ks where
  d0 := h.d0
  d4 := h.d4
  l0 := h.l0
  l1 := h.l1
  rg := fun i h0 h1 => by have := h.rg _ (kat_mem h0 h1); omega
  up := fun i h0 h1 => so_kat h.so (by omega) (by omega) h1
  mu := fun i h0 h1 e => by
    have hd := h.d0
    obtain ⟨d, rfl⟩ := Int.eq_ofNat_of_zero_le hd
    obtain ⟨n, rfl⟩ := Int.eq_ofNat_of_zero_le (show 0 ≤ i by omega)
    have hc := h.ct (kat ks (n : Nat))
    have := count_run (x := kat ks (n : Nat)) (d + 2) (n - d - 1) ks (by omega) fun j h2 h3 => by
      have a1 := so_kat h.so (i := (n : Int) - d - 1) (j := (j : Nat)) (by omega) (by omega) (by omega)
      have a2 := so_kat h.so (i := (j : Nat)) (j := (n : Nat)) (by omega) (by omega) (by omega)
      rw [List.getElem?_eq_getElem (show j < ks.length by omega), ← kat_get (show j < ks.length by omega)]
      congr 1
      omega
    omega
theorem KnOk.mono {B B' d : Int} {ks : List Int} (h : KnOk B d ks) (hB : B ≤ B') : KnOk B' d ks :=
  ⟨h.d0, h.d4, h.l0, h.l1, fun x hx => by have := h.rg x hx; omega, h.so, h.ct⟩
/-- one knot more -/
theorem KnOk.more {B d m : Int} {ks ls : List Int} (h : KnOk B d ks) (m0 : 0 ≤ m) (m1 : m ≤ B) (pm : ls.Perm (ks ++ [m])) (so : ls.Pairwise (· ≤ ·)) (c : (ks.count m : Int) ≤ d) (l : (ks.length : Int) < d + 11) : KnOk B d ls where
  d0 := h.d0
  d4 := h.d4
  l0 := by have := pm.length_eq; have := h.l0; simp at *; omega
  l1 := by have := pm.length_eq; simp at *; omega
  rg := fun x hx => by
    rcases List.mem_append.mp (pm.mem_iff.mp hx) with q | q
    · exact h.rg x q
    · obtain rfl := List.mem_singleton.mp q; exact ⟨m0, m1⟩
  so := so
  ct := fun x => by
    rw [pm.count_eq, List.count_append, List.count_singleton]
    have := h.ct x
    by_cases z : m = x
    · subst z; simp; omega
    · simp [z]; omega
/-- while knots are laid: from 0 on, ascending, none too often -/
structure Lay (d : Int) (i : Nat) (ks : List Int) : Prop where
  len : ks.length = i + 1
  rg : ∀ x ∈ ks, 0 ≤ x ∧ x ≤ 3 + 3 * (i : Int)
  so : ks.Pairwise (· ≤ ·)
  ct : ∀ x, (ks.count x : Int) ≤ d + 1
theorem Lay.last {d : Int} {i : Nat} {ks : List Int} (h : Lay d i ks) : ∀ x ∈ ks, x ≤ kat ks ((ks.length : Int) - 1) := fun x hx => by
  obtain ⟨n, hn, rfl⟩ := List.mem_iff_getElem.mp hx
  rw [← kat_get hn]
  exact so_kat h.so (by omega) (by omega) (by omega)
theorem Lay.next {d s : Int} {i : Nat} {ks : List Int} (h : Lay d i ks) (d0 : 0 ≤ d) (s0 : 0 ≤ s) (s3 : s ≤ 3) (c : s = 0 → (ks.count (kat ks ((ks.length : Int) - 1)) : Int) ≠ d + 1) : Lay d (i + 1) (ks ++ [kat ks ((ks.length : Int) - 1) + s]) := by
  have hl := h.len
  have hm : kat ks ((ks.length : Int) - 1) ∈ ks := kat_mem (by omega) (by omega)
  have hla := h.last
  generalize kat ks ((ks.length : Int) - 1) = t at *
  refine ⟨by simp; omega, fun x hx => ?_, ?_, fun x => ?_⟩
  · rcases List.mem_append.mp hx with q | q
    · have := h.rg x q; omega
    · obtain rfl := List.mem_singleton.mp q
      have := h.rg _ hm; omega
  · rw [List.pairwise_append]
    refine ⟨h.so, List.pairwise_singleton _ _, fun x hx y hy => ?_⟩
    obtain rfl := List.mem_singleton.mp hy
    have := hla x hx; omega
  · rw [List.count_append, List.count_singleton]
    have hc := h.ct x
    by_cases z : t + s = x
    · subst z
      by_cases hs : s = 0
      · subst hs
        have := c rfl
        rw [Int.add_zero] at *
        simp; omega
      · have : ks.count (t + s) = 0 := List.count_eq_zero.mpr fun q => by have := hla _ q; omega
        simp; omega
    · have : (t + s == x) = false := by simpa using z
      rw [this]; simp; omega
theorem Lay.first {d t : Int} (d0 : 0 ≤ d) (t0 : 0 ≤ t) (t3 : t ≤ 3) : Lay d 0 [t] := ⟨rfl, fun x hx => by obtain rfl := List.mem_singleton.mp hx; omega, List.pairwise_singleton _ _, fun x => by
  rw [List.count_singleton]; split <;> omega⟩
/-- the knots told, times a number -/
theorem Lay.plan {d b : Int} {n : Nat} {ks : List Int} (h : Lay d n ks) (d0 : 0 ≤ d) (d4 : d ≤ 4) (hn0 : d + 1 ≤ (n : Int)) (hn : (n : Int) ≤ d + 5) (b0 : 0 < b) (b1 : b ≤ 20000) : KnOk 600000 d (ks.map (b * ·)) where
  d0 := d0
  d4 := d4
  l0 := by have := h.len; simp; omega
  l1 := by have := h.len; simp; omega
  rg := fun x hx => by
    obtain ⟨y, hy, rfl⟩ := List.mem_map.mp hx
    have hr := h.rg y hy
    refine ⟨Int.mul_nonneg (by omega) hr.1, ?_⟩
    have : b * y ≤ 20000 * 30 := Int.mul_le_mul b1 (by omega) hr.1 (by omega)
    show b * y ≤ _
    omega
  so := by
    rw [List.pairwise_map]
    exact h.so.imp fun {x y} q => Int.mul_le_mul_of_nonneg_left q (by omega)
  ct := fun x => by
    have inj : ∀ u v : Int, b * u = b * v → u = v := fun u v e => Int.eq_of_mul_eq_mul_left (by omega) e
    by_cases hx : x ∈ ks.map (b * ·)
    · obtain ⟨y, hy, rfl⟩ := List.mem_map.mp hx
      have : (ks.map (b * ·)).count (b * y) = ks.count y := by
        clear h hx hy
        induction ks with
        | nil => rfl
        | cons k r ih =>
          rw [List.map_cons, List.count_cons, List.count_cons, ih]
          by_cases z : k = y
          · subst z; simp
          · have : ¬ b * k = b * y := fun q => z (inj _ _ q)
            simp [z, this]
      rw [this]
      exact h.ct y
    · rw [List.count_eq_zero.mpr hx]; omega
end Bt

set_option Elab.async false
set_option linter.all false
set_option maxRecDepth 100000
set_option maxHeartbeats 4000000
/-! the law: shapes drawn -/
namespace Bt
open PySem L2
set_option pp.maxSteps 900
local macro_rules | `(tactic| walk_at "lk") => `(tactic| first
  | assumption
  | exact upd_same
  | (refine at_new ?_ ?_; · assumption
     walk_at "lk")
  | (refine at_mut ?_ ?_; · assumption
     walk_at "lk")
  | (refine at_same ?_ ?_; · assumption
     walk_at "lk"))
local macro_rules | `(tactic| walk_at "w1") => `(tactic| with_reducible first
  | refine w_seq ?_ | refine w_asg ?_ | refine w_name ?_ | refine w_ret ?_ | refine w_retN ?_ | refine w_drop ?_ | refine w_next ?_
  | refine w_op ?_ | refine w_var rfl ?_ | refine w_c ?_ | refine w_un ?_ | refine w_test ?_ | refine w_tB ?_ | refine w_bl ?_ | refine w_chain ?_
  | refine w_and ?_ | refine w_or ?_ | refine w_not ?_ | refine w_andV ?_ | refine w_orV ?_ | refine w_notV ?_ | refine w_cons ?_ | refine w_nil ?_
  | refine w_par ?_ | refine w_parL ?_ | refine w_call ?_ | refine w_CB ?_ | refine w_prop ?_ | refine w_fld ?_ | refine w_meth ?_ | refine w_make ?_ | refine w_tup ?_ | refine w_lst ?_
  | refine w_I0 ?_ | refine w_U ?_ | refine w_addI ?_ | refine w_eqI ?_ | refine w_eqS ?_ | refine w_neI ?_ | refine w_neS ?_ | refine w_isN ?_ | refine w_notN ?_
  | refine w_tt ?_ | refine w_ff ?_ | refine w_nt ?_ | refine w_nf ?_ | refine w_ntt ?_ | refine w_att ?_ | refine w_js ?_ | refine w_jsN ?_ | refine w_fmtS ?_ | refine w_m1 ?_ | refine w_m1L ?_ | refine w_sfld ?_ | refine w_bm ?_ | refine w_dc ?_ | refine w_iIt ?_ | refine w_star ?_ | refine w_mkO ?_ | refine w_raise ?_ | refine w_osg ?_ | refine w_gfld ?_ | refine w_kget ?_ | refine w_dget ?_ | refine w_din ?_ | refine w_dnotin ?_ | refine w_slice ?_ | refine w_on ?_ | refine w_os ?_ | refine w_sub ?_ | refine w_bmN ?_ | refine w_intI ?_ | refine w_intB ?_ | refine w_strS ?_
  | refine w_lc ?_ | refine w_for ?_ | refine w_iL ?_ | refine w_iT ?_ | refine w_iS ?_ | refine w_iK ?_ | refine w_iR1 ?_ | refine w_iR3 ?_ | refine w_iET ?_ | refine w_srcS ?_)
local macro_rules | `(tactic| walk_at "w") => `(tactic| (repeat walk_at "w1"); try (with_reducible refine w_ifN ?_))
local macro_rules | `(tactic| walk_at "ws") => `(tactic| with_reducible first | refine w_seq ?_ | refine w_next ?_)
local macro_rules | `(tactic| walk_at "w2") => `(tactic| repeat with_reducible first | refine w_seq ?_ | refine w_asg ?_ | refine w_name ?_ | refine w_next ?_)
local macro_rules | `(tactic| walk_at "sz") => `(tactic| (rw [sizeLine_eq]; exact Nat.le_of_ble_eq_true rfl))
section
variable {P : Program} {w : World} {K : Frag} {mg : Str → Option Value} {base : Heap} {H : Hp} {Q : VK} {σ : L2.St}
theorem w_grab {E : XK} {u : Addr} {m : Int} (hu : Urn H u) (m0 : 0 < m) (m1 : m < 1000000) (h : ∀ i H', 0 ≤ i → i < m → Keep u H H' → Urn H' u → Q (.int i) H') : spGrab [.ref u, .int m] H Q E := ⟨u, m, rfl, hu, m0, m1, h⟩
theorem w_takeN {E : XK} {u l : Addr} {ys : List V} (hu : Urn H u) (hl : H l = none) (l0 : 0 < ys.length) (l1 : ys.length < 1000) (h : ∀ v ∈ ys, ∀ H', Keep u H H' → Urn H' u → Q v H') : spTake [.ref u, .ref l] (upd H l (.lst ys)) Q E := by
  have n : l ≠ u := by
    obtain ⟨_, _, _, e⟩ := hu
    exact (ne_of_none e hl).symm
  exact ⟨u, l, ys, rfl, hu.same (same_new hl (Same.refl _)), upd_same, n, l0, l1, fun v hv H' k u' => h v hv H' (fun b o nb e => k b o nb (at_new hl e)) u'⟩
theorem Keep.new {u l : Addr} {o : HO} (hl : H l = none) : Keep u H (upd H l o) := fun b x _ e => at_new hl e
/-- an if that leaves one of some states -/
theorem w_ifJ {tt : TT} {t u : TS} {D : Ends} {ι : Type} (S : ι → L2.St) (J : ι → Prop) (b : Bool) (e : ∀ q : Bool → Hp → Prop, q b H → tt σ H q) (h1 : b = true → ∀ Q : L2.St → Hp → Prop, (∀ i, J i → Q (S i) H) → t { D with nx := Q } σ H) (h2 : b = false → ∀ Q : L2.St → Hp → Prop, (∀ i, J i → Q (S i) H) → u { D with nx := Q } σ H)
    (k : ∀ i, J i → D.nx (S i) H) : tIfS tt t u D σ H := w_ifb b e (fun c => h1 c D.nx k) (fun c => h2 c D.nx k)
def spShape : Sp := fun vs H Q _ => ∃ u, vs = [.ref u, .int 5] ∧ Urn H u ∧ ∀ p H' d ks, Keep u H H' → Urn H' u → PlanAt H' p (d, ks) → KnOk 600000 d ks → Q (.ref p) H'
abbrev s__law_shape : Stmt := top 108
theorem sc__law_shape : FnScope ["_law_urn_here", "_law_most", "_law_k", "_law_degree", "_law_many_here", "_law_by", "_law_knots", "_law_clamped", "_law_step", "_law_knot"] ["_law_urn_here", "_law_most"] (defScope s__law_shape) := ⟨rfl, rfl, rfl, by decide +kernel, rfl, by decide +kernel, by decide +kernel⟩
theorem ok_law_shape (T : Txt w K mg) : Own P w K mg base "_law_shape" 3 ["_law_urn_here", "_law_most"] spShape := by
  refine own_of T.f_law_shape sc__law_shape (fun _ _ _ _ _ _ us hl => match us, hl with | [_, _], _ => rfl) (fun vs H Q E h => ?_) (fun f cdv A outer s H vs Q E hr h => ?_)
  · obtain ⟨u, rfl, _⟩ := h; rfl
  · have sc := sc__law_shape
    have hu64 := hr.units
    have hu65 := units65 hr
    obtain ⟨u, rfl, hu, k⟩ := h
    refine ⟨_, (pss_cons (ps_asg (pe_tup (pa_cons (pe_own (ok_law_grab T) hr passN (pa_cons (pv 0) (pa_cons pe_int pa_nil))) (pa_cons (pe_op op_addU pe_int (pe_own (ok_law_grab T) hr passN (pa_cons (pv 0) (pa_cons (pv 1) pa_nil)))) (pa_cons (pe_own (ok_law_take T) hr passN (pa_cons (pv 0) (pa_cons (pe_lst (pa_cons pe_int (pa_cons pe_int (pa_cons pe_int (pa_cons pe_int (pa_cons pe_int (pa_cons pe_int pa_nil))))))) pa_nil))) pa_nil)))) (pg_tup rfl (pgs_cons (pg_name (i := 3) sc.nd rfl (Or.inl rfl)) (pgs_cons (pg_name (i := 4) sc.nd rfl (Or.inl rfl)) (pgs_cons (pg_name (i := 5) sc.nd rfl (Or.inr rfl)) pgs_nil)))))
      (pss_cons (ps_par (i := 6) (j := 7) (by rfl) sc.nd rfl rfl (by decide) rfl rfl (pa_cons (pe_lst (pa_cons (pe_own (ok_law_take T) hr passN (pa_cons (pv 0) (pa_cons (pe_lst (pa_cons pe_int (pa_cons pe_int (pa_cons pe_int (pa_cons pe_int pa_nil))))) pa_nil))) pa_nil)) (pa_cons (pe_cmpR (op_eqU (by exact hu64)) (pe_own (ok_law_grab T) hr passN (pa_cons (pv 0) (pa_cons pe_int pa_nil))) pe_int (nomark _)) pa_nil)) (by rfl))
      (pss_cons (ps_for (passes_of rfl) rfl (pi_range1 rfl T.b_range (pa_cons (pe_op op_addU (pv 3) (pv 4)) pa_nil)) (pg_name (i := 2) sc.nd rfl (Or.inl rfl)) (pss_cons (ps_set (i := 8) sc.nd rfl (Or.inl rfl) (pe_own (ok_law_take T) hr passN (pa_cons (pv 0) (pa_cons (pe_lst (pa_cons pe_int (pa_cons pe_int (pa_cons pe_int (pa_cons pe_int (pa_cons pe_int pa_nil)))))) pa_nil))))
      (pss_cons (ps_if (PW.pt (pw_and (pt_val (pv 7)) (pw_and1 (pt_chain op_le op_lt (pv 3) (pv 2) (pv 4))))) (pss_one (ps_set (i := 8) sc.nd rfl (Or.inl rfl) (pe_callB (call_max2 rfl) (by rfl) T.b_max (by decide +kernel) (pa_cons (pv 8) (pa_cons pe_int pa_nil))))) pss_nil)
      (pss_cons (ps_if (PW.pt (pw_and (pt_val (pv 7)) (pw_and1 (pt_not (pt_chain op_le op_lt (pv 3) (pv 2) (pv 4)))))) (pss_one (ps_set (i := 8) sc.nd rfl (Or.inl rfl) pe_int)) pss_nil)
      (pss_cons (ps_if (PW.pt (pw_and (pt_cmpR (op_eqU (by exact hu64)) (pv 8) pe_int (nomark _)) (pw_and1 (pt_cmpR (op_eqU (by exact hu64)) (pe_bm PySem.F.plainAttrs_list PySem.F.slot_list_count PySem.F.type_list_count (mt_lcountD (by exact hu65)) (pv 6) (pa_cons (pe_ix ix_seq (pv 6) (pe_un un_neg pe_int) (fun _ _ => rfl)) pa_nil)) (pe_op op_addU (pv 3) pe_int) (nomark _))))) (pss_one (ps_set (i := 8) sc.nd rfl (Or.inl rfl) pe_int)) pss_nil)
      (pss_one (ps_expr (pe_bm PySem.F.plainAttrs_list PySem.F.slot_list_append PySem.F.type_list_append mt_append (pv 6) (pa_cons (pe_op op_addU (pe_ix ix_seq (pv 6) (pe_un un_neg pe_int) (fun _ _ => rfl)) (pv 8)) pa_nil)))))))))
      (pss_one (ps_ret (pe_lst (pa_cons (pv 3) (pa_cons (pe_callTy call_tuple_ofN (by rfl) T.b_tuple (by decide +kernel) (pa_cons (pe_lc (own := [("_law_knot", 9)]) rfl sc.nd (pi_list (pv 6)) (blkOk_by (by rfl)) (fun _ _ _ _ _ => (pg_name (i := 9) sc.nd rfl (Or.inl rfl))) (fun _ _ _ _ _ => pts_nil) (fun _ _ _ _ _ => (pe_op op_mulU (pv 5) (pv 9)))) pa_nil)) pa_nil)))))))), ?_⟩
    walk_at "w"
    refine w_grab hu (by decide) (by decide) fun d H1 d0 d1 k1 u1 => ?_
    walk_at "w"
    refine w_grab u1 (by decide) (by decide) fun m H2 m0 m1 k2 u2 => ?_
    walk_at "w"
    refine ⟨by walk_at "sz", fun l hl => ?_⟩
    walk_at "w"
    refine w_takeN u2 hl (by decide) (by decide) fun v hv H3 k3 u3 => ?_
    obtain ⟨b, rfl, b0, b1⟩ : ∃ b : Int, v = .int b ∧ 0 < b ∧ b ≤ 20000 := by
      simp only [List.mem_cons, List.not_mem_nil, or_false] at hv
      rcases hv with rfl | rfl | rfl | rfl | rfl | rfl <;> exact ⟨_, rfl, by decide, by decide⟩
    clear hv
    walk_at "w"
    refine ⟨by walk_at "sz", fun p hp => ?_⟩
    refine w_unp3 upd_same ?_
    have k4 := k1.trans (k2.trans (k3.trans (Keep.new (o := .tup [.int d, .int (1 + m), .int b]) hp)))
    have u4 := u3.same (same_new (o := .tup [.int d, .int (1 + m), .int b]) hp (Same.refl _))
    generalize upd H3 p (.tup [.int d, .int (1 + m), .int b]) = H4 at k4 u4 ⊢
    clear k1 k2 k3 u1 u2 u3 hl hp
    walk_at "w"
    refine ⟨by walk_at "sz", fun l hl => ?_⟩
    walk_at "w"
    refine w_takeN u4 hl (by decide) (by decide) fun v hv H5 k5 u5 => ?_
    obtain ⟨t, rfl, t0, t1⟩ : ∃ b : Int, v = .int b ∧ 0 ≤ b ∧ b ≤ 3 := by
      simp only [List.mem_cons, List.not_mem_nil, or_false] at hv
      rcases hv with rfl | rfl | rfl | rfl <;> exact ⟨_, rfl, by decide, by decide⟩
    clear hv
    walk_at "w"
    refine ⟨by walk_at "sz", fun q hq => ?_⟩
    have qu : q ≠ u := by
      obtain ⟨_, _, _, e⟩ := u5
      exact (ne_of_none e hq).symm
    have hq0 : H q = none := by
      cases z : H q with
      | none => rfl
      | some o =>
        have := k5 _ _ qu (k4 _ _ qu z)
        rw [hq] at this; cases this
    walk_at "w"
    refine w_grab (u5.same (same_new hq (Same.refl _))) (by decide) (by decide) fun c H6 c0 c1 k6 u6 => ?_
    have e6 : H6 q = some (.lst ([t].map V.int)) := k6 _ _ qu upd_same
    have k7 := k4.trans (k5.trans ((Keep.new (o := .lst [.int t]) hq).trans k6))
    clear k4 k5 k6 u4 u5 hl
    walk_at "w"
    generalize hcl : decide (c = 0) = cl
    refine w_srcR (by omega) (by omega) ?_
    refine forB_range (fun i σ H' => ∃ ks v2 v8 v9, σ = [some (.ref u), some (.int 5), v2, some (.int d), some (.int (1 + m)), some (.int b), some (.ref q), some (.bl cl), v8, v9] ∧ Keep u H H' ∧ Urn H' u ∧ H' q = some (.lst (ks.map V.int)) ∧ Lay d i ks) ⟨[t], _, _, _, rfl, k7, u6, e6, Lay.first d0 t0 t1⟩ (fun i σ H' hi h => ?_) fun σ H' h => ?_
    · obtain ⟨ks, v2, v8, v9, rfl, k8, u8, e8, la⟩ := h
      walk_at "w"
      refine ⟨by walk_at "sz", fun l hl => ?_⟩
      walk_at "w"
      refine w_takeN u8 hl (by decide) (by decide) fun v hv H9 k9 u9 => ?_
      obtain ⟨st, rfl, st0, st3⟩ : ∃ b : Int, v = .int b ∧ 0 ≤ b ∧ b ≤ 3 := by
        simp only [List.mem_cons, List.not_mem_nil, or_false] at hv
        rcases hv with rfl | rfl | rfl | rfl | rfl <;> exact ⟨_, rfl, by decide, by decide⟩
      have e9 := k9 _ _ qu e8
      have k10 := k8.trans k9
      clear hv k8 k9 e8 hl
      walk_at "w"
      have hl := la.len
      refine w_ifJ (ι := Int) (fun st => [some (.ref u), some (.int 5), some (.int (0 + (i : Nat))), some (.int d), some (.int (1 + m)), some (.int b), some (.ref q), some (.bl cl), some (.int st), v9]) (fun st => 0 ≤ st ∧ st ≤ 3) (cl && (decide (d ≤ 0 + (i : Nat)) && decide ((0 : Int) + (i : Nat) < 1 + m))) (fun q hq => ?_) (fun _ q hq => ?_) (fun _ q hq => ?_) fun st ⟨st0, st3⟩ => ?_
      · walk_at "w"
        refine w_iteA hq fun _ hq2 => ?_
        walk_at "w"
        refine w_iteAT hq2 fun _ hq3 => ?_
        walk_at "w"
        exact hq3
      · walk_at "w"
        refine ⟨_, _, rfl, ?_⟩
        walk_at "w"
        exact hq _ (by split <;> omega)
      · walk_at "w"
        exact hq st ⟨st0, st3⟩
      walk_at "w"
      refine w_ifJ (ι := Int) (fun st => [some (.ref u), some (.int 5), some (.int (0 + (i : Nat))), some (.int d), some (.int (1 + m)), some (.int b), some (.ref q), some (.bl cl), some (.int st), v9]) (fun st => 0 ≤ st ∧ st ≤ 3) (cl && !(decide (d ≤ 0 + (i : Nat)) && decide ((0 : Int) + (i : Nat) < 1 + m))) (fun q hq => ?_) (fun _ q hq => ?_) (fun _ q hq => ?_) fun st ⟨st0, st3⟩ => ?_
      · walk_at "w"
        refine w_iteA hq fun _ hq2 => ?_
        walk_at "w"
        by_cases z : d ≤ 0 + (i : Nat)
        · rw [decide_eq_true z, Bool.true_and] at hq2
          rw [decide_eq_true z]
          walk_at "w"
          exact hq2
        · rw [decide_eq_false z] at hq2 ⊢
          walk_at "w"
          exact hq2
      · walk_at "w"
        exact hq _ (by omega)
      · walk_at "w"
        exact hq st ⟨st0, st3⟩
      walk_at "w"
      refine w_ifJ (ι := Int) (fun st => [some (.ref u), some (.int 5), some (.int (0 + (i : Nat))), some (.int d), some (.int (1 + m)), some (.int b), some (.ref q), some (.bl cl), some (.int st), v9]) (fun st => 0 ≤ st ∧ st ≤ 3 ∧ (st = 0 → (ks.count (kat ks ((ks.length : Int) - 1)) : Int) ≠ d + 1)) (decide (st = 0) && decide ((ks.count (kat ks ((ks.length : Int) - 1)) : Int) = d + 1)) (fun q hq => ?_) (fun _ q hq => ?_) (fun c q hq => ?_) fun st ⟨st0, st3, sc⟩ => ?_
      · walk_at "w"
        refine w_iteA hq fun _ hq2 => ?_
        walk_at "w"
        refine ⟨.inl ⟨rfl, _, SqL.of e9⟩, ?_⟩
        walk_at "w"
        refine w_ixLa e9 (atI_katLast (by omega)) ?_
        walk_at "w"
        refine w_cntL e9 ?_
        walk_at "w"
        exact hq2
      · walk_at "w"
        exact hq _ ⟨by omega, by omega, fun z => by omega⟩
      · walk_at "w"
        refine hq st ⟨st0, st3, fun z y => ?_⟩
        rw [decide_eq_true z, decide_eq_true y] at c
        cases c
      walk_at "w"
      refine ⟨.inl ⟨rfl, _, SqL.of e9⟩, ?_⟩
      walk_at "w"
      refine w_ixLa e9 (atI_katLast (by omega)) ?_
      walk_at "w"
      refine ⟨q, _, _, rfl, rfl, e9, by rw [List.length_map, sizeLine_eq]; omega, ?_⟩
      walk_at "w"
      refine ⟨ks ++ [kat ks ((ks.length : Int) - 1) + st], _, _, _, rfl, fun x o n h => at_mut (fun z => ?_) (k10 x o n h), ?_, ?_, la.next d0 st0 st3 sc⟩
      · rw [z, hq0] at h; cases h
      · obtain ⟨a1, a2, a3, ea⟩ := u9
        exact ⟨a1, a2, a3, at_mut qu.symm ea⟩
      · rw [upd_same, List.map_append]; rfl
    · obtain ⟨ks, v2, v8, v9, rfl, k8, u8, e8, la⟩ := h
      have hl := la.len
      walk_at "w"
      refine w_srcL (SqL.of e8) ?_
      refine w_lcM (yl_lst e8) (fun x => match x with | .int y => .int (b * y) | y => y) (by rw [List.length_map]; omega) (fun _ => rfl) (fun x hx H2 s2 q2 hq2 => ?_) fun p2 H2 hp2 s2 e2 => ?_
      · obtain ⟨y, hy, rfl⟩ := List.mem_map.mp hx
        walk_at "w"
        refine w_mulI (.inl ⟨by omega, by omega⟩) ?_
        exact hq2 _ (Same.refl _)
      · walk_at "w"
        refine ⟨p2, _, rfl, SqL.of e2, fun q3 H3 hq3 kk t3 => ?_⟩
        have s3 : Same H2 H3 := fun b o eb => (kk b (ne_of_none eb hq3)).trans eb
        walk_at "w"
        refine ⟨by walk_at "sz", fun p4 hp4 => ?_⟩
        walk_at "w"
        have s4 := same_new (o := .lst [.int d, .ref q3]) hp4 (s2.trans s3)
        refine k p4 _ d (ks.map (b * ·)) (k8.trans (Same.keep s4)) (u8.same s4) ⟨q3, upd_same, ?_⟩ (la.plan d0 (by omega) (by omega) (by omega) b0 b1)
        rw [List.map_map] at t3 ⊢
        exact t3.new hp4
end
end Bt

set_option Elab.async false
set_option linter.all false
set_option maxRecDepth 100000
set_option maxHeartbeats 4000000
/-! rules that the layer lacks: set of a list of ints, sorted -/
namespace Bt
open PySem PySem.Spec PyProof.Rows L2
section
variable {P : Program} {w : World} {A : Around} {E : Value → Shared → Prop} {s : Shared}
/-- a set as it is made: nothing in it -/
abbrev noneIn (w : World) : Obj := { cls := .type "set", dict := none, data := .set #[] 0 (.fresh 0 0 (!w.params.followText "set-order")) }
theorem ints_get {items : List Value} {ns : List Int} (hi : IntsAre items ns) {i : Nat} {v : Value} (h : items[i]? = some v) : ∃ z t, ns[i]? = some z ∧ v = .int z t := by
  have hn : i < ns.length := by
    have := (List.getElem?_eq_some_iff.mp h).1
    rw [← hi.length]; exact this
  obtain ⟨t, e⟩ := hi.int_at i v h
  refine ⟨ns[i], t, List.getElem?_eq_getElem hn, ?_⟩
  rw [e]
  congr 1
  rw [List.getD_eq_getElem?_getD, List.getElem?_eq_getElem hn]
  rfl
/-- what the filled set leaves -/
def Filled (w : World) (s0 s1 : Shared) (a : Addr) (ns : List Int) : Prop := ∃ h' tk c, s1 = { s0 with heap := h', toks := tk } ∧ SetR w h' a (fun j => decide (j ∈ ns)) c ∧ c ≤ ns.length ∧ ∀ b o, s0.heap.get? b = some o → h'.get? b = some o
set_option maxRecDepth 100000 in
set_option maxHeartbeats 3200000 in
/-- set.__init__ of a list of ints, the set just made -/
theorem set_fill {l : Addr} {items : Array Value} {ns : List Int} (hh : A.handled = none) (hl : s.heap.IsList l items) (hi : IntsAre items.toList ns) (few : ns.length + 1 < scanBound) :
    codeAny (model P w) A (.call (.builtin "set.__init__") ⟨[.ref s.heap.objs.size, .ref l], []⟩) (wants (fun r s1 => r = .none ∧ Filled w s s1 s.heap.objs.size ns) E) { s with heap := s.heap.push (noneIn w) } := by
  have g0 : (s.heap.push (noneIn w)).get? s.heap.objs.size = some (noneIn w) := Heap.get?_push_size _ rfl
  refine codeAny_call_builtin F.called_set.init.plain F.entry_set_init (check_set_init_1 ⟨_, g0, rfl⟩ ?_)
  have len : items.size = ns.length := by have := hi.length; rwa [Array.length_toList] at this
  obtain ⟨⟨c0, d0, dt0, sl0⟩, gl, ec, m, ed⟩ := hl
  dsimp only at ec ed
  subst ec ed
  have gl1 : (s.heap.push (noneIn w)).get? l = some { cls := .type "list", dict := d0, data := .seq items m, slots := sl0 } := Heap.get?_push_of_some _ gl
  have old : l < s.heap.objs.size := Heap.lt_size gl
  have z1 : (s.heap.push (noneIn w)).objs.size = s.heap.objs.size + 1 := Heap.size_push ..
  have il : (s.heap.push (noneIn w)).IsList l items := ⟨_, gl1, rfl, m, rfl⟩
  have f1 := F.sub_list_set
  have f2 := F.sub_list_frozenset
  have f3 : (Value.type "list" == Value.type "dict") = false := by decide
  unfold Builtin.«set.__init__» noKeywords Builtin.Frozenset.updateFrom
  generalize pi0 : pyIter = it0
  wp_walk
  subst pi0
  refine wpAny_pyIter_list il (wpAny_bind (wpAny_runValue ?_))
  have h3 : A.in1.in1.handled = none := by simp [hh]
  have n1 : l ≠ (s.heap.push (noneIn w)).objs.size := by rw [z1]; exact Nat.ne_of_lt (Nat.lt_succ_of_lt old)
  have n2 : s.heap.objs.size ∉ [(s.heap.push (noneIn w)).objs.size, l] := fun z => by
    rw [z1] at z
    rcases List.mem_cons.mp z with z | z
    · exact Nat.succ_ne_self _ z.symm
    · exact Nat.ne_of_lt old (List.mem_singleton.mp z).symm
  refine set_update_ints (Walks.list h3 _ l n1 items).toS s.heap.objs.size n2 ns len few (fun i v hv => ints_get hi (by rw [Array.getElem?_toList]; exact hv)) (items.size - 0) 0 _ (by omega) (Nat.zero_le _)
    ?_ ?_ fun s1 c mv hc R1 => ?_
  · exact ⟨⟨_, Heap.get?_push_size _ rfl, rfl, rfl⟩, il.push _⟩
  · exact ⟨0, Nat.le_refl 0, setR_new_at (Heap.get?_push_of_some _ g0)⟩
  obtain ⟨h1, g1, dr1, t1, o1⟩ := s1
  obtain rfl : g1 = s.gens := mv.gens
  obtain rfl : dr1 = s.drawn := mv.drawn
  obtain rfl : o1 = s.os := mv.os
  refine wpAny_pure (wpAny_pure ⟨rfl, h1, t1, c, rfl, R1, by omega, fun b o e => ?_⟩)
  have lt : b < s.heap.objs.size := Heap.lt_size e
  refine mv.heap b o (fun z => ?_) (Heap.get?_push_of_some _ (Heap.get?_push_of_some _ e))
  rw [z1] at z
  rcases List.mem_cons.mp z with z | z
  · exact Nat.ne_of_lt lt z
  · exact Nat.ne_of_lt (Nat.lt_succ_of_lt lt) (List.mem_singleton.mp z)
set_option maxRecDepth 100000 in
set_option maxHeartbeats 3200000 in
/-- set(l) of a list of ints -/
theorem set_of_ints {l : Addr} {items : Array Value} {ns : List Int} {Q : Value → Shared → Prop} (hh : A.handled = none) (hl : s.heap.IsList l items) (hi : IntsAre items.toList ns) (few : ns.length + 1 < scanBound)
    (k : ∀ s1, Filled w s s1 s.heap.objs.size ns → Q (.ref s.heap.objs.size) s1) : wpAny (model P w) A (call (.type "set") [.ref l]) Q E s := by
  obtain ⟨_, _, mr⟩ := F.called_set.mro
  have q1 := F.called_set.made
  have q2 := F.called_set.sub
  have q3 := F.called_set.notType
  have q4 := F.called_set.canCreate
  have q5 := F.typeCall_set_1 (.ref l)
  refine wpAny_call (codeAny_of_tree ?_)
  show wpAny _ _ (callAny (.type "set") _) _ _ _
  refine wpAny_pure ⟨Code.quiet_builtin _ (by decide +kernel), codeAny_builtin F.entry_type_call ?_⟩
  rw [Around.under_plain (weight_type_call_type "set" [.ref l] []) rfl]
  repeat (any_goals (first | assumption | wp_step))
  refine codeAny_mono (code_set_led1 (.ref l) (E := E) (Q₁ := fun v s1 => v = .ref s.heap.objs.size ∧ s1 = { s with heap := s.heap.push (noneIn w) }) ⟨rfl, rfl⟩) fun r s1 hr => ?_
  match r, hr with
  | .error e, hr => exact hr
  | .ok (.ret v), hr =>
    obtain ⟨rfl, rfl⟩ := hr
    have g0 : (s.heap.push (noneIn w)).get? s.heap.objs.size = some (noneIn w) := Heap.get?_push_size _ rfl
    have ty : Shared.TypeIs { s with heap := s.heap.push (noneIn w) } (.ref s.heap.objs.size) "set" := ⟨_, g0, rfl⟩
    have p1 := F.called_set.init.lookup
    have p2 := F.called_set.init.bind (.ref s.heap.objs.size)
    repeat (any_goals (first | assumption | wp_step))
    refine codeAny_mono (set_fill (E := E) (A := A.in1) (by simp [hh]) hl hi few) fun r s2 hr => ?_
    match r, hr with
    | .error e, hr => exact hr
    | .ok (.ret v), hr =>
      obtain ⟨rfl, fl⟩ := hr
      repeat (any_goals (first | assumption | wp_step))
      exact k _ fl
end
section
variable {X : Cx}
def rSetLI (K : Frag) (w : World) : List V → Hp → VK → Prop := fun xs H Q => ∃ (a : Addr) (ns : List Int), xs = [.ref a] ∧ SqL K H a (ns.map V.int) ∧ ns.length < 64 ∧ ∀ p n, H p = none → n ≤ ns.length → Q (.ref p) (upd H p (SetO w p (fun k => decide (k ∈ ns)) n))
theorem call_setU (hc : X.calm = true) : CallR X (.type "set") (rSetLI X.K X.w) := by
  intro pins s σ H xs us Q I r h
  obtain ⟨a, ns, rfl, hq, h64, q⟩ := h
  obtain ⟨u, rfl, rx⟩ := vals1 r
  cases rx
  obtain ⟨its, rv, pl, hz⟩ := I.list hq
  refine set_of_ints (I.ok.hd hc) pl.isList (ns := ns) (ints_of_vals rv) (by unfold scanBound; omega) fun s1 fl => ?_
  obtain ⟨h1, tk, c, rfl, R1, hc1, kp⟩ := fl
  have J : Inv X pins σ (upd H s.heap.objs.size (SetO X.w s.heap.objs.size (fun k => decide (k ∈ ns)) c)) { s with heap := h1, toks := tk } := I.laid (t' := tk) kp (Nat.le_refl _) (setO_new R1)
  exact ⟨.ref s.heap.objs.size, _, J, rfl, q _ c (I.hok.fresh (Nat.le_refl _)) hc1⟩
end
section
variable {w : World} {K : Frag} {H : Hp} {Q : VK}
theorem w_setU {p : Addr} {ns : List Int} (e : SqL K H p (ns.map V.int)) (l : ns.length < 64) (h : ∀ p n, H p = none → n ≤ ns.length → Q (.ref p) (upd H p (SetO w p (fun k => decide (k ∈ ns)) n))) : rSetLI K w [.ref p] H Q := ⟨p, ns, rfl, e, l, h⟩
theorem w_sortSet {p : Addr} {ns : List Int} {n : Nat} (e : H p = some (SetO w p (fun k => decide (k ∈ ns)) n)) (l : n < 64) (h : ∀ (ls : List Int) (q : Addr), ls.Pairwise (· < ·) → (∀ k : Int, k ∈ ls ↔ k ∈ ns) → ls.length = n → H q = none → Q (.ref q) (upd H q (.lst (ls.map V.int)))) : rSortedSet w [.ref p] H Q :=
  ⟨p, _, n, rfl, e, l, fun ls q so me le hq => h ls q so (fun k => by rw [me k]; exact decide_eq_true_iff) le hq⟩
end
end Bt

set_option Elab.async false
set_option linter.all false
set_option maxRecDepth 100000
set_option maxHeartbeats 4000000
/-! the law: a frame near another -/
namespace Bt
open PySem L2
set_option pp.maxSteps 900
local macro_rules | `(tactic| walk_at "lk") => `(tactic| first
  | assumption
  | exact upd_same
  | (refine at_new ?_ ?_; · assumption
     walk_at "lk")
  | (refine at_mut ?_ ?_; · assumption
     walk_at "lk")
  | (refine at_same ?_ ?_; · assumption
     walk_at "lk"))
local macro_rules | `(tactic| walk_at "w1") => `(tactic| with_reducible first
  | refine w_seq ?_ | refine w_asg ?_ | refine w_name ?_ | refine w_ret ?_ | refine w_retN ?_ | refine w_drop ?_ | refine w_next ?_
  | refine w_op ?_ | refine w_var rfl ?_ | refine w_c ?_ | refine w_un ?_ | refine w_test ?_ | refine w_tB ?_ | refine w_bl ?_ | refine w_chain ?_
  | refine w_and ?_ | refine w_or ?_ | refine w_not ?_ | refine w_andV ?_ | refine w_orV ?_ | refine w_notV ?_ | refine w_cons ?_ | refine w_nil ?_
  | refine w_par ?_ | refine w_parL ?_ | refine w_call ?_ | refine w_CB ?_ | refine w_prop ?_ | refine w_fld ?_ | refine w_meth ?_ | refine w_make ?_ | refine w_tup ?_ | refine w_lst ?_
  | refine w_I0 ?_ | refine w_U ?_ | refine w_addI ?_ | refine w_eqI ?_ | refine w_eqS ?_ | refine w_neI ?_ | refine w_neS ?_ | refine w_isN ?_ | refine w_notN ?_
  | refine w_tt ?_ | refine w_ff ?_ | refine w_nt ?_ | refine w_nf ?_ | refine w_ntt ?_ | refine w_att ?_ | refine w_js ?_ | refine w_jsN ?_ | refine w_fmtS ?_ | refine w_m1 ?_ | refine w_m1L ?_ | refine w_sfld ?_ | refine w_bm ?_ | refine w_dc ?_ | refine w_iIt ?_ | refine w_star ?_ | refine w_mkO ?_ | refine w_raise ?_ | refine w_osg ?_ | refine w_gfld ?_ | refine w_kget ?_ | refine w_dget ?_ | refine w_din ?_ | refine w_dnotin ?_ | refine w_slice ?_ | refine w_on ?_ | refine w_os ?_ | refine w_sub ?_ | refine w_bmN ?_ | refine w_intI ?_ | refine w_intB ?_ | refine w_strS ?_
  | refine w_lc ?_ | refine w_for ?_ | refine w_iL ?_ | refine w_iT ?_ | refine w_iS ?_ | refine w_iK ?_ | refine w_iR1 ?_ | refine w_iR3 ?_ | refine w_iET ?_ | refine w_srcS ?_)
local macro_rules | `(tactic| walk_at "w") => `(tactic| (repeat walk_at "w1"); try (with_reducible refine w_ifN ?_))
local macro_rules | `(tactic| walk_at "ws") => `(tactic| with_reducible first | refine w_seq ?_ | refine w_next ?_)
local macro_rules | `(tactic| walk_at "w2") => `(tactic| repeat with_reducible first | refine w_seq ?_ | refine w_asg ?_ | refine w_name ?_ | refine w_next ?_)
local macro_rules | `(tactic| walk_at "sz") => `(tactic| (rw [sizeLine_eq]; exact Nat.le_of_ble_eq_true rfl))
section
variable {P : Program} {w : World} {K : Frag} {mg : Str → Option Value} {base : Heap} {H : Hp} {Q : VK} {σ : L2.St}
theorem Urn.ne {u q : Addr} {o : HO} (hu : Urn H u) (e : H q = some o) (n : ∀ a b c : Int, o ≠ .lst [.int a, .int b, .int c]) : q ≠ u := fun z => by
  obtain ⟨a, b, c, eu⟩ := hu
  rw [z, eu] at e
  exact n a b c (Option.some.inj e).symm
theorem Urn.free {u q : Addr} (hu : Urn H u) (e : H q = none) : q ≠ u := fun z => by
  obtain ⟨a, b, c, eu⟩ := hu
  rw [z, eu] at e; cases e
theorem w_takeL {E : XK} {u l : Addr} {ys : List V} (hu : Urn H u) (e : H l = some (.lst ys)) (n : l ≠ u) (l0 : 0 < ys.length) (l1 : ys.length < 1000) (h : ∀ v ∈ ys, ∀ H', Keep u H H' → Urn H' u → Q v H') : spTake [.ref u, .ref l] H Q E :=
  ⟨u, l, ys, rfl, hu, e, n, l0, l1, h⟩
/-- a truth value is set, the heap as it is -/
theorem w_asgB {te : TE} {i : Nat} {D : Ends} (b : Bool) (e : ∀ q : VK, q (.bl b) H → te σ H q) (h : D.nx (σ.set i (some (.bl b))) H) : tAsg te (gName i) D σ H := e _ h
def spNear : Sp := fun vs H Q _ => ∃ u p B d ks, vs = [.ref u, .ref p] ∧ Urn H u ∧ PlanAt H p (d, ks) ∧ KnOk B d ks ∧ 600000 ≤ B ∧ ∀ p' H' d' ks', Keep u H H' → Urn H' u → PlanAt H' p' (d', ks') → KnOk (B + 1) d' ks' → Q (.ref p') H'
abbrev s__law_near : Stmt := top 119
theorem sc__law_near : FnScope ["_law_urn_here", "_law_plan", "_law_fits", "_law_degree", "_law_knots", "_law_more", "_law_way"] ["_law_urn_here", "_law_plan"] (defScope s__law_near) := ⟨rfl, rfl, rfl, by decide +kernel, rfl, by decide +kernel, by decide +kernel⟩
theorem ok_law_near (T : Txt w K mg) : Own P w K mg base "_law_near" 4 ["_law_urn_here", "_law_plan"] spNear := by
  refine own_of T.f_law_near sc__law_near (fun _ _ _ _ _ _ us hl => match us, hl with | [_, _], _ => rfl) (fun vs H Q E h => ?_) (fun f cdv A outer s H vs Q E hr h => ?_)
  · obtain ⟨u, p, B, d, ks, rfl, _⟩ := h; rfl
  · have sc := sc__law_near
    have hu64 := hr.units
    have hu65 := units65 hr
    obtain ⟨u, p, B, d, ks, rfl, hu, ⟨q, e, t⟩, ok, hB, k⟩ := h
    dsimp only at e t
    have d0 := ok.d0; have d4 := ok.d4; have l0 := ok.l0; have l1 := ok.l1
    refine ⟨_, (pss_cons (ps_par (i := 3) (j := 4) (by rfl) sc.nd rfl rfl (by decide) rfl rfl (pa_cons (pe_ix ix_seq (pv 1) pe_int (fun _ _ => rfl)) (pa_cons (pe_callTy call_list_of (by rfl) T.b_list (by decide +kernel) (pa_cons (pe_ix ix_seq (pv 1) pe_int (fun _ _ => rfl)) pa_nil)) pa_nil)) (by rfl))
      (pss_cons (ps_par (i := 5) (j := 6) (by rfl) sc.nd rfl rfl (by decide) rfl rfl (pa_cons (pe_op op_addU (pe_own (ok_law_take T) hr passN (pa_cons (pv 0) (pa_cons (pv 4) pa_nil))) (pe_own (ok_law_grab T) hr passN (pa_cons (pv 0) (pa_cons pe_int pa_nil)))) (pa_cons (pe_own (ok_law_grab T) hr passN (pa_cons (pv 0) (pa_cons pe_int pa_nil))) pa_nil)) (by rfl))
      (pss_cons (ps_if (pt_cmpR (op_eqU (by exact hu64)) (pv 6) pe_int (nomark _)) (pss_one (ps_ret (pe_own (ok_law_shape T) hr passN (pa_cons (pv 0) (pa_cons pe_int pa_nil))))) pss_nil)
      (pss_cons (ps_set (i := 2) sc.nd rfl (Or.inl rfl) (pe_and (pe_cmpR op_le (pe_bm PySem.F.plainAttrs_list PySem.F.slot_list_count PySem.F.type_list_count (mt_lcountD (by exact hu65)) (pv 4) (pa_cons (pv 5) pa_nil)) (pv 3) (nomark _)) (pe_and (pe_cmpR op_lt (pe_callB (call_lenU) (by rfl) T.b_len (by decide +kernel) (pa_cons (pv 4) pa_nil)) (pe_op op_addU (pv 3) pe_int) (nomark _)) (pe_one (pe_cmpR op_gt (pv 6) pe_int (nomark _))))))
      (pss_one (ps_ret (pe_lst (pa_cons (pv 3) (pa_cons (pe_ifExp (pt_val (pv 2)) (pe_callTy call_tuple_ofN (by rfl) T.b_tuple (by decide +kernel) (pa_cons (pe_callB cr_sorted (by rfl) T.b_sorted (by decide +kernel) (pa_cons (pe_op op_addU (pv 4) (pe_lst (pa_cons (pv 5) pa_nil))) pa_nil)) pa_nil)) (pe_callTy call_tuple_ofN (by rfl) T.b_tuple (by decide +kernel) (pa_cons (pv 4) pa_nil))) pa_nil))))))))), ?_⟩
    walk_at "w"
    refine w_ixLa e rfl ?_
    walk_at "w"
    refine w_ixLa e rfl ?_
    walk_at "w"
    refine ⟨q, _, rfl, .inr t.sq, fun l hl => ?_⟩
    have s1 := same_new (o := .lst (ks.map V.int)) hl (Same.refl _)
    have u1 := hu.same s1
    have e1 : upd H l (.lst (ks.map V.int)) l = some (.lst (ks.map V.int)) := upd_same
    have nlu := hu.free hl
    have k1 : Keep u H (upd H l (.lst (ks.map V.int))) := Keep.new hl
    generalize upd H l (.lst (ks.map V.int)) = H1 at s1 u1 e1 k1 ⊢
    walk_at "w"
    refine w_takeL u1 e1 nlu (by rw [List.length_map]; omega) (by rw [List.length_map]; omega) fun v hv H2 k2 u2 => ?_
    obtain ⟨m, hm, rfl⟩ := List.mem_map.mp hv
    have mr := ok.rg m hm
    walk_at "w"
    refine w_grab u2 (by decide) (by decide) fun g H3 g0 g1 k3 u3 => ?_
    walk_at "w"
    refine w_grab u3 (by decide) (by decide) fun y H4 y0 y1 k4 u4 => ?_
    walk_at "w"
    have e4 : H4 l = some (.lst (ks.map V.int)) := k4 _ _ nlu (k3 _ _ nlu (k2 _ _ nlu e1))
    have k5 : Keep u H H4 := k1.trans (k2.trans (k3.trans k4))
    refine w_ifb (decide (y = 0)) (fun q hq => ?_) (fun c => ?_) fun c => ?_
    · walk_at "w"
      exact hq
    · walk_at "w"
      exact ⟨u, rfl, u4, fun p' H' d' ks' kk uu pp ok' => k p' H' d' ks' (k5.trans kk) uu pp (ok'.mono (by omega))⟩
    · walk_at "ws"
      walk_at "ws"
      refine w_asgB (decide ((ks.count (m + g) : Int) ≤ d) && (decide ((ks.length : Int) < d + 11) && decide (y > 1))) (fun q hq => ?_) ?_
      · walk_at "w"
        refine ⟨.inl ⟨rfl, _, SqL.of e4⟩, ?_⟩
        walk_at "w"
        refine w_cntL e4 ?_
        walk_at "w"
        refine w_iteAV hq fun _ hq2 => ?_
        walk_at "w"
        refine w_lenL e4 ?_
        walk_at "w"
        rw [List.length_map]
        refine w_iteAV hq2 fun _ hq3 => ?_
        walk_at "w"
        exact hq3
      · generalize hfi : (decide ((ks.count (m + g) : Int) ≤ d) && (decide ((ks.length : Int) < d + 11) && decide (y > 1))) = fi
        walk_at "w"
        refine w_ifE ?_
        walk_at "w"
        cases fi with
        | true =>
          simp only [Bool.and_eq_true, decide_eq_true_eq] at hfi
          walk_at "w"
          refine ⟨by walk_at "sz", fun a ha => ?_⟩
          refine w_addL (at_new ha e4) upd_same (by rw [sizeLine_eq, List.length_map]; show _ + 1 ≤ _; omega) fun b hb => ?_
          walk_at "w"
          have eb : upd (upd H4 a (.lst [.int (m + g)])) b (.lst (ks.map V.int ++ [.int (m + g)])) b = some (.lst ((ks ++ [m + g]).map V.int)) := by rw [upd_same, List.map_append]; rfl
          have sb := same_new (o := .lst (ks.map V.int ++ [.int (m + g)])) hb (same_new (o := .lst [.int (m + g)]) ha (Same.refl _))
          refine ⟨b, ks ++ [m + g], rfl, SqL.of eb, by rw [List.length_append, List.length_singleton]; omega, fun ls c pm so hc => ?_⟩
          walk_at "w"
          refine ⟨c, ls.map V.int, rfl, SqL.of upd_same, fun x H6 hx kk tx => ?_⟩
          have s6 : Same _ H6 := fun b o eb => (kk b (ne_of_none eb hx)).trans eb
          walk_at "w"
          refine ⟨by walk_at "sz", fun p4 hp4 => ?_⟩
          walk_at "w"
          have s7 := same_new (o := .lst [.int d, .ref x]) hp4 ((same_new (o := .lst (ls.map V.int)) hc sb).trans s6)
          exact k p4 _ d ls (k5.trans (Same.keep s7)) (u4.same s7) ⟨x, upd_same, tx.new hp4⟩ ((ok.mono (show B ≤ B + 1 by omega)).more (by omega) (by omega) pm so hfi.1 hfi.2.1)
        | false =>
          walk_at "w"
          refine ⟨l, ks.map V.int, rfl, SqL.of e4, fun x H6 hx kk tx => ?_⟩
          have s6 : Same H4 H6 := fun b o eb => (kk b (ne_of_none eb hx)).trans eb
          walk_at "w"
          refine ⟨by walk_at "sz", fun p4 hp4 => ?_⟩
          walk_at "w"
          have s7 := same_new (o := .lst [.int d, .ref x]) hp4 s6
          exact k p4 _ d ks (k5.trans (Same.keep s7)) (u4.same s7) ⟨x, upd_same, tx.new hp4⟩ (ok.mono (by omega))
end
end Bt

set_option Elab.async false
set_option linter.all false
set_option maxRecDepth 100000
set_option maxHeartbeats 4000000
/-! the law: places drawn -/
namespace Bt
open PySem L2
set_option pp.maxSteps 900
local macro_rules | `(tactic| walk_at "lk") => `(tactic| first
  | assumption
  | exact upd_same
  | (refine at_new ?_ ?_; · assumption
     walk_at "lk")
  | (refine at_mut ?_ ?_; · assumption
     walk_at "lk")
  | (refine at_same ?_ ?_; · assumption
     walk_at "lk"))
local macro_rules | `(tactic| walk_at "w1") => `(tactic| with_reducible first
  | refine w_seq ?_ | refine w_asg ?_ | refine w_name ?_ | refine w_ret ?_ | refine w_retN ?_ | refine w_drop ?_ | refine w_next ?_
  | refine w_op ?_ | refine w_var rfl ?_ | refine w_c ?_ | refine w_un ?_ | refine w_test ?_ | refine w_tB ?_ | refine w_bl ?_ | refine w_chain ?_
  | refine w_and ?_ | refine w_or ?_ | refine w_not ?_ | refine w_andV ?_ | refine w_orV ?_ | refine w_notV ?_ | refine w_cons ?_ | refine w_nil ?_
  | refine w_par ?_ | refine w_parL ?_ | refine w_call ?_ | refine w_CB ?_ | refine w_prop ?_ | refine w_fld ?_ | refine w_meth ?_ | refine w_make ?_ | refine w_tup ?_ | refine w_lst ?_
  | refine w_I0 ?_ | refine w_U ?_ | refine w_addI ?_ | refine w_eqI ?_ | refine w_eqS ?_ | refine w_neI ?_ | refine w_neS ?_ | refine w_isN ?_ | refine w_notN ?_
  | refine w_tt ?_ | refine w_ff ?_ | refine w_nt ?_ | refine w_nf ?_ | refine w_ntt ?_ | refine w_att ?_ | refine w_js ?_ | refine w_jsN ?_ | refine w_fmtS ?_ | refine w_m1 ?_ | refine w_m1L ?_ | refine w_sfld ?_ | refine w_bm ?_ | refine w_dc ?_ | refine w_iIt ?_ | refine w_star ?_ | refine w_mkO ?_ | refine w_raise ?_ | refine w_osg ?_ | refine w_gfld ?_ | refine w_kget ?_ | refine w_dget ?_ | refine w_din ?_ | refine w_dnotin ?_ | refine w_slice ?_ | refine w_on ?_ | refine w_os ?_ | refine w_sub ?_ | refine w_bmN ?_ | refine w_intI ?_ | refine w_intB ?_ | refine w_strS ?_
  | refine w_lc ?_ | refine w_for ?_ | refine w_iL ?_ | refine w_iT ?_ | refine w_iS ?_ | refine w_iK ?_ | refine w_iR1 ?_ | refine w_iR3 ?_ | refine w_iET ?_ | refine w_srcS ?_)
local macro_rules | `(tactic| walk_at "w") => `(tactic| (repeat walk_at "w1"); try (with_reducible refine w_ifN ?_))
local macro_rules | `(tactic| walk_at "ws") => `(tactic| with_reducible first | refine w_seq ?_ | refine w_next ?_)
local macro_rules | `(tactic| walk_at "w2") => `(tactic| repeat with_reducible first | refine w_seq ?_ | refine w_asg ?_ | refine w_name ?_ | refine w_next ?_)
local macro_rules | `(tactic| walk_at "sz") => `(tactic| (rw [sizeLine_eq]; exact Nat.le_of_ble_eq_true rfl))
theorem plOk_of {xs : List Int} (l1 : 1 ≤ xs.length) (l12 : xs.length ≤ 12) (so : xs.Pairwise (· < ·)) (rg : ∀ x ∈ xs, 0 ≤ x ∧ x ≤ 1000000) : PlOk xs where
  l1 := l1
  l12 := l12
  rg := fun i h0 h1 => rg _ (kat_mem h0 h1)
  up := fun i h0 h1 => by
    obtain ⟨n, rfl⟩ := Int.eq_ofNat_of_zero_le (show 0 ≤ i by omega)
    rw [show ((n : Nat) : Int) - 1 = ((n - 1 : Nat) : Int) by omega, kat_get (show n < xs.length by omega), kat_get (show n - 1 < xs.length by omega)]
    exact List.pairwise_iff_getElem.mp so (n - 1) n (by omega) (by omega) (by omega)
section
variable {P : Program} {w : World} {K : Frag} {mg : Str → Option Value} {base : Heap} {H : Hp} {Q : VK} {σ : L2.St}
def spSites : Sp := fun vs H Q _ => ∃ u p m d ks, vs = [.ref u, .ref p, .int m] ∧ Urn H u ∧ PlanAt H p (d, ks) ∧ PlanOk d ks ∧ 0 < m ∧ m ≤ 10 ∧ ∀ q H' xs, Keep u H H' → Urn H' u → TN H' q (xs.map V.int) → PlOk xs → Q (.ref q) H'
abbrev s__law_sites : Stmt := top 111
theorem sc__law_sites : FnScope ["_law_urn_here", "_law_plan", "_law_most", "_law_k", "_law_turn", "_law_knots", "_law_found", "_law_middle", "_law_some", "_law_each"] ["_law_urn_here", "_law_plan", "_law_most"] (defScope s__law_sites) := ⟨rfl, rfl, rfl, by decide +kernel, rfl, by decide +kernel, by decide +kernel⟩
theorem ok_law_sites (T : Txt w K mg) : Own P w K mg base "_law_sites" 3 ["_law_urn_here", "_law_plan", "_law_most"] spSites := by
  refine own_of T.f_law_sites sc__law_sites (fun _ _ _ _ _ _ us hl => match us, hl with | [_, _, _], _ => rfl) (fun vs H Q E h => ?_) (fun f cdv A outer s H vs Q E hr h => ?_)
  · obtain ⟨u, p, m, d, ks, rfl, _⟩ := h; rfl
  · have sc := sc__law_sites
    have hu64 := hr.units
    have hu65 := units65 hr
    obtain ⟨u, p, m, d, ks, rfl, hu, ⟨q, e, t⟩, ok, m0, m1, k⟩ := h
    dsimp only at e t
    have d0 := ok.d0; have d4 := ok.d4; have l0 := ok.l0; have l1 := ok.l1
    refine ⟨_, (pss_cons (ps_par (i := 5) (j := 6) (by rfl) sc.nd rfl rfl (by decide) rfl rfl (pa_cons (pe_ix ix_seq (pv 1) pe_int (fun _ _ => rfl)) (pa_cons (pe_lst pa_nil) pa_nil)) (by rfl))
      (pss_cons (ps_for (passes_of rfl) rfl (pi_range1 rfl T.b_range (pa_cons (pe_callB (call_lenU) (by rfl) T.b_len (by decide +kernel) (pa_cons (pv 5) pa_nil)) pa_nil)) (pg_name (i := 3) sc.nd rfl (Or.inl rfl)) (pss_cons (ps_set (i := 7) sc.nd rfl (Or.inl rfl) (pe_op op_fdiv (pe_op op_addU (pe_ix ix_seq (pv 5) (pv 3) (fun _ _ => rfl)) (pe_ix ix_seq (pv 5) (pe_callB (call_max2 rfl) (by rfl) T.b_max (by decide +kernel) (pa_cons pe_int (pa_cons (pe_op op_sub (pv 3) pe_int) pa_nil))) (fun _ _ => rfl))) pe_int))
      (pss_one (ps_set (i := 6) sc.nd rfl (Or.inl rfl) (pe_op op_addU (pv 6) (pe_lst (pa_cons (pe_callB (call_max2 rfl) (by rfl) T.b_max (by decide +kernel) (pa_cons pe_int (pa_cons (pe_op op_sub (pe_ix ix_seq (pv 5) (pv 3) (fun _ _ => rfl)) pe_int) pa_nil))) (pa_cons (pe_ix ix_seq (pv 5) (pv 3) (fun _ _ => rfl)) (pa_cons (pe_op op_addU (pe_ix ix_seq (pv 5) (pv 3) (fun _ _ => rfl)) pe_int) (pa_cons (pv 7) pa_nil))))))))))
      (pss_cons (ps_par (i := 6) (j := 8) (by rfl) sc.nd rfl rfl (by decide) rfl rfl (pa_cons (pe_callB (cr_sortedSet rfl) (by rfl) T.b_sorted (by decide +kernel) (pa_cons (pe_callTy (call_setU rfl) (by rfl) T.b_set (by decide +kernel) (pa_cons (pe_lc (own := [("_law_each", 9)]) rfl sc.nd (pi_list (pv 6)) (blkOk_by (by rfl)) (fun _ _ _ _ _ => (pg_name (i := 9) sc.nd rfl (Or.inl rfl))) (fun _ _ _ _ _ => (pts_one (pt_cmpR op_le (pv 9) (pe_op op_pow pe_int pe_int) (nomark _)))) (fun _ _ _ _ _ => (pv 9))) pa_nil)) pa_nil)) (pa_cons (pe_lst pa_nil) pa_nil)) (by rfl))
      (pss_cons (ps_for (passes_of rfl) rfl (pi_range1 rfl T.b_range (pa_cons (pe_op op_addU pe_int (pe_own (ok_law_grab T) hr passN (pa_cons (pv 0) (pa_cons (pv 2) pa_nil)))) pa_nil)) (pg_name (i := 4) sc.nd rfl (Or.inl rfl)) (pss_one (ps_expr (pe_bm PySem.F.plainAttrs_list PySem.F.slot_list_append PySem.F.type_list_append mt_append (pv 8) (pa_cons (pe_own (ok_law_take T) hr passN (pa_cons (pv 0) (pa_cons (pv 6) pa_nil))) pa_nil)))))
      (pss_one (ps_ret (pe_callTy call_tuple_ofN (by rfl) T.b_tuple (by decide +kernel) (pa_cons (pe_callB (cr_sortedSet rfl) (by rfl) T.b_sorted (by decide +kernel) (pa_cons (pe_callTy (call_setU rfl) (by rfl) T.b_set (by decide +kernel) (pa_cons (pv 8) pa_nil)) pa_nil)) pa_nil)))))))), ?_⟩
    walk_at "w"
    refine w_ixLa e rfl ?_
    walk_at "w"
    refine ⟨by walk_at "sz", fun l hl => ?_⟩
    walk_at "w"
    have s1 := same_new (o := .lst []) hl (Same.refl _)
    refine w_lenN (t.same s1) ?_
    rw [List.length_map]
    refine w_srcR (by omega) (by omega) ?_
    refine forB_range (fun i σ H' => ∃ fs fl v3 v4 v7 v8 v9, σ = [some (.ref u), some (.ref p), some (.int m), v3, v4, some (.ref q), some (.ref fl), v7, v8, v9] ∧ Same H H' ∧ H' fl = some (.lst (fs.map V.int)) ∧ fs.length = 4 * i ∧ (∀ x ∈ fs, 0 ≤ x) ∧ (0 < i → ∃ x ∈ fs, x ≤ 1000000)) ⟨[], l, _, _, _, _, _, rfl, s1, upd_same, rfl, by simp, by simp⟩ (fun i σ H' hi h => ?_) fun σ H' h => ?_
    · obtain ⟨fs, fl, v3, v4, v7, v8, v9, rfl, s2, e2, ln, f0, fx⟩ := h
      have hi' : i < ks.length := by simpa using hi
      have r1 := ok.rg (i : Nat) (by omega) (by omega)
      have t2 := t.same s2
      walk_at "w"
      refine w_ixN t2 (atI_kat (by omega) (by omega)) ?_
      walk_at "w"
      refine ⟨_, _, rfl, ?_⟩
      walk_at "w"
      refine w_ixN t2 (atI_kat (ks := ks) (by split <;> omega) (by split <;> omega)) ?_
      generalize hmid : kat ks (if (0 : Int) + (i : Nat) - 1 > 0 then (0 : Int) + (i : Nat) - 1 else 0) = md
      have r2 : 0 ≤ md := by rw [← hmid]; exact (ok.rg _ (by split <;> omega) (by split <;> omega)).1
      walk_at "w"
      refine w_I (C := CDiv) (j := 2) ⟨by decide, by decide⟩ ?_
      walk_at "w"
      refine w_ixN t2 (atI_kat (by omega) (by omega)) ?_
      walk_at "w"
      refine ⟨_, _, rfl, ?_⟩
      walk_at "w"
      refine w_ixN t2 (atI_kat (by omega) (by omega)) ?_
      walk_at "w"
      refine w_ixN t2 (atI_kat (by omega) (by omega)) ?_
      walk_at "w"
      refine ⟨by walk_at "sz", fun a ha => ?_⟩
      rw [Int.zero_add]
      refine w_addL (at_new ha e2) upd_same (by rw [sizeLine_eq, List.length_map]; show _ + 4 ≤ _; omega) fun b hb => ?_
      walk_at "w"
      refine ⟨fs ++ [if kat ks (i : Nat) - 1 > 0 then kat ks (i : Nat) - 1 else 0, kat ks (i : Nat), kat ks (i : Nat) + 1, (kat ks (i : Nat) + md) / 2], b, _, _, _, _, _, rfl, same_new hb (same_new ha s2), ?_, ?_, fun x hx => ?_, fun _ => ⟨kat ks (i : Nat), by simp, r1.2⟩⟩
      · rw [upd_same, List.map_append]; rfl
      · rw [List.length_append, ln]; rfl
      · rcases List.mem_append.mp hx with hx | hx
        · exact f0 x hx
        · simp only [List.mem_cons, List.not_mem_nil, or_false] at hx
          rcases hx with rfl | rfl | rfl | rfl
          · split <;> omega
          · omega
          · omega
          · omega
    · obtain ⟨fs, fl, v3, v4, v7, v8, v9, rfl, s2, e2, ln, f0, fx⟩ := h
      have ln' : fs.length = 4 * ks.length := by simpa using ln
      walk_at "w"
      refine w_srcL (SqL.of e2) ?_
      refine w_lcP (yl_lst e2) (fun x => match x with | .int y => decide (y ≤ 1000000) | _ => false) id (by rw [List.length_map]; omega) (fun _ => rfl) (fun x hx H3 s3 q3 hq3 => ?_) (fun x hx _ H3 s3 q3 hq3 => ?_) fun p2 H2 hp2 s3 e3 => ?_
      · obtain ⟨y, hy, rfl⟩ := List.mem_map.mp hx
        walk_at "w"
        refine w_I ⟨by decide, by decide, by decide⟩ ?_
        walk_at "w"
        exact hq3 _ (Same.refl _)
      · walk_at "w"
        exact hq3 _ (Same.refl _)
      · rw [List.map_id, List.filter_map] at e3
        have e4 : H2 p2 = some (.lst ((fs.filter fun y => decide (y ≤ 1000000)).map V.int)) := e3
        generalize hgs : (fs.filter fun y => decide (y ≤ 1000000)) = gs at e4
        have gl : gs.length ≤ 60 := by
          have := List.length_filter_le (fun y => decide (y ≤ 1000000)) fs
          rw [hgs] at this; omega
        have gr : ∀ x ∈ gs, 0 ≤ x ∧ x ≤ 1000000 := fun x hx => by
          rw [← hgs] at hx
          have := List.mem_filter.mp hx
          exact ⟨f0 x this.1, by simpa using this.2⟩
        have gn : ∃ x, x ∈ gs := by
          obtain ⟨x, hx, hy⟩ := fx (by simp; omega)
          exact ⟨x, by rw [← hgs]; exact List.mem_filter.mpr ⟨hx, by simpa using hy⟩⟩
        clear e3
        walk_at "w"
        refine w_setU (SqL.of e4) (by omega) fun a na ha hna => ?_
        walk_at "w"
        refine w_sortSet upd_same (by omega) fun ls b so me le hb => ?_
        walk_at "w"
        refine ⟨by walk_at "sz", fun c hc => ?_⟩
        walk_at "w"
        have s4 := same_new (o := SetO w a (fun k => decide (k ∈ gs)) na) ha (s2.trans s3)
        have s5 := same_new (o := .lst []) hc (same_new (o := .lst (ls.map V.int)) hb s4)
        have u5 := hu.same s5
        have e5 : upd (upd (upd H2 a (SetO w a (fun k => decide (k ∈ gs)) na)) b (.lst (ls.map V.int))) c (.lst []) b = some (.lst (ls.map V.int)) := at_new hc upd_same
        have e6 : upd (upd (upd H2 a (SetO w a (fun k => decide (k ∈ gs)) na)) b (.lst (ls.map V.int))) c (.lst []) c = some (.lst []) := upd_same
        have hc0 : H c = none := none_of_same s4 (none_of_new hc)
        have nb := (hu.same s4).free hb
        have nbc : b ≠ c := ne_of_none upd_same hc
        have nc := u5.ne e6 (fun x y z q => by cases q)
        refine w_grab u5 m0 (by omega) fun g H6 g0 g1 k6 u6 => ?_
        walk_at "w"
        refine w_srcR (by omega) (by omega) ?_
        have e6b : H6 b = some (.lst (ls.map V.int)) := k6 _ _ nb e5
        have e6c : H6 c = some (.lst (([] : List Int).map V.int)) := k6 _ _ nc e6
        have k0 : Keep u H H6 := (Same.keep s5).trans k6
        refine forB_range (fun i σ H' => ∃ zs v4, σ = [some (.ref u), some (.ref p), some (.int m), v3, v4, some (.ref q), some (.ref b), v7, some (.ref c), v9] ∧ Keep u H H' ∧ Urn H' u ∧ H' b = some (.lst (ls.map V.int)) ∧ H' c = some (.lst (zs.map V.int)) ∧ zs.length = i ∧ ∀ x ∈ zs, x ∈ ls) ⟨[], v4, rfl, k0, u6, e6b, e6c, rfl, by simp⟩ (fun i σ H' hi h => ?_) fun σ H' h => ?_
        · obtain ⟨zs, v4, rfl, k7, u7, eb, ec, lz, mz⟩ := h
          walk_at "w"
          refine ⟨.inl ⟨rfl, _, SqL.of ec⟩, ?_⟩
          walk_at "w"
          have ll : 0 < ls.length := by
            obtain ⟨x, hx⟩ := gn
            exact List.length_pos_of_mem ((me x).mpr hx)
          refine w_takeL u7 eb nb (by rw [List.length_map]; exact ll) (by rw [List.length_map]; omega) fun v hv H8 k8 u8 => ?_
          obtain ⟨x, hx, rfl⟩ := List.mem_map.mp hv
          walk_at "w"
          have ec8 := k8 _ _ nc ec
          refine ⟨c, _, _, rfl, rfl, ec8, by rw [List.length_map, sizeLine_eq]; omega, ?_⟩
          walk_at "w"
          refine ⟨zs ++ [x], _, rfl, fun y o n h => at_mut (fun z => ?_) (k8 y o n (k7 y o n h)), ?_, ?_, ?_, by rw [List.length_append, lz]; rfl, fun y hy => ?_⟩
          · rw [z, hc0] at h; cases h
          · obtain ⟨a1, a2, a3, ea⟩ := u8
            exact ⟨a1, a2, a3, at_mut nc.symm ea⟩
          · have eb8 := k8 _ _ nb eb
            exact at_mut nbc eb8
          · rw [upd_same, List.map_append]; rfl
          · rcases List.mem_append.mp hy with hy | hy
            · exact mz y hy
            · obtain rfl := List.mem_singleton.mp hy; exact hx
        · obtain ⟨zs, v4, rfl, k7, u7, eb, ec, lz, mz⟩ := h
          walk_at "w"
          refine w_setU (SqL.of ec) (by omega) fun a2 n2 ha2 hn2 => ?_
          walk_at "w"
          refine w_sortSet upd_same (by omega) fun ys b2 so2 me2 le2 hb2 => ?_
          walk_at "w"
          refine ⟨b2, ys.map V.int, rfl, SqL.of upd_same, fun x H8 hx kk tx => ?_⟩
          have s8 : Same _ H8 := fun y o ey => (kk y (ne_of_none ey hx)).trans ey
          have s9 := (same_new (o := .lst (ys.map V.int)) hb2 (same_new (o := SetO w a2 (fun k => decide (k ∈ zs)) n2) ha2 (Same.refl _))).trans s8
          refine k x H8 ys (k7.trans (Same.keep s9)) (u7.same s9) tx (plOk_of ?_ (by omega) so2 fun y hy => ?_)
          · cases zs with
            | nil => simp at lz; omega
            | cons z r => exact List.length_pos_of_mem ((me2 z).mpr (List.mem_cons_self ..))
          · exact gr y ((me y).mp (mz y ((me2 y).mp hy)))
end
end Bt

set_option Elab.async false
set_option linter.all false
set_option maxRecDepth 100000
set_option maxHeartbeats 4000000
/-! the law: a claim drawn -/
namespace Bt
open PySem L2
set_option pp.maxSteps 900
local macro_rules | `(tactic| walk_at "lk") => `(tactic| first
  | assumption
  | exact upd_same
  | (refine at_new ?_ ?_; · assumption
     walk_at "lk")
  | (refine at_mut ?_ ?_; · assumption
     walk_at "lk")
  | (refine at_same ?_ ?_; · assumption
     walk_at "lk"))
local macro_rules | `(tactic| walk_at "w1") => `(tactic| with_reducible first
  | refine w_seq ?_ | refine w_asg ?_ | refine w_name ?_ | refine w_ret ?_ | refine w_retN ?_ | refine w_drop ?_ | refine w_next ?_
  | refine w_op ?_ | refine w_var rfl ?_ | refine w_c ?_ | refine w_un ?_ | refine w_test ?_ | refine w_tB ?_ | refine w_bl ?_ | refine w_chain ?_
  | refine w_and ?_ | refine w_or ?_ | refine w_not ?_ | refine w_andV ?_ | refine w_orV ?_ | refine w_notV ?_ | refine w_cons ?_ | refine w_nil ?_
  | refine w_par ?_ | refine w_parL ?_ | refine w_call ?_ | refine w_CB ?_ | refine w_prop ?_ | refine w_fld ?_ | refine w_meth ?_ | refine w_make ?_ | refine w_tup ?_ | refine w_lst ?_
  | refine w_I0 ?_ | refine w_U ?_ | refine w_addI ?_ | refine w_eqI ?_ | refine w_eqS ?_ | refine w_neI ?_ | refine w_neS ?_ | refine w_isN ?_ | refine w_notN ?_
  | refine w_tt ?_ | refine w_ff ?_ | refine w_nt ?_ | refine w_nf ?_ | refine w_ntt ?_ | refine w_att ?_ | refine w_js ?_ | refine w_jsN ?_ | refine w_fmtS ?_ | refine w_m1 ?_ | refine w_m1L ?_ | refine w_sfld ?_ | refine w_bm ?_ | refine w_dc ?_ | refine w_iIt ?_ | refine w_star ?_ | refine w_mkO ?_ | refine w_raise ?_ | refine w_osg ?_ | refine w_gfld ?_ | refine w_kget ?_ | refine w_dget ?_ | refine w_din ?_ | refine w_dnotin ?_ | refine w_slice ?_ | refine w_on ?_ | refine w_os ?_ | refine w_sub ?_ | refine w_bmN ?_ | refine w_intI ?_ | refine w_intB ?_ | refine w_strS ?_
  | refine w_lc ?_ | refine w_for ?_ | refine w_iL ?_ | refine w_iT ?_ | refine w_iS ?_ | refine w_iK ?_ | refine w_iR1 ?_ | refine w_iR3 ?_ | refine w_iET ?_ | refine w_srcS ?_)
local macro_rules | `(tactic| walk_at "w") => `(tactic| (repeat walk_at "w1"); try (with_reducible refine w_ifN ?_))
local macro_rules | `(tactic| walk_at "ws") => `(tactic| with_reducible first | refine w_seq ?_ | refine w_next ?_)
local macro_rules | `(tactic| walk_at "w2") => `(tactic| repeat with_reducible first | refine w_seq ?_ | refine w_asg ?_ | refine w_name ?_ | refine w_next ?_)
local macro_rules | `(tactic| walk_at "sz") => `(tactic| (rw [sizeLine_eq]; exact Nat.le_of_ble_eq_true rfl))
section
variable {P : Program} {w : World} {K : Frag} {mg : Str → Option Value} {base : Heap} {H : Hp} {Q : VK} {σ : L2.St}
theorem LSh.stayL {H H' : Hp} {s : Addr} {sh : Shelf} (k : Stay H H') (h : LSh H s sh) : LSh H' s sh := h.stay (fun _ _ r => r.stay k) k
def spWant : Sp := fun vs H Q _ => ∃ u s l sh, ∃ ts : List Str, vs = [.ref u, .ref s, .ref l] ∧ Urn H u ∧ LSh H s sh ∧ H l = some (.lst (ts.map V.str)) ∧ 0 < ts.length ∧ ts.length < 1000 ∧ (∀ t ∈ ts, (shV sh t).isSome = true) ∧ ShOk sh ∧
  ∀ q H' wi, Keep u H H' → Urn H' u → WishAt H' q wi → WishOk wi → (∀ t ∈ wi.titles, t ∈ ts) → Q (.ref q) H'
abbrev s__law_want : Stmt := top 114
theorem sc__law_want : FnScope ["_law_urn_here", "_law_shelf", "_law_titles", "_law_plan", "_law_spots", "_law_title", "_law_way"] ["_law_urn_here", "_law_shelf", "_law_titles"] (defScope s__law_want) := ⟨rfl, rfl, rfl, by decide +kernel, rfl, by decide +kernel, by decide +kernel⟩
theorem ok_law_want (T : Txt w K mg) : Own P w K mg base "_law_want" 4 ["_law_urn_here", "_law_shelf", "_law_titles"] spWant := by
  refine own_of T.f_law_want sc__law_want (fun _ _ _ _ _ _ us hl => match us, hl with | [_, _, _], _ => rfl) (fun vs H Q E h => ?_) (fun f cdv A outer s H vs Q E hr h => ?_)
  · obtain ⟨u, s, l, sh, ts, rfl, _⟩ := h; rfl
  · have sc := sc__law_want
    have hu64 := hr.units
    have hu1 := units1 hr
    obtain ⟨u, sd, l, sh, ts, rfl, hu, hs, e, l0, l1, has, so, k⟩ := h
    have nl := hu.ne e (fun a b c z => by
      cases ts with
      | nil => cases z
      | cons t r => injection z with z; injection z with z _; cases z)
    refine ⟨_, (pss_cons (ps_par (i := 5) (j := 6) (by rfl) sc.nd rfl rfl (by decide) rfl rfl (pa_cons (pe_own (ok_law_take T) hr passN (pa_cons (pv 0) (pa_cons (pv 2) pa_nil))) (pa_cons (pe_own (ok_law_grab T) hr passN (pa_cons (pv 0) (pa_cons pe_int pa_nil))) pa_nil)) (by rfl))
      (pss_cons (ps_set (i := 3) sc.nd rfl (Or.inl rfl) (pe_dget (by exact hu1) (pv 1) (pv 5) (fun _ _ => rfl)))
      (pss_cons (ps_set (i := 4) sc.nd rfl (Or.inl rfl) (pe_own (ok_law_sites T) hr passN (pa_cons (pv 0) (pa_cons (pv 3) (pa_cons (pe_own (ok_law_take T) hr passN (pa_cons (pv 0) (pa_cons (pe_lst (pa_cons pe_int (pa_cons pe_int (pa_cons (pe_own (ok_law_many T) hr passN (pa_cons (pv 3) pa_nil)) pa_nil)))) pa_nil))) pa_nil)))))
      (pss_cons (ps_if (pt_cmpR (op_eqU (by exact hu64)) (pv 6) pe_int (nomark _)) (pss_one (ps_ret (pe_tup (pa_cons pe_str (pa_cons (pv 5) (pa_cons (pe_own (ok_law_take T) hr passN (pa_cons (pv 0) (pa_cons (pv 2) pa_nil))) pa_nil)))))) pss_nil)
      (pss_cons (ps_if (pt_cmpR (op_eqU (by exact hu64)) (pv 6) pe_int (nomark _)) (pss_one (ps_ret (pe_tup (pa_cons pe_str (pa_cons (pv 5) (pa_cons (pv 4) (pa_cons (pe_callB (call_min2 rfl) (by rfl) T.b_min (by decide +kernel) (pa_cons pe_int (pa_cons (pe_callB (call_max2 rfl) (by rfl) T.b_max (by decide +kernel) (pa_cons pe_int (pa_cons (pe_op op_addU (pe_own (ok_law_free T) hr passN (pa_cons (pv 3) (pa_cons (pv 4) pa_nil))) (pe_own (ok_law_take T) hr passN (pa_cons (pv 0) (pa_cons (pe_lst (pa_cons pe_int (pa_cons pe_int (pa_cons (pe_un un_neg pe_int) (pa_cons pe_int pa_nil))))) pa_nil)))) pa_nil))) pa_nil))) pa_nil))))))) pss_nil)
      (pss_one (ps_ret (pe_tup (pa_cons (pe_own (ok_law_take T) hr passN (pa_cons (pv 0) (pa_cons (pe_lst (pa_cons pe_str (pa_cons pe_str pa_nil))) pa_nil))) (pa_cons (pv 5) (pa_cons (pv 4) pa_nil))))))))))), ?_⟩
    walk_at "w"
    refine w_takeL hu e nl (by rw [List.length_map]; exact l0) (by rw [List.length_map]; exact l1) fun v hv H1 k1 u1 => ?_
    obtain ⟨t, ht, rfl⟩ := List.mem_map.mp hv
    walk_at "w"
    refine w_grab u1 (by decide) (by decide) fun y H2 y0 y1 k2 u2 => ?_
    walk_at "w"
    have k3 := k1.trans k2
    have gt : shV sh t = some (plOf sh t) := by
      have h := has t ht
      unfold plOf
      cases e : shV sh t with
      | none => rw [e] at h; cases h
      | some x => rfl
    obtain ⟨pa, dg, pp⟩ := (hs.stayL (hu.keep k3)).get gt
    have ok := so t _ gt
    have d0 := ok.d0; have d4 := ok.d4; have l0' := ok.l0; have l1' := ok.l1
    refine ⟨sd, _, rfl, dg, ?_⟩
    walk_at "w"
    refine ⟨pa, plOf sh t, rfl, pp, ?_⟩
    walk_at "w"
    refine ⟨by walk_at "sz", fun a ha => ?_⟩
    walk_at "w"
    refine w_takeN u2 ha (by simp) (by simp) fun v hv H3 k4 u3 => ?_
    obtain ⟨m, rfl, m0, m1⟩ : ∃ b : Int, v = .int b ∧ 0 < b ∧ b ≤ 10 := by
      simp only [List.mem_cons, List.not_mem_nil, or_false] at hv
      rcases hv with rfl | rfl | rfl
      · exact ⟨_, rfl, by decide, by decide⟩
      · exact ⟨_, rfl, by decide, by decide⟩
      · exact ⟨_, rfl, by omega, by omega⟩
    walk_at "w"
    have p3 := pp.stay (u2.keep k4)
    refine ⟨u, pa, m, _, _, rfl, u3, p3, ok, m0, m1, fun q H4 xs k5 u4 tx po => ?_⟩
    walk_at "w"
    have k6 := k3.trans (k4.trans k5)
    refine w_ifb (decide (y = 0)) (fun q hq => ?_) (fun c => ?_) fun c => ?_
    · walk_at "w"
      exact hq
    · walk_at "w"
      refine w_takeL u4 (k6 _ _ nl e) nl (by rw [List.length_map]; exact l0) (by rw [List.length_map]; exact l1) fun v hv H5 k7 u5 => ?_
      obtain ⟨t2, ht2, rfl⟩ := List.mem_map.mp hv
      walk_at "w"
      refine ⟨by walk_at "sz", fun r hr => ?_⟩
      walk_at "w"
      have s8 := same_new (o := .tup [.str "within", .str t, .str t2]) hr (Same.refl _)
      refine k r _ (.wi t t2) (k6.trans (k7.trans (Same.keep s8))) (u5.same s8) upd_same trivial fun z hz => ?_
      simp only [Wish.titles, List.mem_cons, List.not_mem_nil, or_false] at hz
      rcases hz with rfl | rfl <;> assumption
    · walk_at "w"
      refine w_ifb (decide (y = 1)) (fun q hq => ?_) (fun c => ?_) fun c => ?_
      · walk_at "w"
        exact hq
      · have p4 := p3.stay (u3.keep k5)
        walk_at "w"
        refine ⟨pa, q, plOf sh t, xs, rfl, p4, ok, tx, by have := po.l12; omega, fun H5 s5 => ?_⟩
        walk_at "w"
        refine ⟨by walk_at "sz", fun a2 ha2 => ?_⟩
        walk_at "w"
        refine w_takeN (u4.same s5) ha2 (by simp) (by simp) fun v hv H6 k7 u6 => ?_
        obtain ⟨g, rfl⟩ : ∃ b : Int, v = .int b := by
          simp only [List.mem_cons, List.not_mem_nil, or_false] at hv
          rcases hv with rfl | rfl | rfl | rfl <;> exact ⟨_, rfl⟩
        walk_at "w"
        refine ⟨_, _, rfl, ?_⟩
        walk_at "w"
        refine ⟨_, _, rfl, ?_⟩
        generalize hx : ((rk (plOf sh t).1 (plOf sh t).2 xs : Nat) : Int) + g = xv
        walk_at "w"
        refine ⟨by walk_at "sz", fun r hr => ?_⟩
        walk_at "w"
        refine k r _ (.rank t xs _) (k6.trans ((Same.keep s5).trans (k7.trans (Keep.new hr)))) (u6.same (same_new hr (Same.refl _))) ⟨q, upd_same, ((tx.same s5).stay ((u4.same s5).keep k7)).new hr⟩ ⟨po, ?_, ?_⟩ fun z hz => ?_
        · split <;> split <;> omega
        · split <;> split <;> omega
        · simp only [Wish.titles, List.mem_cons, List.not_mem_nil, or_false] at hz
          subst hz; exact ht
      · walk_at "w"
        refine ⟨by walk_at "sz", fun a2 ha2 => ?_⟩
        walk_at "w"
        refine w_takeN u4 ha2 (by simp) (by simp) fun v hv H6 k7 u6 => ?_
        obtain ⟨one, rfl⟩ : ∃ one : Bool, v = .str (if one = true then "one" else "all") := by
          simp only [List.mem_cons, List.not_mem_nil, or_false] at hv
          rcases hv with rfl | rfl
          · exact ⟨false, rfl⟩
          · exact ⟨true, rfl⟩
        walk_at "w"
        refine ⟨by walk_at "sz", fun r hr => ?_⟩
        walk_at "w"
        have s8 := same_new (o := .tup [.str (if one = true then "one" else "all"), .str t, .ref q]) hr (Same.refl _)
        refine k r _ (.al one t xs) (k6.trans (k7.trans (Same.keep s8))) (u6.same s8) ⟨q, upd_same, (tx.stay (u4.keep k7)).new hr⟩ po fun z hz => ?_
        simp only [Wish.titles, List.mem_cons, List.not_mem_nil, or_false] at hz
        subst hz; exact ht
end
end Bt

set_option Elab.async false
set_option linter.all false
set_option maxRecDepth 100000
set_option maxHeartbeats 4000000
/-! rules that the layer lacks: d != {} -/
namespace Bt
open PySem PySem.Spec PyProof.Rows L2
section
variable {X : Cx}
def rNeE : R2 := fun x y H Q => ∃ a b ks, x = .ref a ∧ y = .ref b ∧ H a = some (.dK ks) ∧ H b = some (.dK []) ∧ Q (.bl (!decide (ks = []))) H
theorem op_neE (hu : X.A.units < cLine) : OpR X (compareOp .NotEq) rNeE := by
  intro pins s σ H x y v u Q I rx ry h
  obtain ⟨a, b, ks, rfl, rfl, ea, eb, q⟩ := h
  obtain rfl : v = Value.ref a := rx
  obtain rfl : u = Value.ref b := ry
  obtain ⟨_, ya, va, ra, da⟩ := (show ObjOk X.prog X.w H s.heap a (.dK ks) from I.hok a _ ea)
  obtain ⟨_, yb, vb, rb, db⟩ := (show ObjOk X.prog X.w H s.heap b (.dK []) from I.hok b _ eb)
  have la := ra.length
  have lb := rb.length
  cases vb with
  | cons _ _ => cases lb
  | nil =>
    refine PySem.W.keq_ne (knd := mixKind X.prog X.w) (r := true) ya yb da db hu (fun e => ?_) (fin_bl I q ?_)
    · cases va with
      | nil => exact .nil
      | cons _ _ => cases e
    · cases ks with
      | nil =>
        cases va with
        | nil => rfl
        | cons _ _ => cases la
      | cons _ _ =>
        cases va with
        | nil => cases la
        | cons _ _ => rfl
end
end Bt

set_option Elab.async false
set_option linter.all false
set_option maxRecDepth 100000
set_option maxHeartbeats 4000000
/-! the law: a deed drawn -/
namespace Bt
open PySem L2
set_option pp.maxSteps 900
local macro_rules | `(tactic| walk_at "lk") => `(tactic| first
  | assumption
  | exact upd_same
  | (refine at_new ?_ ?_; · assumption
     walk_at "lk")
  | (refine at_mut ?_ ?_; · assumption
     walk_at "lk")
  | (refine at_same ?_ ?_; · assumption
     walk_at "lk"))
local macro_rules | `(tactic| walk_at "w1") => `(tactic| with_reducible first
  | refine w_seq ?_ | refine w_asg ?_ | refine w_name ?_ | refine w_ret ?_ | refine w_retN ?_ | refine w_drop ?_ | refine w_next ?_
  | refine w_op ?_ | refine w_var rfl ?_ | refine w_c ?_ | refine w_un ?_ | refine w_test ?_ | refine w_tB ?_ | refine w_bl ?_ | refine w_chain ?_
  | refine w_and ?_ | refine w_or ?_ | refine w_not ?_ | refine w_andV ?_ | refine w_orV ?_ | refine w_notV ?_ | refine w_cons ?_ | refine w_nil ?_
  | refine w_par ?_ | refine w_parL ?_ | refine w_call ?_ | refine w_CB ?_ | refine w_prop ?_ | refine w_fld ?_ | refine w_meth ?_ | refine w_make ?_ | refine w_tup ?_ | refine w_lst ?_
  | refine w_I0 ?_ | refine w_U ?_ | refine w_addI ?_ | refine w_eqI ?_ | refine w_eqS ?_ | refine w_neI ?_ | refine w_neS ?_ | refine w_isN ?_ | refine w_notN ?_
  | refine w_tt ?_ | refine w_ff ?_ | refine w_nt ?_ | refine w_nf ?_ | refine w_ntt ?_ | refine w_att ?_ | refine w_js ?_ | refine w_jsN ?_ | refine w_fmtS ?_ | refine w_m1 ?_ | refine w_m1L ?_ | refine w_sfld ?_ | refine w_bm ?_ | refine w_dc ?_ | refine w_iIt ?_ | refine w_star ?_ | refine w_mkO ?_ | refine w_raise ?_ | refine w_osg ?_ | refine w_gfld ?_ | refine w_kget ?_ | refine w_dget ?_ | refine w_din ?_ | refine w_dnotin ?_ | refine w_slice ?_ | refine w_on ?_ | refine w_os ?_ | refine w_sub ?_ | refine w_bmN ?_ | refine w_intI ?_ | refine w_intB ?_ | refine w_strS ?_
  | refine w_lc ?_ | refine w_for ?_ | refine w_iL ?_ | refine w_iT ?_ | refine w_iS ?_ | refine w_iK ?_ | refine w_iR1 ?_ | refine w_iR3 ?_ | refine w_iET ?_ | refine w_srcS ?_)
local macro_rules | `(tactic| walk_at "w") => `(tactic| (repeat walk_at "w1"); try (with_reducible refine w_ifN ?_))
local macro_rules | `(tactic| walk_at "ws") => `(tactic| with_reducible first | refine w_seq ?_ | refine w_next ?_)
local macro_rules | `(tactic| walk_at "w2") => `(tactic| repeat with_reducible first | refine w_seq ?_ | refine w_asg ?_ | refine w_name ?_ | refine w_next ?_)
local macro_rules | `(tactic| walk_at "sz") => `(tactic| (rw [sizeLine_eq]; exact Nat.le_of_ble_eq_true rfl))
section
variable {P : Program} {w : World} {K : Frag} {mg : Str → Option Value} {base : Heap} {H : Hp} {Q : VK} {σ : L2.St}
theorem units0 {k : Nat} {A : Around} (r : Room k A) : A.units < cLine := by have := r.un; omega
theorem nv_refs {as : List Addr} : ¬ Vary (.lst (as.map V.ref)) := fun h => by
  rcases h with ⟨_, _, _, z⟩ | ⟨a, b, c, z⟩ | ⟨_, z⟩
  rotate_right
  · cases z
  · cases z
  · cases as with
    | nil => cases z
    | cons x r => injection z with z; injection z with z _; cases z
theorem WlAt.stay {H H' : Hp} {p : Addr} {ws : List Wish} (s : Stay H H') (h : WlAt H p ws) : WlAt H' p ws := by
  obtain ⟨as, e, ps⟩ := h
  exact ⟨as, s _ _ nv_refs e, Paired.imp (fun _ _ r => r.stay s) ps⟩
/-- a page of the law's -/
def LPg (H : Hp) (a : Addr) (P : Pg) : Prop := ∃ s l, H a = some (.tup [.ref s, .ref l]) ∧ LSh H s P.sh ∧ WlAt H l P.ws
theorem LPg.stay {H H' : Hp} {a : Addr} {P : Pg} (k : Stay H H') (h : LPg H a P) : LPg H' a P := by
  obtain ⟨s, l, e, hs, hw⟩ := h
  exact ⟨s, l, k _ _ nv_tup e, hs.stayL k, hw.stay k⟩
structure LOk (B : Int) (P : Pg) : Prop where
  ok : PgOk P
  kn : ∀ kv ∈ P.sh, KnOk B kv.2.1 kv.2.2
/-- a deed that fits a page -/
structure DkOk (B : Int) (P : Pg) (c : Cmd) : Prop where
  ok : CmdOk c
  fit : CmdFit P c
  pl : ∀ t d ks, c = .put t d ks → KnOk B d ks
theorem DeedAt.stay {H H' : Hp} {p : Addr} (s : Stay H H') : ∀ {c : Cmd}, DeedAt H p c → DeedAt H' p c
  | .put t d ks, h => by
    obtain ⟨a, e, q⟩ := h
    refine ⟨a, s _ _ (fun h => ?_) e, q.stay s⟩
    rcases h with ⟨_, _, _, z⟩ | ⟨_, _, _, z⟩ | ⟨_, z⟩
    rotate_right
    · cases z
    · cases z
    · injection z with z; injection z with z _; cases z
  | .claim c, h => by
    obtain ⟨a, e, q⟩ := h
    refine ⟨a, s _ _ (fun h => ?_) e, q.stay s⟩
    rcases h with ⟨_, _, _, z⟩ | ⟨_, _, _, z⟩ | ⟨_, z⟩
    rotate_right
    · cases z
    · cases z
    · injection z with z; injection z with z _; cases z
  | .lift i, h => by
    refine s _ _ (fun h => ?_) h
    rcases h with ⟨_, _, _, z⟩ | ⟨_, _, _, z⟩ | ⟨_, z⟩
    rotate_right
    · cases z
    · cases z
    · injection z with z; injection z with z _; cases z
  | .drop t, h => by
    refine s _ _ (fun h => ?_) h
    rcases h with ⟨_, _, _, z⟩ | ⟨_, _, _, z⟩ | ⟨_, z⟩
    rotate_right
    · cases z
    · cases z
    · injection z with z; injection z with z _; cases z
  | .undo, h => h
  | .names, h => h
  | .claims, h => h
  | .shw _, h => h
theorem mem_shV {sh : Shelf} {t : Str} (h : t ∈ sh.map (·.1)) : (shV sh t).isSome = true := by
  unfold shV
  rw [Option.isSome_map]
  obtain ⟨kv, hk, rfl⟩ := List.mem_map.mp h
  exact List.find?_isSome.mpr ⟨kv, hk, by simp⟩
theorem shV_mem {sh : Shelf} {t : Str} {p : Plan} (h : shV sh t = some p) : (t, p) ∈ sh := by
  unfold shV at h
  obtain ⟨kv, h1, h2⟩ := Option.map_eq_some_iff.mp h
  have h3 := List.mem_of_find?_eq_some h1
  have h4 := List.find?_some h1
  obtain ⟨a, b⟩ := kv
  simp at h4 h2
  subst h4 h2
  exact h3
def spNewDeed : Sp := fun vs H Q _ => ∃ u pg tl P B, vs = [.ref u, .ref pg, .ref tl] ∧ Urn H u ∧ LPg H pg P ∧ H tl = some (.lst [.str "a", .str "zz", .str "rank"]) ∧ LOk B P ∧ 600000 ≤ B ∧ B < 1000000 ∧
  ∀ q H' c, Keep u H H' → Urn H' u → DeedAt H' q c → DkOk (B + 1) P c → Q (.ref q) H'
abbrev s__law_new_deed : Stmt := top 118
theorem sc__law_new_deed : FnScope ["_law_urn_here", "_law_page", "_law_titles", "_law_shelf", "_law_wishes", "_law_way", "_law_title"] ["_law_urn_here", "_law_page", "_law_titles"] (defScope s__law_new_deed) := ⟨rfl, rfl, rfl, by decide +kernel, rfl, by decide +kernel, by decide +kernel⟩
theorem ok_law_new_deed (T : Txt w K mg) : Own P w K mg base "_law_new_deed" 5 ["_law_urn_here", "_law_page", "_law_titles"] spNewDeed := by
  refine own_of T.f_law_new_deed sc__law_new_deed (fun _ _ _ _ _ _ us hl => match us, hl with | [_, _, _], _ => rfl) (fun vs H Q E h => ?_) (fun f cdv A outer s H vs Q E hr h => ?_)
  · obtain ⟨u, pg, tl, P, B, rfl, _⟩ := h; rfl
  · have sc := sc__law_new_deed
    have hu64 := hr.units
    have hu1 := units1 hr
    have hu0 := units0 hr
    obtain ⟨u, pg, tl, P, B, rfl, hu, ⟨sd, wl, ep, hs, hw⟩, et, lo, hB, hB2, k⟩ := h
    have ntl := hu.ne et (fun a b c z => by injection z with z; injection z with z _; cases z)
    refine ⟨_, (pss_cons (ps_asg (pv 1) (pg_tup rfl (pgs_cons (pg_name (i := 3) sc.nd rfl (Or.inl rfl)) (pgs_cons (pg_name (i := 4) sc.nd rfl (Or.inl rfl)) pgs_nil))))
      (pss_cons (ps_par (i := 5) (j := 6) (by rfl) sc.nd rfl rfl (by decide) rfl rfl (pa_cons (pe_own (ok_law_grab T) hr passN (pa_cons (pv 0) (pa_cons pe_int pa_nil))) (pa_cons (pe_own (ok_law_take T) hr passN (pa_cons (pv 0) (pa_cons (pv 2) pa_nil))) pa_nil)) (by rfl))
      (pss_cons (ps_if (PW.pt (pw_and (pt_cmpR op_lt (pv 5) pe_int (nomark _)) (pw_and1 (pt_cmpR (op_neE (by exact hu0)) (pv 3) pe_dnewK (nomark _))))) (pss_one (ps_ret (pe_lst (pa_cons pe_str (pa_cons (pe_own (ok_law_want T) hr passN (pa_cons (pv 0) (pa_cons (pv 3) (pa_cons (pe_callB (call_sortedD rfl) (by rfl) T.b_sorted (by decide +kernel) (pa_cons (pv 3) pa_nil)) pa_nil)))) pa_nil))))) pss_nil)
      (pss_cons (ps_if (pt_cmpR (op_eqU (by exact hu64)) (pv 5) pe_int (nomark _)) (pss_one (ps_ret (pe_lst (pa_cons pe_str (pa_cons (pe_own (ok_law_grab T) hr passN (pa_cons (pv 0) (pa_cons (pe_op op_addU (pe_callB (call_lenU) (by rfl) T.b_len (by decide +kernel) (pa_cons (pv 4) pa_nil)) pe_int) pa_nil))) pa_nil))))) pss_nil)
      (pss_cons (ps_if (pt_cmpR (op_eqU (by exact hu64)) (pv 5) pe_int (nomark _)) (pss_one (ps_ret (pe_lst (pa_cons pe_str (pa_cons (pv 6) pa_nil))))) pss_nil)
      (pss_one (ps_ret (pe_lst (pa_cons pe_str (pa_cons (pv 6) (pa_cons (pe_ifExp (pt_cmp (pc_din (by exact hu1) (pv 6) (pv 3))) (pe_own (ok_law_near T) hr passN (pa_cons (pv 0) (pa_cons (pe_dget (by exact hu1) (pv 3) (pv 6) (fun _ _ => rfl)) pa_nil))) (pe_own (ok_law_shape T) hr passN (pa_cons (pv 0) (pa_cons pe_int pa_nil)))) pa_nil))))))))))), ?_⟩
    walk_at "w"
    refine w_unp2 ep ?_
    walk_at "w"
    refine w_grab hu (by decide) (by decide) fun y H1 y0 y1 k1 u1 => ?_
    walk_at "w"
    refine w_takeL u1 (k1 _ _ ntl et) ntl (by decide) (by decide) fun v hv H2 k2 u2 => ?_
    obtain ⟨t, rfl, ht⟩ : ∃ t : Str, v = .str t ∧ t ∈ names3 := by
      simp only [List.mem_cons, List.not_mem_nil, or_false] at hv
      rcases hv with rfl | rfl | rfl
      · exact ⟨_, rfl, by simp⟩
      · exact ⟨_, rfl, by simp⟩
      · exact ⟨_, rfl, by simp⟩
    walk_at "w"
    have k3 := k1.trans k2
    have st := hu.keep k3
    have hs2 := hs.stayL st
    have hw2 := hw.stay st
    obtain ⟨kvs, hk, en⟩ := id hs2
    have hky := Ents.keys en
    have hlen : kvs.length = P.sh.length := by
      have := congrArg List.length hky
      simpa using this
    have hle := lo.ok.ls
    refine w_ifg (decide (y < 4) && !decide (kvs = [])) (fun q hq => ?_) (fun c H3 s3 => ?_) fun c H3 s3 => ?_
    · walk_at "w"
      by_cases z : y < 4
      · rw [decide_eq_true z, Bool.true_and] at hq
        rw [decide_eq_true z]
        walk_at "w"
        intro a ha
        walk_at "w"
        refine ⟨sd, a, kvs, rfl, rfl, at_new ha hk, upd_same, ?_⟩
        exact ⟨_, rfl, hq _ (same_new ha (Same.refl _))⟩
      · rw [decide_eq_false z, Bool.false_and] at hq
        rw [decide_eq_false z]
        walk_at "w"
        exact hq _ (Same.refl _)
    · walk_at "w"
      have ne : kvs ≠ [] := by
        rw [Bool.and_eq_true] at c
        simpa using c.2
      refine ⟨sd, kvs, P.sh.map (·.1), rfl, Rd.of (s3 _ _ hk), hky, by rw [List.length_map]; omega, fun ys a pm so ha => ?_⟩
      walk_at "w"
      have s4 := same_new (o := .lst (ys.map V.str)) ha s3
      have yl := pm.length_eq
      rw [List.length_map] at yl
      have y1 : 0 < ys.length := by
        cases kvs with
        | nil => exact absurd rfl ne
        | cons _ _ => rw [List.length_cons] at hlen; omega
      refine ⟨u, sd, a, P.sh, ys, rfl, u2.same s4, hs2.sameL s4, upd_same, y1, by omega, fun t ht => mem_shV (pm.mem_iff.mp ht), lo.ok.sh, fun q H5 wi k5 u5 wa wo tt => ?_⟩
      walk_at "w"
      refine ⟨by walk_at "sz", fun r hr => ?_⟩
      walk_at "w"
      have s6 := same_new (o := .lst [.str "claim", .ref q]) hr (Same.refl _)
      refine k r _ (.claim wi) (k3.trans ((Same.keep s4).trans (k5.trans (Same.keep s6)))) (u5.same s6) ⟨q, upd_same, wa.same s6⟩ ⟨⟨wo, fun t ht => ?_⟩, fun t ht => mem_shV (pm.mem_iff.mp (tt t ht)), fun _ _ _ z => by cases z⟩
      obtain ⟨kv, hk, rfl⟩ := List.mem_map.mp (pm.mem_iff.mp (tt t ht))
      exact lo.ok.names kv hk
    · walk_at "w"
      refine w_ifb (decide (y = 4)) (fun q hq => ?_) (fun c => ?_) fun c => ?_
      · walk_at "w"
        exact hq
      · obtain ⟨as, ew, pw⟩ := id (hw2.same s3)
        have lw := lo.ok.lw
        have la := Paired.len pw
        walk_at "w"
        refine w_lenL ew ?_
        walk_at "w"
        rw [List.length_map]
        refine w_grab (u2.same s3) (by omega) (by omega) fun g H4 g0 g1 k4 u4 => ?_
        walk_at "w"
        refine ⟨by walk_at "sz", fun r hr => ?_⟩
        walk_at "w"
        obtain ⟨n, rfl⟩ := Int.eq_ofNat_of_zero_le g0
        refine k r _ (.lift n) (k3.trans ((Same.keep s3).trans (k4.trans (Keep.new hr)))) (u4.same (same_new hr (Same.refl _))) upd_same ⟨show n ≤ 1000 by omega, trivial, fun _ _ _ z => by cases z⟩
      · walk_at "w"
        refine w_ifb (decide (y = 5)) (fun q hq => ?_) (fun c => ?_) fun c => ?_
        · walk_at "w"
          exact hq
        · walk_at "w"
          refine ⟨by walk_at "sz", fun r hr => ?_⟩
          walk_at "w"
          exact k r _ (.drop t) (k3.trans ((Same.keep s3).trans (Keep.new hr))) (u2.same (same_new hr s3)) upd_same ⟨ht, trivial, fun _ _ _ z => by cases z⟩
        · walk_at "w"
          obtain ⟨o, dg, eo⟩ := (hs2.sameL s3).look (t := t)
          have put : ∀ p' H4 d' ks', Keep u H3 H4 → Urn H4 u → PlanAt H4 p' (d', ks') → KnOk (B + 1) d' ks' → ∀ r, H4 r = none → Q (.ref r) (upd H4 r (.lst [.str "put", .str t, .ref p'])) := fun p' H4 d' ks' k4 u4 p4 kn r hr => by
            have s5 := same_new (o := .lst [.str "put", .str t, .ref p']) hr (Same.refl _)
            refine k r _ (.put t d' ks') (k3.trans ((Same.keep s3).trans (k4.trans (Same.keep s5)))) (u4.same s5) ⟨p', upd_same, p4.same s5⟩ ⟨⟨ht, kn.plan (by omega)⟩, trivial, fun _ _ _ z => by cases z; exact kn⟩
          refine w_ifE ?_
          walk_at "w"
          refine ⟨sd, o, rfl, dg, ?_⟩
          rw [eo]
          walk_at "w"
          cases gs : shV P.sh t with
          | some pl =>
            obtain ⟨pa, dg2, pp⟩ := (hs2.sameL s3).get gs
            rw [show (some pl).isSome = true from rfl]
            walk_at "w"
            refine ⟨sd, _, rfl, dg2, ?_⟩
            walk_at "w"
            refine ⟨u, pa, B, pl.1, pl.2, rfl, u2.same s3, pp, lo.kn _ (shV_mem gs), hB, fun p' H4 d' ks' k4 u4 p4 kn => ?_⟩
            walk_at "w"
            refine ⟨by walk_at "sz", fun r hr => ?_⟩
            walk_at "w"
            exact put p' H4 d' ks' k4 u4 p4 kn r hr
          | none =>
            rw [show (none : Option Plan).isSome = false from rfl]
            walk_at "w"
            refine ⟨u, rfl, u2.same s3, fun p' H4 d' ks' k4 u4 p4 kn => ?_⟩
            walk_at "w"
            refine ⟨by walk_at "sz", fun r hr => ?_⟩
            walk_at "w"
            exact put p' H4 d' ks' k4 u4 p4 (kn.mono (by omega)) r hr
end
end Bt

set_option Elab.async false
set_option linter.all false
set_option maxRecDepth 100000
set_option maxHeartbeats 4000000
/-! dicts made of pairs; claims that use a name -/
namespace Bt
open PySem L2
theorem kV_inj : ∀ {a b : Key}, kV a = kV b → a = b
  | .inl i, .inl j, h => by cases h; rfl
  | .inr i, .inr j, h => by cases h; rfl
  | .inl _, .inr _, h => by cases h
  | .inr _, .inl _, h => by cases h
theorem valV_nodup : ∀ {kvs : List (Key × V)}, (kvs.map (·.1)).Nodup → ∀ kv ∈ kvs, valV kvs kv.1 = some kv.2
  | p :: r, nd, kv, h => by
    rw [List.map_cons, List.nodup_cons] at nd
    rcases List.mem_cons.mp h with rfl | h
    · exact valV_pos rfl
    · rw [valV_neg (fun z => nd.1 (z ▸ List.mem_map.mpr ⟨kv, h, rfl⟩))]
      exact valV_nodup nd.2 kv h
theorem putK_new {kvs : List (Key × V)} {k : Key} {v : V} (h : k ∉ kvs.map (·.1)) : putK kvs k v = kvs ++ [(k, v)] := by
  unfold putK
  rw [if_neg]
  intro z
  obtain ⟨kv, hk, e⟩ := List.any_eq_true.mp z
  exact h (List.mem_map.mpr ⟨kv, hk, by simpa using e⟩)
theorem mergeK_app : ∀ (more acc : List (Key × V)), ((acc ++ more).map (·.1)).Nodup → mergeK acc more = acc ++ more
  | [], acc, _ => by rw [List.append_nil]; rfl
  | kv :: r, acc, nd => by
    have h : kv.1 ∉ acc.map (·.1) := fun z => by
      rw [List.map_append, List.map_cons] at nd
      exact (List.nodup_append.mp nd).2.2 _ z _ (List.mem_cons_self ..) rfl
    show mergeK (putK acc kv.1 kv.2) r = _
    rw [putK_new h, mergeK_app r (acc ++ [kv]) (by rw [List.append_assoc]; exact nd), List.append_assoc]
    rfl
theorem mergeK_put {kvs : List (Key × V)} (nd : (kvs.map (·.1)).Nodup) (k : Key) (v : V) : mergeK [] (kvs ++ [(k, v)]) = putK kvs k v := by
  have e : mergeK [] (kvs ++ [(k, v)]) = putK (mergeK [] kvs) k v := by
    unfold mergeK
    rw [List.foldl_append]; rfl
  rw [e, mergeK_app kvs [] (by simpa using nd), List.nil_append]
/-- a pair of a key and what a dict has under it -/
def PairR (kvs : List (Key × V)) (x y : V) (H : Hp) : Prop := ∃ p k v, x = kV k ∧ y = V.ref p ∧ valV kvs k = some v ∧ H p = some (.tup [kV k, v])
theorem PairR.mono {kvs : List (Key × V)} {x y : V} {H1 H2 : Hp} (s : SameNL H1 H2) (h : PairR kvs x y H1) : PairR kvs x y H2 := by
  obtain ⟨p, k, v, e1, e2, e3, e4⟩ := h
  exact ⟨p, k, v, e1, e2, e3, s _ _ (fun _ z => by cases z) e4⟩
theorem pairs_of {kvs : List (Key × V)} {H : Hp} : ∀ {l : List (Key × V)} {ys : List V}, (∀ kv ∈ l, valV kvs kv.1 = some kv.2) → Paired (fun x y => PairR kvs x y H) (l.map fun kv => kV kv.1) ys →
    ∃ ps : List Addr, ys = ps.map V.ref ∧ Paired (fun p kv => H p = some (.tup [kV kv.1, kv.2])) ps l
  | [], _, _, h => by cases h; exact ⟨[], rfl, .nil⟩
  | kv :: r, _, hv, h => by
    rw [List.map_cons] at h
    cases h with
    | cons q t =>
      obtain ⟨ps, e, pp⟩ := pairs_of (fun kv hk => hv kv (List.mem_cons_of_mem _ hk)) t
      obtain ⟨p, k, v, e1, e2, e3, e4⟩ := q
      obtain rfl := kV_inj e1
      rw [hv kv (List.mem_cons_self ..)] at e3
      cases e3
      exact ⟨p :: ps, by rw [List.map_cons, ← e, e2], .cons e4 pp⟩
theorem shDrop_keys {kvs : List (Key × V)} {sh : Shelf} {R : Addr → Plan → Prop} (en : Ents R kvs sh) (t : Str) : Ents R (kvs.filter fun kv => decide (kV kv.1 ≠ .str t)) (shDrop sh t) := by
  induction en with
  | nil => exact .nil
  | @cons kv tp kvs sh r ts ih =>
    obtain ⟨e, a, ev, ra⟩ := r
    unfold shDrop at ih ⊢
    have hd : decide (kV kv.1 ≠ .str t) = decide (tp.1 ≠ t) := by
      rw [e]
      by_cases z : tp.1 = t
      · subst z; simp [kV]
      · simp [kV, z]
    rw [List.filter_cons, List.filter_cons, hd]
    split
    · exact .cons ⟨e, a, ev, ra⟩ ih
    · exact ih
/-- the claims that use a name, by their places -/
def usesL (t : Str) (ws : List Wish) : List Nat := (List.range ws.length).filter fun i => match ws[i]? with | some c => decide (t ∈ c.titles) | none => false
theorem usesL_cons {t : Str} {c : Wish} {ws : List Wish} : usesL t (c :: ws) = (if t ∈ c.titles then [0] else []) ++ (usesL t ws).map (· + 1) := by
  unfold usesL
  rw [List.length_cons, List.range_succ_eq_map, List.filter_cons, List.filter_map]
  have e : ∀ l : List Nat, List.filter ((fun i => match (c :: ws)[i]? with | some c => decide (t ∈ c.titles) | none => false) ∘ Nat.succ) l = List.filter (fun i => match ws[i]? with | some c => decide (t ∈ c.titles) | none => false) l := fun l => List.filter_congr fun i _ => by
    simp only [Function.comp, List.getElem?_cons_succ]
  rw [e]
  simp only [List.getElem?_cons_zero, decide_eq_true_eq]
  by_cases z : t ∈ c.titles
  · simp [z]
  · simp [z]
theorem uses_first {t : Str} : ∀ (ws : List Wish) (k : Nat), uses t k ws = ((usesL t ws)[0]?).map (· + k)
  | [], k => rfl
  | c :: ws, k => by
    rw [usesL_cons, uses]
    by_cases z : t ∈ c.titles
    · rw [if_pos z, if_pos z]; simp
    · rw [if_neg z, if_neg z, uses_first ws (k + 1), List.nil_append]
      cases h : (usesL t ws)[0]? with
      | none => rw [List.getElem?_map, h]; rfl
      | some x => rw [List.getElem?_map, h]; simp; omega
end Bt

set_option Elab.async false
set_option linter.all false
set_option maxRecDepth 100000
set_option maxHeartbeats 4000000
/-! the law: what is behind a deed -/
namespace Bt
open PySem L2
set_option pp.maxSteps 900
local macro_rules | `(tactic| walk_at "lk") => `(tactic| first
  | assumption
  | exact upd_same
  | (refine at_new ?_ ?_; · assumption
     walk_at "lk")
  | (refine at_mut ?_ ?_; · assumption
     walk_at "lk")
  | (refine at_same ?_ ?_; · assumption
     walk_at "lk"))
local macro_rules | `(tactic| walk_at "w1") => `(tactic| with_reducible first
  | refine w_seq ?_ | refine w_asg ?_ | refine w_name ?_ | refine w_ret ?_ | refine w_retN ?_ | refine w_drop ?_ | refine w_next ?_
  | refine w_op ?_ | refine w_var rfl ?_ | refine w_c ?_ | refine w_un ?_ | refine w_test ?_ | refine w_tB ?_ | refine w_bl ?_ | refine w_chain ?_
  | refine w_and ?_ | refine w_or ?_ | refine w_not ?_ | refine w_andV ?_ | refine w_orV ?_ | refine w_notV ?_ | refine w_cons ?_ | refine w_nil ?_
  | refine w_par ?_ | refine w_parL ?_ | refine w_call ?_ | refine w_CB ?_ | refine w_prop ?_ | refine w_fld ?_ | refine w_meth ?_ | refine w_make ?_ | refine w_tup ?_ | refine w_lst ?_
  | refine w_I0 ?_ | refine w_U ?_ | refine w_addI ?_ | refine w_eqI ?_ | refine w_eqS ?_ | refine w_neI ?_ | refine w_neS ?_ | refine w_isN ?_ | refine w_notN ?_
  | refine w_tt ?_ | refine w_ff ?_ | refine w_nt ?_ | refine w_nf ?_ | refine w_ntt ?_ | refine w_att ?_ | refine w_js ?_ | refine w_jsN ?_ | refine w_fmtS ?_ | refine w_m1 ?_ | refine w_m1L ?_ | refine w_sfld ?_ | refine w_bm ?_ | refine w_dc ?_ | refine w_iIt ?_ | refine w_star ?_ | refine w_mkO ?_ | refine w_raise ?_ | refine w_osg ?_ | refine w_gfld ?_ | refine w_kget ?_ | refine w_dget ?_ | refine w_din ?_ | refine w_dnotin ?_ | refine w_slice ?_ | refine w_on ?_ | refine w_os ?_ | refine w_sub ?_ | refine w_bmN ?_ | refine w_intI ?_ | refine w_intB ?_ | refine w_strS ?_
  | refine w_lc ?_ | refine w_for ?_ | refine w_iL ?_ | refine w_iT ?_ | refine w_iS ?_ | refine w_iK ?_ | refine w_iR1 ?_ | refine w_iR3 ?_ | refine w_iET ?_ | refine w_srcS ?_)
local macro_rules | `(tactic| walk_at "w") => `(tactic| (repeat walk_at "w1"); try (with_reducible refine w_ifN ?_))
local macro_rules | `(tactic| walk_at "ws") => `(tactic| with_reducible first | refine w_seq ?_ | refine w_next ?_)
local macro_rules | `(tactic| walk_at "w2") => `(tactic| repeat with_reducible first | refine w_seq ?_ | refine w_asg ?_ | refine w_name ?_ | refine w_next ?_)
local macro_rules | `(tactic| walk_at "sz") => `(tactic| (rw [sizeLine_eq]; exact Nat.le_of_ble_eq_true rfl))
/-- the error of a deed, none if it is done -/
def behErr (P : Pg) : Cmd → List V
  | .put t d ks => badV (bad (shPut P.sh t (d, ks)) 0 P.ws)
  | .claim c => badV (bad P.sh 0 (P.ws ++ [c]))
  | .lift i => if i < P.ws.length then [] else [.str "InvalidIndex", .str (rpTx (.int (i : Nat)))]
  | .drop t => if (shV P.sh t).isSome = true then (match uses t 0 P.ws with | some i => [.str "InUse", .str (rpTx (.int (i : Nat)))] | none => []) else [.str "UnknownName", .str (rpTx (.str t))]
  | _ => []
/-- the page behind a deed that is done -/
def nextPg (P : Pg) : Cmd → Pg
  | .put t d ks => ⟨shPut P.sh t (d, ks), P.ws⟩
  | .claim c => ⟨P.sh, P.ws ++ [c]⟩
  | .lift i => ⟨P.sh, lifted P.ws i⟩
  | .drop t => ⟨shDrop P.sh t, P.ws⟩
  | _ => P
theorem paired_len {α β : Type} {R : α → β → Prop} {l : List α} {k : List β} (h : Paired R l k) : l.length = k.length := Paired.len h
/-- the words of an error -/
def badW : Option (Nat × V) → List Str
  | none => []
  | some (i, v) => ["Broken", rpTx (.int (i : Nat)), rpTx v]
theorem badV_W : ∀ b : Option (Nat × V), badV b = (badW b).map V.str
  | none => rfl
  | some (_, _) => rfl
theorem rp_name {t : Str} (h : t ∈ names3) : (PySem.reprText t).length ≤ sizeLine := by
  simp only [names3, List.mem_cons, List.not_mem_nil, or_false] at h
  rw [sizeLine_eq]
  rcases h with rfl | rfl | rfl <;> decide +kernel
theorem any1 {a t : Str} : PyData.eqv (.str a) (.str t) = decide (a = t) := by
  simp only [PyData.eqv]
  by_cases h : a = t <;> simp [h]
theorem mem1 {a t : Str} : decide (a = t) = decide (t ∈ [a]) := by
  rw [Bool.eq_iff_iff]
  simp only [decide_eq_true_eq, List.mem_cons, List.not_mem_nil, or_false]
  exact ⟨Eq.symm, Eq.symm⟩
theorem mem2 {a b t : Str} : (decide (a = t) || decide (b = t)) = decide (t ∈ [a, b]) := by
  rw [Bool.eq_iff_iff]
  simp only [Bool.or_eq_true, decide_eq_true_eq, List.mem_cons, List.not_mem_nil, or_false]
  exact ⟨fun h => h.elim (fun z => .inl z.symm) fun z => .inr z.symm, fun h => h.elim (fun z => .inl z.symm) fun z => .inr z.symm⟩
/-- what a claim holds behind its kind -/
theorem WishAt.tail {K : Frag} {H : Hp} {p : Addr} {w : Wish} (h : WishAt H p w) : ∃ (hd : V) (r : List V) (ds : List PyData), H p = some (.tup (hd :: r)) ∧ DpAll K H r ds ∧ PyData.plainAll ds = true ∧ PyData.depthAll ds ≤ 1 ∧ ∀ t : Str, (ds.any fun z => PyData.eqv z (.str t)) = decide (t ∈ w.titles) := by
  cases w with
  | wi a b =>
    refine ⟨_, _, [.str a, .str b], h, .cons (.str a) (.cons (.str b) .nil), rfl, Nat.zero_le _, fun t => ?_⟩
    rw [List.any_cons, List.any_cons, List.any_nil, any1, any1, Bool.or_false]
    exact mem2
  | rank t' xs n =>
    obtain ⟨s, e, ts⟩ := h
    refine ⟨_, _, [.str t', .tuple (xs.map PyData.int), .int n], e, .cons (.str t') (.cons (dp_tupN ts) (.cons (.int n) .nil)), ?_, ?_, fun t => ?_⟩
    · simp only [PyData.plainAll, PyData.plain, pl_ints, Bool.and_self]
    · simp only [PyData.depthAll, PyData.depth, dep_ints]; decide
    · rw [List.any_cons, List.any_cons, List.any_cons, List.any_nil, any1, show PyData.eqv (.tuple (xs.map PyData.int)) (.str t) = false by simp only [PyData.eqv], show PyData.eqv (.int n) (.str t) = false by simp only [PyData.eqv], Bool.or_false, Bool.or_false, Bool.or_false]
      exact mem1
  | al one t' xs =>
    obtain ⟨s, e, ts⟩ := h
    refine ⟨_, _, [.str t', .tuple (xs.map PyData.int)], e, .cons (.str t') (.cons (dp_tupN ts) .nil), ?_, ?_, fun t => ?_⟩
    · simp only [PyData.plainAll, PyData.plain, pl_ints, Bool.and_self]
    · simp only [PyData.depthAll, PyData.depth, dep_ints]; decide
    · rw [List.any_cons, List.any_cons, List.any_nil, any1, show PyData.eqv (.tuple (xs.map PyData.int)) (.str t) = false by simp only [PyData.eqv], Bool.or_false, Bool.or_false]
      exact mem1
section
variable {P : Program} {w : World} {K : Frag} {mg : Str → Option Value} {base : Heap} {H : Hp} {Q : VK} {σ : L2.St}
theorem Same.unlock {H H1 : Hp} {a : Addr} {u : HO} {od : Obj} (e : H a = some u) (s : Same (upd H a (.frz od u)) H1) : Same H (upd H1 a u) := fun b o h => by
  by_cases z : b = a
  · subst z; rw [upd_same]; exact e.symm.trans h
  · rw [upd_ne z]; exact s _ _ (at_mut z h)
def spBehind : Sp := fun vs H Q _ => ∃ pg dd P c B B', vs = [.ref pg, .ref dd] ∧ LPg H pg P ∧ DeedAt H dd c ∧ DkOk B P c ∧ LOk B' P ∧
  ∀ q e a H', Same H H' → H' q = some (.tup [.ref e, .ref a]) → H' e = some (.lst (behErr P c)) → (behErr P c = [] → LPg H' a (nextPg P c)) → (behErr P c ≠ [] → a = pg) → Q (.ref q) H'
abbrev s__law_behind : Stmt := top 117
theorem sc__law_behind : FnScope ["_law_page", "_law_deed", "_law_uses", "_law_shelf", "_law_wishes", "_law_later", "_law_broken_here", "_law_k", "_law_title"] ["_law_page", "_law_deed"] (defScope s__law_behind) := ⟨rfl, rfl, rfl, by decide +kernel, rfl, by decide +kernel, by decide +kernel⟩
theorem ok_law_behind (T : Txt w K mg) : Own P w K mg base "_law_behind" 5 ["_law_page", "_law_deed"] spBehind := by
  refine own_of T.f_law_behind sc__law_behind (fun _ _ _ _ _ _ us hl => match us, hl with | [_, _], _ => rfl) (fun vs H Q E h => ?_) (fun f cdv A outer s H vs Q E hr h => ?_)
  · obtain ⟨pg, dd, P, c, B, B', rfl, _⟩ := h; rfl
  · have sc := sc__law_behind
    have hu64 := hr.units
    have hu65 := units65 hr
    have hu1 := units1 hr
    obtain ⟨pg, dd, P, c, B, B', rfl, ⟨sd, wl, ep, hs, hw⟩, da, dk, lo, k⟩ := h
    obtain ⟨kvs, hk, en⟩ := id hs
    obtain ⟨as, ew, pw⟩ := id hw
    have hkeys := Ents.keys en
    have hlen : kvs.length = P.sh.length := Paired.len en
    have lw := lo.ok.lw
    have ls := lo.ok.ls
    have la := Paired.len pw
    have nd : (kvs.map (·.1)).Nodup := by
      rw [hkeys]
      exact List.Pairwise.map _ (fun a b n z => n (Sum.inr.inj z)) lo.ok.nd
    refine ⟨_, (pss_cons (ps_asg (pv 0) (pg_tup rfl (pgs_cons (pg_name (i := 3) sc.nd rfl (Or.inr rfl)) (pgs_cons (pg_name (i := 4) sc.nd rfl (Or.inr rfl)) pgs_nil))))
      (pss_cons (ps_if (pt_cmpR (op_eqU (by exact hu64)) (pe_ix ix_seq (pv 1) pe_int (fun _ _ => rfl)) pe_str (nomark _)) (pss_cons (ps_lock (ps_set (i := 5) sc.nd rfl (Or.inl rfl) (pe_callTy (call_dictP rfl) (by rfl) T.b_dict (by decide +kernel) (pa_cons (pe_op op_addU (pe_lc (own := [("_law_title", 8)]) rfl sc.nd (pi_keys (pv 3)) (blkOk_by (by rfl)) (fun _ _ _ _ _ => (pg_name (i := 8) sc.nd rfl (Or.inl rfl))) (fun _ _ _ _ _ => pts_nil) (fun _ _ _ _ _ => (pe_tup (pa_cons (pv 8) (pa_cons (pe_dget (by exact hu1) (pv 3) (pv 8) (fun _ _ => rfl)) pa_nil))))) (pe_lst (pa_cons (pe_tup (pa_cons (pe_ix ix_seq (pv 1) pe_int (fun _ _ => rfl)) (pa_cons (pe_ix ix_seq (pv 1) pe_int (fun _ _ => rfl)) pa_nil))) pa_nil))) pa_nil))))
      (pss_cons (ps_set (i := 6) sc.nd rfl (Or.inl rfl) (pe_own (ok_law_broken T) hr passN (pa_cons (pv 5) (pa_cons (pv 4) pa_nil))))
      (pss_one (ps_ret (pe_tup (pa_cons (pv 6) (pa_cons (pe_ifExp (pt_cmpR (op_eqU (by exact hu64)) (pv 6) (pe_lst pa_nil) (nomark _)) (pe_tup (pa_cons (pv 5) (pa_cons (pv 4) pa_nil))) (pv 0)) pa_nil))))))) pss_nil)
      (pss_cons (ps_if (pt_cmpR (op_eqU (by exact hu64)) (pe_ix ix_seq (pv 1) pe_int (fun _ _ => rfl)) pe_str (nomark _)) (pss_cons (ps_set (i := 6) sc.nd rfl (Or.inl rfl) (pe_own (ok_law_broken T) hr passN (pa_cons (pv 3) (pa_cons (pe_op op_addU (pv 4) (pe_lst (pa_cons (pe_ix ix_seq (pv 1) pe_int (fun _ _ => rfl)) pa_nil))) pa_nil))))
      (pss_one (ps_ret (pe_tup (pa_cons (pv 6) (pa_cons (pe_ifExp (pt_cmpR (op_eqU (by exact hu64)) (pv 6) (pe_lst pa_nil) (nomark _)) (pe_tup (pa_cons (pv 3) (pa_cons (pe_op op_addU (pv 4) (pe_lst (pa_cons (pe_ix ix_seq (pv 1) pe_int (fun _ _ => rfl)) pa_nil))) pa_nil))) (pv 0)) pa_nil)))))) pss_nil)
      (pss_cons (ps_if (pt_cmpR (op_eqU (by exact hu64)) (pe_ix ix_seq (pv 1) pe_int (fun _ _ => rfl)) pe_str (nomark _)) (pss_cons (ps_if (pt_not (pt_chain op_le op_lt pe_int (pe_ix ix_seq (pv 1) pe_int (fun _ _ => rfl)) (pe_callB (call_lenU) (by rfl) T.b_len (by decide +kernel) (pa_cons (pv 4) pa_nil)))) (pss_one (ps_ret (pe_tup (pa_cons (pe_lst (pa_cons pe_str (pa_cons (pe_callB call_reprU (by rfl) T.b_repr (by decide +kernel) (pa_cons (pe_ix ix_seq (pv 1) pe_int (fun _ _ => rfl)) pa_nil)) pa_nil))) (pa_cons (pv 0) pa_nil))))) pss_nil)
      (pss_one (ps_ret (pe_tup (pa_cons (pe_lst pa_nil) (pa_cons (pe_tup (pa_cons (pv 3) (pa_cons (pe_op op_addU (pe_slice sl_U (pv 4) po_none (po_some (pe_ix ix_seq (pv 1) pe_int (fun _ _ => rfl)))) (pe_slice sl_U (pv 4) (po_some (pe_op op_addU (pe_ix ix_seq (pv 1) pe_int (fun _ _ => rfl)) pe_int)) po_none)) pa_nil))) pa_nil)))))) pss_nil)
      (pss_cons (ps_if (pt_cmp (pc_dnotin (by exact hu1) (pe_ix ix_seq (pv 1) pe_int (fun _ _ => rfl)) (pv 3))) (pss_one (ps_ret (pe_tup (pa_cons (pe_lst (pa_cons pe_str (pa_cons (pe_callB call_reprU (by rfl) T.b_repr (by decide +kernel) (pa_cons (pe_ix ix_seq (pv 1) pe_int (fun _ _ => rfl)) pa_nil)) pa_nil))) (pa_cons (pv 0) pa_nil))))) pss_nil)
      (pss_cons (ps_setLc (i := 2) (own := [("_law_k", 7)]) rfl sc.nd rfl rfl (sw_true rfl rfl rfl (by decide +kernel)) (pi_range1 rfl T.b_range (pa_cons (pe_callB (call_lenU) (by rfl) T.b_len (by decide +kernel) (pa_cons (pv 4) pa_nil)) pa_nil)) (blkOk_by (by rfl)) (fun _ _ _ _ _ => (pg_name (i := 7) sc.nd rfl (Or.inl rfl))) (fun _ _ _ _ _ => (pts_one (pt_cmpR (op_inDTK K (by exact hu65)) (pe_ix (ix_seqK K) (pv 1) pe_int (fun _ _ => rfl)) (pe_slice (sl_UK K) (pe_ix (ix_seqK K) (pv 4) (pv 7) (fun _ _ => rfl)) (po_some pe_int) po_none) (by rfl)))) (fun _ _ _ _ _ => (pv 7)))
      (pss_cons (ps_if (pt_cmpR (op_neU (by exact hu64)) (pv 2) (pe_lst pa_nil) (nomark _)) (pss_one (ps_ret (pe_tup (pa_cons (pe_lst (pa_cons pe_str (pa_cons (pe_callB call_reprU (by rfl) T.b_repr (by decide +kernel) (pa_cons (pe_ix ix_seq (pv 2) pe_int (fun _ _ => rfl)) pa_nil)) pa_nil))) (pa_cons (pv 0) pa_nil))))) pss_nil)
      (pss_one (ps_lock (ps_ret (pe_tup (pa_cons (pe_lst pa_nil) (pa_cons (pe_tup (pa_cons (pe_callTy (call_dictP rfl) (by rfl) T.b_dict (by decide +kernel) (pa_cons (pe_lc (own := [("_law_title", 8)]) rfl sc.nd (pi_keys (pv 3)) (blkOk_by (by rfl)) (fun _ _ _ _ _ => (pg_name (i := 8) sc.nd rfl (Or.inl rfl))) (fun _ _ _ _ _ => (pts_one (pt_cmpR (op_neUK K (by exact hu64)) (pv 8) (pe_ix (ix_seqK K) (pv 1) pe_int (fun _ _ => rfl)) (nomark _)))) (fun _ _ _ _ _ => (pe_tup (pa_cons (pv 8) (pa_cons (pe_dget (by exact hu1) (pv 3) (pv 8) (fun _ _ => rfl)) pa_nil))))) pa_nil)) (pa_cons (pv 4) pa_nil))) pa_nil))))))))))))), ?_⟩
    walk_at "w"
    refine w_unp2 ep ?_
    walk_at "w"
    cases c with
    | put t d ks =>
      obtain ⟨pa, e, pp⟩ := da
      refine w_ifb true (fun q hq => ?_) (fun _ => ?_) (fun c => nomatch c)
      · walk_at "w"
        refine w_ixLa e rfl ?_
        walk_at "w"
        rw [show decide ((("put" : Str)) = Str.ofString "put") = true by decide]
        exact hq
      · walk_at "w"
        refine w_lock ⟨sd, .dK kvs, hk, True.intro, fun od => ?_⟩
        walk_at "w"
        refine ⟨sd, od, rfl, .inl ⟨kvs, upd_same, ?_⟩⟩
        refine w_lcR (yl_keys upd_same) (fun _ => true) (PairR kvs) (fun _ _ _ _ s q => q.mono s) (by rw [List.length_map]; omega) (fun _ => rfl) (fun x hx H1 s1 q hq => hq H1 (Same.refl _)) (fun x hx _ H1 s1 q hq => ?_) fun p2 H1 ys hp2 s1 e2 ps => ?_
        · obtain ⟨kv, hkv, rfl⟩ := List.mem_map.mp hx
          have hv := valV_nodup nd kv hkv
          walk_at "w"
          refine ⟨sd, kv.2, rfl, .inl ⟨kvs, kv.1, .inr ⟨od, s1 _ _ upd_same⟩, rfl, hv.symm⟩, ?_⟩
          walk_at "w"
          refine ⟨by walk_at "sz", fun a ha => ?_⟩
          exact hq _ _ (same_new ha (Same.refl _)) ⟨a, kv.1, kv.2, rfl, rfl, hv, upd_same⟩
        · rw [List.filter_eq_self.mpr (fun _ _ => rfl)] at ps
          obtain ⟨as2, rfl, pp2⟩ := pairs_of (valV_nodup nd) ps
          walk_at "w"
          have ndd : dd ≠ sd := ne_of e hk (fun z => nomatch z)
          have s2 := Same.unlock hk s1
          have e1 : H1 dd = some (.lst [.str "put", .str t, .ref pa]) := s1 _ _ (at_mut ndd e)
          have hf : H1 sd = some (.frz od (.dK kvs)) := s1 _ _ upd_same
          refine w_ixLa e1 rfl ?_
          walk_at "w"
          refine w_ixLa e1 rfl ?_
          walk_at "w"
          refine ⟨by walk_at "sz", fun p3 hp3 => ?_⟩
          walk_at "w"
          refine ⟨by walk_at "sz", fun p4 hp4 => ?_⟩
          refine w_addL (at_new hp4 (at_new hp3 e2)) upd_same (by rw [sizeLine_eq, List.length_map, paired_len pp2]; show _ + 1 ≤ _; omega) fun p5 hp5 => ?_
          walk_at "w"
          have s3 := same_new (o := .lst (as2.map V.ref ++ [.ref p3])) hp5 (same_new (o := .lst [.ref p3]) hp4 (same_new (o := .tup [.str t, .ref pa]) hp3 (Same.refl _)))
          have e3 := at_new (o := .lst (as2.map V.ref ++ [.ref p3])) hp5 (at_new (o := .lst [.ref p3]) hp4 (upd_same (H := H1) (a := p3) (o := .tup [.str t, .ref pa])))
          refine ⟨p5, as2 ++ [p3], kvs ++ [((Sum.inr t, V.ref pa) : Key × V)], rfl, SqL.of (by rw [upd_same, List.map_append]; rfl), paired_app (k2 := [(Sum.inr t, V.ref pa)]) (Paired.imp (fun _ _ r => SqT.of (s3 _ _ r)) pp2) (.cons (show SqT K _ p3 [kV (Sum.inr t), V.ref pa] from SqT.of e3) .nil), fun p6 hp6 => ?_⟩
          rw [mergeK_put nd]
          have s4 := same_new (o := .dK (putK kvs (Sum.inr t) (.ref pa))) hp6 s3
          walk_at "w"
          refine ⟨s4 _ _ hf, ?_⟩
          have s5 := Same.unlock hk (s1.trans s4)
          have n6 : p6 ≠ sd := fun z => by
            have y := s3 _ _ hf
            rw [← z, hp6] at y; cases y
          have hs7 : LSh (upd (upd (upd (upd (upd H1 p3 (.tup [.str t, .ref pa])) p4 (.lst [.ref p3])) p5 (.lst (as2.map V.ref ++ [.ref p3]))) p6 (.dK (putK kvs (Sum.inr t) (.ref pa)))) sd (.dK kvs)) p6 (shPut P.sh t (d, ks)) := ⟨_, by rw [upd_ne n6, upd_same], Paired.imp (fun a b r => ⟨r.1, r.2.elim fun x y => ⟨x, y.1, y.2.same s5⟩⟩) (Ents.put pp en)⟩
          have hw7 := hw.same s5
          generalize upd (upd (upd (upd (upd H1 p3 (.tup [.str t, .ref pa])) p4 (.lst [.ref p3])) p5 (.lst (as2.map V.ref ++ [.ref p3]))) p6 (.dK (putK kvs (Sum.inr t) (.ref pa)))) sd (.dK kvs) = H7 at hs7 hw7 s5 ⊢
          have pk : PlanOk d ks := dk.ok.2
          walk_at "w"
          refine ⟨p6, wl, _, P.ws, rfl, hs7, hw7, lo.ok.ws.put, lo.ok.sh.put pk, by omega, fun be H8 s8 e8 => ?_⟩
          have e8' : H8 be = some (.lst ((badW (bad (shPut P.sh t (d, ks)) 0 P.ws)).map V.str)) := by rw [e8, badV_W]
          walk_at "w"
          refine w_ifE ?_
          walk_at "w"
          refine ⟨by walk_at "sz", fun z hz => ?_⟩
          refine w_eqLS (bs := []) (at_new hz e8') upd_same ?_
          have s9 := s5.trans (same_new (o := .lst []) hz s8)
          by_cases nb : badW (bad (shPut P.sh t (d, ks)) 0 P.ws) = []
          · rw [decide_eq_true nb]
            walk_at "w"
            refine ⟨by walk_at "sz", fun a2 ha2 => ?_⟩
            walk_at "w"
            refine ⟨by walk_at "sz", fun q2 hq2 => ?_⟩
            walk_at "w"
            have s10 := same_new (o := .tup [.ref be, .ref a2]) hq2 (same_new (o := .tup [.ref p6, .ref wl]) ha2 (Same.refl _))
            have s11 := (same_new (o := .lst []) hz s8).trans s10
            refine k q2 be a2 _ (s5.trans s11) upd_same (s10 _ _ (at_new hz e8)) (fun _ => ⟨p6, wl, at_new hq2 upd_same, hs7.sameL s11, hw7.same s11⟩) fun ne => absurd ?_ ne
            show badV _ = []
            rw [badV_W, nb]; rfl
          · rw [decide_eq_false nb]
            walk_at "w"
            refine ⟨by walk_at "sz", fun q2 hq2 => ?_⟩
            walk_at "w"
            have s10 := same_new (o := .tup [.ref be, .ref pg]) hq2 (Same.refl _)
            refine k q2 be pg _ (s9.trans s10) upd_same (s10 _ _ (at_new hz e8)) (fun y => absurd ?_ nb) fun _ => rfl
            have y' : badV (bad (shPut P.sh t (d, ks)) 0 P.ws) = [] := y
            rw [badV_W] at y'
            simpa using y'
    | claim c =>
      obtain ⟨ca, e, wa⟩ := da
      refine w_ifb false (fun q hq => ?_) (fun c => nomatch c) (fun _ => ?_)
      · walk_at "w"
        refine w_ixLa e rfl ?_
        walk_at "w"
        rw [show decide ((("claim" : Str)) = Str.ofString "put") = false by decide]
        exact hq
      · walk_at "w"
        refine w_ifb true (fun q hq => ?_) (fun _ => ?_) (fun c => nomatch c)
        · walk_at "w"
          refine w_ixLa e rfl ?_
          walk_at "w"
          rw [show decide ((("claim" : Str)) = Str.ofString "claim") = true by decide]
          exact hq
        · walk_at "w"
          refine w_ixLa e rfl ?_
          walk_at "w"
          refine ⟨by walk_at "sz", fun p3 hp3 => ?_⟩
          refine w_addL (at_new hp3 ew) upd_same (by rw [sizeLine_eq, List.length_map]; show _ + 1 ≤ _; omega) fun p4 hp4 => ?_
          walk_at "w"
          have s4 := same_new (o := .lst (as.map V.ref ++ [.ref ca])) hp4 (same_new (o := .lst [.ref ca]) hp3 (Same.refl _))
          have wok : WsOk P.sh (P.ws ++ [c]) := fun c' hc => by
            rcases List.mem_append.mp hc with hc | hc
            · exact lo.ok.ws c' hc
            · obtain rfl := List.mem_singleton.mp hc; exact ⟨dk.ok.1, dk.fit⟩
          have hw4 : WlAt (upd (upd H p3 (.lst [.ref ca])) p4 (.lst (as.map V.ref ++ [.ref ca]))) p4 (P.ws ++ [c]) := ⟨as ++ [ca], by rw [upd_same, List.map_append]; rfl, paired_app (Paired.imp (fun _ _ r => r.same s4) pw) (.cons (wa.same s4) .nil)⟩
          refine ⟨sd, p4, _, _, rfl, hs.sameL s4, hw4, wok, lo.ok.sh, by rw [List.length_append]; show _ + 1 ≤ _; omega, fun be H8 s8 e8 => ?_⟩
          have e8' : H8 be = some (.lst ((badW (bad P.sh 0 (P.ws ++ [c]))).map V.str)) := by rw [e8, badV_W]
          walk_at "w"
          refine w_ifE ?_
          walk_at "w"
          refine ⟨by walk_at "sz", fun z hz => ?_⟩
          refine w_eqLS (bs := []) (at_new hz e8') upd_same ?_
          have s9 := s4.trans (same_new (o := .lst []) hz s8)
          by_cases nb : badW (bad P.sh 0 (P.ws ++ [c])) = []
          · rw [decide_eq_true nb]
            walk_at "w"
            refine w_ixLa (s9 _ _ e) rfl ?_
            walk_at "w"
            refine ⟨by walk_at "sz", fun p5 hp5 => ?_⟩
            refine w_addL (at_new hp5 (s9 _ _ ew)) upd_same (by rw [sizeLine_eq, List.length_map]; show _ + 1 ≤ _; omega) fun p6 hp6 => ?_
            have s10 := same_new (o := .lst (as.map V.ref ++ [.ref ca])) hp6 (same_new (o := .lst [.ref ca]) hp5 s9)
            have e10 := at_new (o := .lst (as.map V.ref ++ [.ref ca])) hp6 (at_new (o := .lst [.ref ca]) hp5 (at_new hz e8))
            walk_at "w"
            refine ⟨by walk_at "sz", fun a2 ha2 => ?_⟩
            walk_at "w"
            refine ⟨by walk_at "sz", fun q2 hq2 => ?_⟩
            walk_at "w"
            have s11 := same_new (o := .tup [.ref be, .ref a2]) hq2 (same_new (o := .tup [.ref sd, .ref p6]) ha2 s10)
            refine k q2 be a2 _ s11 upd_same (at_new hq2 (at_new ha2 e10)) (fun _ => ⟨sd, p6, at_new hq2 upd_same, hs.sameL s11, as ++ [ca], ?_, paired_app (Paired.imp (fun _ _ r => r.same s11) pw) (.cons (wa.same s11) .nil)⟩) fun ne => absurd ?_ ne
            · refine (at_new hq2 (at_new ha2 upd_same)).trans ?_
              rw [List.map_append]; rfl
            · show badV _ = []
              rw [badV_W, nb]; rfl
          · rw [decide_eq_false nb]
            walk_at "w"
            refine ⟨by walk_at "sz", fun q2 hq2 => ?_⟩
            walk_at "w"
            have s10 := same_new (o := .tup [.ref be, .ref pg]) hq2 (Same.refl _)
            refine k q2 be pg _ (s9.trans s10) upd_same (s10 _ _ (at_new hz e8)) (fun y => absurd ?_ nb) fun _ => rfl
            have y' : badV (bad P.sh 0 (P.ws ++ [c])) = [] := y
            rw [badV_W] at y'
            simpa using y'
    | lift i =>
      have e : H dd = some (.lst [.str "lift", .int (i : Nat)]) := da
      have hi : i ≤ 1000 := dk.ok
      refine w_ifb false (fun q hq => ?_) (fun c => nomatch c) (fun _ => ?_)
      · walk_at "w"
        refine w_ixLa e rfl ?_
        walk_at "w"
        rw [show decide ((("lift" : Str)) = Str.ofString "put") = false by decide]
        exact hq
      walk_at "w"
      refine w_ifb false (fun q hq => ?_) (fun c => nomatch c) (fun _ => ?_)
      · walk_at "w"
        refine w_ixLa e rfl ?_
        walk_at "w"
        rw [show decide ((("lift" : Str)) = Str.ofString "claim") = false by decide]
        exact hq
      walk_at "w"
      refine w_ifb true (fun q hq => ?_) (fun _ => ?_) (fun c => nomatch c)
      · walk_at "w"
        refine w_ixLa e rfl ?_
        walk_at "w"
        rw [show decide ((("lift" : Str)) = Str.ofString "lift") = true by decide]
        exact hq
      walk_at "w"
      refine w_ifb (!decide (i < P.ws.length)) (fun q hq => ?_) (fun c => ?_) (fun c => ?_)
      · walk_at "w"
        refine w_ixLa e rfl ?_
        walk_at "w"
        rw [decide_eq_true (show (0 : Int) ≤ (i : Nat) by omega)]
        walk_at "w"
        refine w_lenL ew ?_
        walk_at "w"
        rw [List.length_map, la, show decide (((i : Nat) : Int) < (P.ws.length : Nat)) = decide (i < P.ws.length) by
          by_cases z : i < P.ws.length
          · rw [decide_eq_true z, decide_eq_true (by omega)]
          · rw [decide_eq_false z, decide_eq_false (by omega)]]
        exact hq
      · have c' : ¬ i < P.ws.length := by simpa using c
        walk_at "w"
        refine w_ixLa e rfl ?_
        walk_at "w"
        refine w_repr (.inl ⟨_, rfl, log_small (Nat.lt_of_lt_of_le (show ((i : Nat) : Int).natAbs < 1001 by omega) (by decide))⟩) ?_
        walk_at "w"
        refine ⟨by walk_at "sz", fun be hbe => ?_⟩
        walk_at "w"
        refine ⟨by walk_at "sz", fun q2 hq2 => ?_⟩
        walk_at "w"
        have ee : behErr P (.lift i) = [.str "InvalidIndex", .str (rpTx (.int (i : Nat)))] := if_neg c'
        refine k q2 be pg _ (same_new hq2 (same_new hbe (Same.refl _))) upd_same ?_ (fun y => ?_) fun _ => rfl
        · rw [ee]; exact at_new hq2 upd_same
        · rw [ee] at y; cases y
      · have c' : i < P.ws.length := by simpa using c
        walk_at "w"
        refine ⟨by walk_at "sz", fun be hbe => ?_⟩
        walk_at "w"
        refine w_ixLa (at_new hbe e) rfl ?_
        refine w_osL ?_
        refine w_slL (SqL.of (at_new hbe ew)) fun p1 hp1 => ?_
        walk_at "w"
        refine w_ixLa (at_new hp1 (at_new hbe e)) rfl ?_
        walk_at "w"
        refine w_osL ?_
        walk_at "w"
        refine w_slL (SqL.of (at_new hp1 (at_new hbe ew))) fun p2 hp2 => ?_
        have c1 : cutV (as.map V.ref) none (some (i : Nat)) = (as.take i).map V.ref := by
          unfold cutV
          rw [List.length_map, HT.sIx_none, HT.sIx_nat, List.drop_zero, Nat.sub_zero, show min i as.length = i by omega, List.map_take]
        have c2 : cutV (as.map V.ref) (some ((i : Nat) + 1)) none = (as.drop (i + 1)).map V.ref := by
          unfold cutV
          rw [List.length_map, HT.sIx_none, show ((i : Nat) : Int) + 1 = ((i + 1 : Nat) : Int) by omega, HT.sIx_nat, show min (i + 1) as.length = i + 1 by omega, List.map_drop, List.take_of_length_le (by rw [List.length_drop, List.length_map]; omega)]
        rw [c1] at hp2
        rw [c1, c2]
        refine w_addL (at_new hp2 upd_same) upd_same ?_ fun p3 hp3 => ?_
        · rw [List.length_map, List.length_map, List.length_take, List.length_drop, sizeLine_eq]; omega
        walk_at "w"
        refine ⟨by walk_at "sz", fun a2 ha2 => ?_⟩
        walk_at "w"
        refine ⟨by walk_at "sz", fun q2 hq2 => ?_⟩
        walk_at "w"
        have sA := same_new (o := .lst ((as.take i).map V.ref ++ (as.drop (i + 1)).map V.ref)) hp3 (same_new (o := .lst ((as.drop (i + 1)).map V.ref)) hp2 (same_new (o := .lst ((as.take i).map V.ref)) hp1 (Same.refl _)))
        have sB := same_new (o := .tup [.ref be, .ref a2]) hq2 (same_new (o := .tup [.ref sd, .ref p3]) ha2 sA)
        have sC : Same H _ := (same_new (o := .lst []) hbe (Same.refl _)).trans sB
        have ee : behErr P (.lift i) = [] := if_pos c'
        refine k q2 be a2 _ sC upd_same ?_ (fun _ => ⟨sd, p3, at_new hq2 upd_same, hs.sameL sC, as.take i ++ as.drop (i + 1), ?_, Paired.imp (fun _ _ r => r.same sC) (paired_app (paired_take i pw) (paired_drop (i + 1) pw))⟩) fun ne => absurd ee ne
        · rw [ee]; exact sB _ _ upd_same
        · refine (at_new hq2 (at_new ha2 upd_same)).trans ?_
          rw [List.map_append]
    | drop t =>
      have e : H dd = some (.lst [.str "drop", .str t]) := da
      have ht : t ∈ names3 := dk.ok
      refine w_ifb false (fun q hq => ?_) (fun c => nomatch c) (fun _ => ?_)
      · walk_at "w"
        refine w_ixLa e rfl ?_
        walk_at "w"
        rw [show decide ((("drop" : Str)) = Str.ofString "put") = false by decide]
        exact hq
      walk_at "w"
      refine w_ifb false (fun q hq => ?_) (fun c => nomatch c) (fun _ => ?_)
      · walk_at "w"
        refine w_ixLa e rfl ?_
        walk_at "w"
        rw [show decide ((("drop" : Str)) = Str.ofString "claim") = false by decide]
        exact hq
      walk_at "w"
      refine w_ifb false (fun q hq => ?_) (fun c => nomatch c) (fun _ => ?_)
      · walk_at "w"
        refine w_ixLa e rfl ?_
        walk_at "w"
        rw [show decide ((("drop" : Str)) = Str.ofString "lift") = false by decide]
        exact hq
      walk_at "w"
      obtain ⟨o, dg, eo⟩ := hs.look (t := t)
      refine w_ifb (!(shV P.sh t).isSome) (fun q hq => ?_) (fun c => ?_) (fun c => ?_)
      · walk_at "w"
        refine w_ixLa e rfl ?_
        walk_at "w"
        refine ⟨sd, o, rfl, dg, ?_⟩
        rw [eo]
        exact ⟨_, rfl, hq⟩
      · have c' : ¬ (shV P.sh t).isSome = true := by simpa using c
        walk_at "w"
        refine w_ixLa e rfl ?_
        walk_at "w"
        refine w_reprS (rp_name ht) ?_
        walk_at "w"
        refine ⟨by walk_at "sz", fun be hbe => ?_⟩
        walk_at "w"
        refine ⟨by walk_at "sz", fun q2 hq2 => ?_⟩
        walk_at "w"
        have ee : behErr P (.drop t) = [.str "UnknownName", .str (rpTx (.str t))] := if_neg c'
        refine k q2 be pg _ (same_new hq2 (same_new hbe (Same.refl _))) upd_same ?_ (fun y => ?_) fun _ => rfl
        · rw [ee]; exact at_new hq2 upd_same
        · rw [ee] at y; cases y
      · have c' : (shV P.sh t).isSome = true := by simpa using c
        walk_at "w"
        refine w_lenL ew ?_
        walk_at "w"
        rw [List.length_map, la]
        refine w_srcR (by omega) (by omega) ?_
        rw [show ((P.ws.length : Nat) : Int).toNat = P.ws.length by omega]
        refine w_lcP (yl_range P.ws.length) (fun x => match x with | .int i => (match P.ws[i.toNat]? with | some c => decide (t ∈ c.titles) | none => false) | _ => false) id (by rw [List.length_map, List.length_range]; omega) (fun _ => rfl) (fun x hx H1 s1 q hq => ?_) (fun x hx _ H1 s1 q hq => ?_) fun p2 H1 hp2 s1 e2 => ?_
        · obtain ⟨i, hi, rfl⟩ := List.mem_map.mp hx
          have hiw := List.mem_range.mp hi
          obtain ⟨y, hy, ry⟩ := Paired.at_ pw (List.getElem?_eq_getElem hiw)
          obtain ⟨hd, r, _, ey, _⟩ := WishAt.tail (K := K) (ry.same s1)
          walk_at "w"
          refine w_ixLa (s1 _ _ e) rfl ?_
          walk_at "w"
          have hat : atI (as.map V.ref) ((i : Nat) : Int) = some (.ref y) := atI_nat (by rw [List.getElem?_map, hy]; rfl)
          refine w_ixLa (s1 _ _ ew) hat ?_
          walk_at "w"
          refine w_osL ?_
          walk_at "w"
          refine w_slT ey fun p5 H5 s5 e5 => ?_
          have c1 : cutV (hd :: r) (some 1) none = r := by
            unfold cutV
            rw [HT.sIx_none, show (1 : Int) = ((1 : Nat) : Int) by rfl, HT.sIx_nat, List.length_cons, show min 1 (r.length + 1) = 1 by omega, List.drop_succ_cons, List.drop_zero, List.take_of_length_le (by omega)]
          rw [c1] at e5
          obtain ⟨hd', r', ds, ey', dr5, pl, dp, an⟩ := WishAt.tail (K := K) (ry.same (s1.trans s5))
          have er := (s5 _ _ ey).symm.trans ey'
          injection er with er
          injection er with er
          injection er with _ er
          subst er
          refine ⟨.str t, ds, .str t, .tup (SqT.of e5) dr5, pl, rfl, Nat.le_trans (Nat.min_le_right _ _) (show (PyData.str t).depth ≤ 60 from Nat.zero_le _), _, rfl, ?_⟩
          rw [an t]
          have := hq H5 s5
          simp only [List.getElem?_eq_getElem hiw, Int.toNat_natCast] at this
          exact this
        · walk_at "w"
          exact hq _ (Same.refl _)
        · rw [List.map_id, List.filter_map] at e2
          have e2' : H1 p2 = some (.lst ((usesL t P.ws).map fun i => V.int (i : Nat))) := by
            rw [e2]
            refine congrArg (fun z => some (HO.lst (List.map _ z))) (List.filter_congr fun i _ => ?_)
            simp only [Function.comp, Int.toNat_natCast]
            try (cases P.ws[i]? <;> rfl)
          have e3 : H1 p2 = some (.lst (((usesL t P.ws).map fun i => ((i : Nat) : Int)).map V.int)) := by rw [e2', List.map_map]; rfl
          have uf := uses_first (t := t) P.ws 0
          have ul : ∀ i ∈ usesL t P.ws, i < 100 := fun i hi => by
            have := List.mem_range.mp (List.mem_filter.mp hi).1
            omega
          walk_at "w"
          refine w_ifg (!decide ((usesL t P.ws) = [])) (fun q hq => ?_) (fun c H2 s2 => ?_) fun c H2 s2 => ?_
          · walk_at "w"
            refine ⟨by walk_at "sz", fun z hz => ?_⟩
            refine w_neD (.lst (SqL.of (at_new hz e3)) (dp_ints _)) (dp_nilL upd_same) (pl_ints _) rfl (Nat.le_trans (Nat.min_le_right _ _) (by decide)) ?_
            have ev := ev_ints ((usesL t P.ws).map fun i => ((i : Nat) : Int)) []
            rw [List.map_nil] at ev
            refine ⟨_, rfl, ?_⟩
            simp only [PyData.eqv, ev]
            have := hq _ (same_new (o := .lst []) hz (Same.refl _))
            rw [show decide (List.map (fun i => ((i : Nat) : Int)) (usesL t P.ws) = []) = decide (usesL t P.ws = []) by rw [decide_eq_decide]; exact List.map_eq_nil_iff]
            exact this
          · have ne : usesL t P.ws ≠ [] := by simpa using c
            obtain ⟨i0, rest, eu⟩ := List.exists_cons_of_ne_nil ne
            have i0l := ul i0 (by rw [eu]; exact List.mem_cons_self ..)
            rw [eu] at uf e2'
            walk_at "w"
            refine w_ixLa (s2 _ _ e2') atI_0 ?_
            walk_at "w"
            refine w_repr (.inl ⟨_, rfl, log_small (Nat.lt_of_lt_of_le (show ((i0 : Nat) : Int).natAbs < 101 by omega) (by decide))⟩) ?_
            walk_at "w"
            refine ⟨by walk_at "sz", fun be hbe => ?_⟩
            walk_at "w"
            refine ⟨by walk_at "sz", fun q2 hq2 => ?_⟩
            walk_at "w"
            have ee : behErr P (.drop t) = [.str "InUse", .str (rpTx (.int (i0 : Nat)))] := by
              show (if _ then _ else _) = _
              rw [if_pos c', uf]; rfl
            refine k q2 be pg _ (same_new hq2 (same_new hbe (s1.trans s2))) upd_same ?_ (fun y => ?_) fun _ => rfl
            · rw [ee]; exact at_new hq2 upd_same
            · rw [ee] at y; cases y
          · have ne : usesL t P.ws = [] := by simpa using c
            rw [ne] at uf
            have ee : behErr P (.drop t) = [] := by
              show (if _ then _ else _) = _
              rw [if_pos c', uf]; rfl
            have s12 := s1.trans s2
            have hk2 := s12 _ _ hk
            have e12 := s12 _ _ e
            have ndd : dd ≠ sd := ne_of e hk (fun z => nomatch z)
            walk_at "w"
            refine w_lock ⟨sd, .dK kvs, hk2, True.intro, fun od => ?_⟩
            walk_at "w"
            refine ⟨by walk_at "sz", fun be hbe => ?_⟩
            have nbe : be ≠ sd := fun z => by rw [z, upd_same] at hbe; cases hbe
            have f3 : upd (upd H2 sd (.frz od (.dK kvs))) be (.lst []) sd = some (.frz od (.dK kvs)) := at_new hbe upd_same
            have e13 : upd (upd H2 sd (.frz od (.dK kvs))) be (.lst []) dd = some (.lst [.str "drop", .str t]) := at_new hbe (at_mut ndd e12)
            have b3 : upd (upd H2 sd (.frz od (.dK kvs))) be (.lst []) be = some (.lst []) := upd_same
            have s3 : Same (upd H2 sd (.frz od (.dK kvs))) (upd (upd H2 sd (.frz od (.dK kvs))) be (.lst [])) := same_new hbe (Same.refl _)
            generalize upd (upd H2 sd (.frz od (.dK kvs))) be (.lst []) = H3 at f3 e13 b3 s3 ⊢
            walk_at "w"
            refine ⟨sd, od, rfl, .inl ⟨kvs, f3, ?_⟩⟩
            refine w_lcR (yl_keys f3) (fun x => decide (x ≠ .str t)) (PairR kvs) (fun _ _ _ _ s q => q.mono s) (by rw [List.length_map]; omega) (fun _ => rfl) (fun x hx H4 s4 q hq => ?_) (fun x hx _ H4 s4 q hq => ?_) fun p3 H4 ys hp3 s4 e4 ps => ?_
            · obtain ⟨kv, hkv, rfl⟩ := List.mem_map.mp hx
              have hm : kv.1 ∈ (P.sh.map (·.1)).map Sum.inr := by rw [← hkeys]; exact List.mem_map.mpr ⟨kv, hkv, rfl⟩
              obtain ⟨z, _, ez⟩ := List.mem_map.mp hm
              obtain ⟨k0, v0⟩ := kv
              dsimp only at ez hq
              subst ez
              walk_at "w"
              refine w_ixLa (s4 _ _ e13) rfl ?_
              have : decide (kV (Sum.inr z) ≠ V.str t) = !decide (z = t) := by
                by_cases h : z = t
                · subst h; simp [kV]
                · simp [kV, h]
              rw [this] at hq
              show rNeU K (.str z) (.str t) H4 _
              exact w_neS ⟨_, rfl, hq H4 (Same.refl _)⟩
            · obtain ⟨kv, hkv, rfl⟩ := List.mem_map.mp hx
              have hv := valV_nodup nd kv hkv
              walk_at "w"
              refine ⟨sd, kv.2, rfl, .inl ⟨kvs, kv.1, .inr ⟨od, s4 _ _ f3⟩, rfl, hv.symm⟩, ?_⟩
              walk_at "w"
              refine ⟨by walk_at "sz", fun a ha => ?_⟩
              exact hq _ _ (same_new ha (Same.refl _)) ⟨a, kv.1, kv.2, rfl, rfl, hv, upd_same⟩
            · have ef : (kvs.map fun kv => kV kv.1).filter (fun x => decide (x ≠ .str t)) = (kvs.filter fun kv => decide (kV kv.1 ≠ .str t)).map fun kv => kV kv.1 := by rw [List.filter_map]; rfl
              rw [ef] at ps
              obtain ⟨as2, rfl, pp2⟩ := pairs_of (fun kv hkv => valV_nodup nd kv (List.mem_filter.mp hkv).1) ps
              walk_at "w"
              refine ⟨p3, as2, kvs.filter fun kv => decide (kV kv.1 ≠ .str t), rfl, SqL.of e4, Paired.imp (fun _ _ r => SqT.of r) pp2, fun p6 hp6 => ?_⟩
              rw [mergeK_app _ [] (by rw [List.nil_append]; exact nd.sublist (List.Sublist.map _ List.filter_sublist)), List.nil_append]
              walk_at "w"
              refine ⟨by walk_at "sz", fun a2 ha2 => ?_⟩
              walk_at "w"
              refine ⟨by walk_at "sz", fun q2 hq2 => ?_⟩
              walk_at "w"
              have s5 := same_new (o := .tup [.ref be, .ref a2]) hq2 (same_new (o := .tup [.ref p6, .ref wl]) ha2 (same_new (o := .dK (kvs.filter fun kv => decide (kV kv.1 ≠ .str t))) hp6 (Same.refl _)))
              have f4 := s4 _ _ f3
              refine ⟨s5 _ _ f4, ?_⟩
              have s6 := Same.unlock hk2 (s3.trans (s4.trans s5))
              have s7 := s12.trans s6
              have n6 : p6 ≠ sd := fun z => by rw [z, f4] at hp6; cases hp6
              have n2 : a2 ≠ sd := fun z => by rw [z, at_new hp6 f4] at ha2; cases ha2
              have n3 : q2 ≠ sd := fun z => by rw [z, at_new ha2 (at_new hp6 f4)] at hq2; cases hq2
              refine k q2 be a2 _ s7 (at_mut n3 upd_same) ?_ (fun _ => ⟨p6, wl, at_mut n2 (at_new hq2 upd_same), ⟨_, at_mut n6 (at_new hq2 (at_new ha2 upd_same)), Paired.imp (fun a b r => ⟨r.1, r.2.elim fun x y => ⟨x, y.1, y.2.same s7⟩⟩) (Ents.drop en)⟩, hw.same s7⟩) fun ne => absurd ee ne
              rw [ee]
              exact at_mut nbe (s5 _ _ (s4 _ _ b3))
    | undo => exact absurd da id
    | names => exact absurd da id
    | claims => exact absurd da id
    | shw t => exact absurd da id
end
end Bt

set_option Elab.async false
set_option linter.all false
set_option maxRecDepth 100000
set_option maxHeartbeats 4000000
/-! defs that are called with no repr under way; repr of data -/
namespace Bt
open PySem PySem.Spec PyProof.Rows L2
/-- what a def promises where no repr is under way -/
structure FnG (P : Program) (w : World) (K : Frag) (mg : Str → Option Value) (base : Heap) (k : Nat) (f : Addr) (fd : FuncData) (ps : List Str) (sp : Sp) : Prop where
  len : ∀ vs H Q E, sp vs H Q E → vs.length = ps.length
  run : ∀ (A : Around) (outer : List Env) (s : Shared) (H : Hp) (args : Args) (us : List Value) (vs : List V) (Q : VK) (E : XK), A.guards = some [] → Room k A → Env0 P w K mg base A outer s H → BindsTo s fd args (ps.zip us) → Vals vs us → sp vs H Q E →
    codeAny (model P w) A (.call (.ref f) args) (CR (L2N.CX P w) outer P w H s Q E) s
/-- such a def of the top -/
def OwnG (P : Program) (w : World) (K : Frag) (mg : Str → Option Value) (base : Heap) (x : Str) (k : Nat) (ps : List Str) (sp : Sp) : Prop :=
  ∃ (f : Addr) (fd : FuncData), FnG P w K mg base k f fd ps sp ∧ mg x = some (.ref f) ∧ PySem.W.keepIn K (.ref f) = true ∧ Binds K fd ps []
def BodyG (P : Program) (w : World) (K : Frag) (mg : Str → Option Value) (base : Heap) (N : List Str) (qual : Str) (st : Stmt) (k : Nat) (sp : Sp) (Cd : Value → Prop) : Prop :=
  ∀ (f : Addr) (cdv : Value) (A : Around) (outer : List Env) (s : Shared) (H : Hp) (vs : List V) (Q : VK) (E : XK), Cd cdv → A.guards = some [] → Room k (A.deeper (PyProof.Rows.envOfC qual (defScope st) s.heap.objs.size f cdv)) → sp vs H Q E →
    ∃ t, PSs (cxOf (L2N.CX P w) P w K mg base N qual (defScope st) f cdv A outer s H E) (defBody st) t ∧ t { nx := fun _ H' => Q .non H', rt := Q } (L2.start N vs) H
/-- a def of the top whose code object is told -/
def FnAtC (K : Frag) (mg : Str → Option Value) (x : Str) (st : Stmt) (Cd : Value → Prop) : Prop := ∃ (f : Addr) (fd : FuncData), FunD K x x (defArgs st) (defBody st) (defScope st) [] [] f fd ∧ mg x = some (.ref f) ∧ Cd fd.code
theorem FnAt.c {K : Frag} {mg : Str → Option Value} {x : Str} {st : Stmt} (F : FnAt K mg x st) : FnAtC K mg x st fun _ => True := by
  obtain ⟨f, fd, F, hm⟩ := F
  exact ⟨f, fd, F, hm, trivial⟩
section
variable {P : Program} {w : World} {K : Frag} {mg : Str → Option Value} {base : Heap} {x : Str} {st : Stmt} {N ps : List Str} {k : Nat} {sp : Sp} {Cd : Value → Prop}
theorem own_ofG (F : FnAtC K mg x st Cd) (S : FnScope N ps (defScope st)) (b : BindP x x st ps) (len : ∀ vs H Q E, sp vs H Q E → vs.length = ps.length) (body : BodyG P w K mg base N x st k sp Cd) : OwnG P w K mg base x (k + 1) ps sp := by
  obtain ⟨f, fd, F, hm, hc⟩ := F
  refine ⟨f, fd, ⟨len, ?_⟩, hm, F.kp, F.bindsN b⟩
  obtain ⟨oc, od, dV, kV, doc, pm, an, cdv, ct, osl, rfl, lk, hcd, _, _⟩ := F.ex
  intro A outer s H args us vs Q E hg hr e0 hb r hsp
  exact LamX.run_ofS lk hcd S hr e0 hb r (len _ _ _ _ hsp) fun hr' => body f cdv A outer s H vs Q E hc hg hr' hsp
end
section
variable {X : Cx} {k j : Nat} {x : Str} {ps : List Str} {sp : Sp} {E : XK} {e : Expr} {es : List Expr} {t : TA} {p pos : Pos}
theorem pe_ownG (hgu : X.A.guards = some []) (O : OwnG X.prog X.w X.K X.mg X.base x j ps sp) (hr : Room k X.A) (hx : Passes (L2N.CX X.prog X.w) X E) (ha : PA X (e :: es) t) (hj : j ≤ k := by decide) (hg : Gl X x := by rfl)
    (hdb : (x == ("__debug__" : Str)) = false := by decide) (he : starEach (e :: es) X.env = (false, eval e X.env) :: starEach es X.env := by rfl) (hpl : (backTo pos (starEach es X.env)).any (·.1) = false := by rfl) :
    PE X (.Call (.Name x p) (e :: es) [] pos) (tCall sp [] E t) := by
  obtain ⟨f, fd, F, hm, hk, hb⟩ := O
  refine ⟨fun pins s σ H Q I h => ?_⟩
  refine wpAny_Call_Name_kw (ld_glob I hg hm ?_ hdb)
  refine PySem.W.callWith_K (h₀ := X.base) I.ok.mod.kin hk (thn (ha.run pos pins s σ H _ I h) fun us s1 ⟨vs, H1, I1, r, q⟩ => ⟨I1.kIn, ?_⟩) he hpl
  have r2 : Vals (vs ++ []) us := by rw [List.append_nil]; exact r
  have hl : us.length = ps.length := by rw [← r2.length]; exact F.len _ _ _ _ q
  have b := hb s1 us I1.kIn (by rw [List.append_nil]; exact hl)
  rw [List.append_nil] at b
  refine wpAny_call (codeAny_mono (F.run X.A X.stack s1 H1 ⟨us, []⟩ us (vs ++ []) Q E hgu (hr.mono hj) I1.env0 b r2 q) fun r s' hq => ?_)
  cases r with
  | error e => exact hx pins σ H1 s1 e s' I1 hq
  | ok fl =>
    cases fl with
    | ret u => exact I1.after hq
    | next => exact False.elim hq
    | brk => exact False.elim hq
    | cont => exact False.elim hq
def rReprD (K : Frag) : List V → Hp → VK → Prop := fun xs H Q => ∃ a d, xs = [.ref a] ∧ Dp K H (.ref a) d ∧ d.showable = true ∧ d.hasDict = false ∧ d.depth ≤ 60 ∧ d.shown.length ≤ sizeLine ∧ Q (.str d.shown) H
theorem call_reprD (hgu : X.A.guards = some []) (hu : X.A.units + 65 < cLine) : CallR X (.builtin "repr") (rReprD X.K) := by
  intro pins s σ H xs us Q I r h
  obtain ⟨a, d, rfl, hd, h1, h2, h3, h4, q⟩ := h
  obtain ⟨u, rfl, rx⟩ := vals1 r
  obtain ⟨as, r1⟩ := Dp.reads I d _ u hd rx
  cases rx
  exact repr_of_reads' r1 h1 (PyData.noDict_hsm h2) hgu (by omega) (fun _ _ e => e) (fun h' u tk kp => ⟨.str _, H, I.kept kp, ⟨_, rfl⟩, q⟩) h4
end
end Bt

set_option Elab.async false
set_option linter.all false
set_option maxRecDepth 100000
set_option maxHeartbeats 4000000
/-! data shown; names sorted; a desk beside a dict that is walked -/
namespace Bt
open PySem L2
/-- can be shown, in so many signs at most -/
structure Shw (n : Nat) (d : PyData) : Prop where
  sh : d.showable = true
  nd : d.hasDict = false
  ln : d.shown.length ≤ n
theorem Shw.mono {n m : Nat} {d : PyData} (h : Shw n d) (l : n ≤ m) : Shw m d := ⟨h.sh, h.nd, Nat.le_trans h.ln l⟩
theorem shw_int {i : Int} (h0 : 0 ≤ i) (h1 : i < 10 ^ 21) : Shw 21 (.int i) := ⟨by
  simp only [PyData.showable]
  exact decide_eq_true (num_small h0 h1).1, by simp only [PyData.hasDict], by
  simp only [PyData.shown]
  exact (num_small h0 h1).2⟩
theorem shw_str {z : Str} {n : Nat} (h : (reprText z).length ≤ n) : Shw n (.str z) := ⟨by simp only [PyData.showable], by simp only [PyData.hasDict], by simp only [PyData.shown]; exact h⟩
theorem textFrom_le {b : Nat} : ∀ (ts : List Str) (k : Nat) (acc : Str), (∀ t ∈ ts, t.length ≤ b) → (textFrom k acc ts).length ≤ acc.length + ts.length * (b + 2)
  | [], k, acc, _ => by show acc.length ≤ _; omega
  | t :: r, k, acc, h => by
    have ih := textFrom_le r (k + 1) (acc ++ (if k > 0 then ", " else "" : String) ++ t) fun x hx => h x (List.mem_cons_of_mem _ hx)
    have ht := h t (List.mem_cons_self ..)
    have hl : (acc ++ (if k > 0 then ", " else "" : String) ++ t : Str).length ≤ acc.length + 2 + t.length := by
      rw [Str.length_append, Str.length_append]
      have : (Str.ofString (if k > 0 then ", " else "" : String)).length ≤ 2 := by split <;> decide
      show acc.length + (Str.ofString (if k > 0 then ", " else "" : String)).length + t.length ≤ _
      omega
    rw [List.length_cons, Nat.succ_mul]
    exact Nat.le_trans ih (by omega)
theorem sh_all {n : Nat} : ∀ {ds : List PyData}, (∀ d ∈ ds, Shw n d) → PyData.showableAll ds = true ∧ PyData.hasDictAll ds = false ∧ (∀ t ∈ PyData.shownAll ds, t.length ≤ n) ∧ (PyData.shownAll ds).length = ds.length
  | [], _ => ⟨rfl, rfl, by simp [PyData.shownAll], rfl⟩
  | d :: r, h => by
    obtain ⟨h1, h2, h3, h4⟩ := sh_all fun x hx => h x (List.mem_cons_of_mem _ hx)
    have hd := h d (List.mem_cons_self ..)
    refine ⟨by simp only [PyData.showableAll, hd.sh, h1, Bool.and_self], by simp only [PyData.hasDictAll, hd.nd, h2, Bool.or_self], fun t ht => ?_, by simp only [PyData.shownAll, List.length_cons, h4]⟩
    simp only [PyData.shownAll, List.mem_cons] at ht
    rcases ht with rfl | ht
    · exact hd.ln
    · exact h3 t ht
theorem shw_lst {n : Nat} {ds : List PyData} (h : ∀ d ∈ ds, Shw n d) : Shw (ds.length * (n + 2) + 4) (.list ds) := by
  obtain ⟨h1, h2, h3, h4⟩ := sh_all h
  refine ⟨by simp only [PyData.showable, h1], by simp only [PyData.hasDict, h2], ?_⟩
  simp only [PyData.shown, listText]
  have := textFrom_le (PyData.shownAll ds) 0 "[" h3
  rw [Str.length_append]
  have e1 : (Str.ofString "[").length = 1 := by decide
  have e2 : (Str.ofString "]").length = 1 := by decide
  rw [h4] at this
  omega
theorem shw_tup {n : Nat} {ds : List PyData} (h : ∀ d ∈ ds, Shw n d) : Shw (ds.length * (n + 2) + 4) (.tuple ds) := by
  obtain ⟨h1, h2, h3, h4⟩ := sh_all h
  refine ⟨by simp only [PyData.showable, h1], by simp only [PyData.hasDict, h2], ?_⟩
  simp only [PyData.shown, tupleText]
  have j := sjoin_len (Str.ofString ", ") (PyData.shownAll ds)
  have e0 : (Str.ofString ", ").length = 2 := by decide
  have l2 : ∀ l : List Str, (∀ y ∈ l, y.length ≤ n) → (l.map (·.length)).sum ≤ l.length * n := fun l => by
    induction l with
    | nil => intro _; simp
    | cons a r ih =>
      intro h
      have h1 := ih fun y hy => h y (List.mem_cons_of_mem _ hy)
      have h2 := h a (List.mem_cons_self ..)
      rw [List.map_cons, List.sum_cons, List.length_cons, Nat.succ_mul]; omega
  have s := l2 _ h3
  rw [h4] at j s
  rw [e0] at j
  rw [Nat.mul_add]
  have e3 : (Str.ofString (if ((PyData.shownAll ds).length == 1) = true then ",)" else ")" : String)).length ≤ 2 := by split <;> decide
  rw [Str.length_append, Str.length_append]
  show (Str.ofString "(").length + (Str.join (Str.ofString ", ") (PyData.shownAll ds)).length + (Str.ofString (if ((PyData.shownAll ds).length == 1) = true then ",)" else ")" : String)).length ≤ _
  have e1 : (Str.ofString "(").length = 1 := by decide
  omega
/-- a claim as data -/
def wdat (c : Wish) : PyData := .tuple c.dat
theorem dp_wish {K : Frag} {H : Hp} {p : Addr} {c : Wish} (h : WishAt H p c) : Dp K H (.ref p) (wdat c) := by
  obtain ⟨rest, e, _, d⟩ := h.tup (K := K)
  exact .tup (SqT.of e) d
theorem dp_wishes {K : Frag} {H : Hp} : ∀ {as : List Addr} {ws : List Wish}, Paired (WishAt H) as ws → DpAll K H (as.map V.ref) (ws.map wdat)
  | _, _, .nil => .nil
  | _, _, .cons r t => .cons (dp_wish r) (dp_wishes t)
theorem rp_name10 {t : Str} (h : t ∈ names3) : (PySem.reprText t).length ≤ 10 := by
  simp only [names3, List.mem_cons, List.not_mem_nil, or_false] at h
  rcases h with rfl | rfl | rfl <;> decide +kernel
theorem shw_pl {xs : List Int} (h : PlOk xs) : Shw 280 (.tuple (xs.map PyData.int)) := by
  refine (shw_tup (n := 21) fun d hd => ?_).mono ?_
  · obtain ⟨x, hx, rfl⟩ := List.mem_map.mp hd
    have := h.rng x hx
    exact shw_int this.1 (by omega)
  · rw [List.length_map]
    have := h.l12
    have := Nat.mul_le_mul_right (21 + 2) this
    omega
theorem shw_wish {c : Wish} (wo : WishOk c) (nm : ∀ t ∈ c.titles, t ∈ names3) : Shw 1132 (wdat c) := by
  have tt : ∀ t ∈ c.titles, Shw 280 (.str t) := fun t ht => shw_str (Nat.le_trans (rp_name10 (nm t ht)) (by decide))
  cases c with
  | wi a b =>
    refine (shw_tup (n := 280) (ds := [.str "within", .str a, .str b]) fun d hd => ?_).mono (Nat.le_of_ble_eq_true rfl)
    simp only [List.mem_cons, List.not_mem_nil, or_false] at hd
    rcases hd with rfl | rfl | rfl
    · exact shw_str (by decide +kernel)
    · exact tt _ (by simp [Wish.titles])
    · exact tt _ (by simp [Wish.titles])
  | rank t xs n =>
    refine (shw_tup (n := 280) (ds := [.str "rank", .str t, .tuple (xs.map PyData.int), .int n]) fun d hd => ?_).mono (Nat.le_of_ble_eq_true rfl)
    simp only [List.mem_cons, List.not_mem_nil, or_false] at hd
    rcases hd with rfl | rfl | rfl | rfl
    · exact shw_str (by decide +kernel)
    · exact tt _ (by simp [Wish.titles])
    · exact shw_pl wo.1
    · exact (shw_int wo.2.1 (by have := wo.2.2; omega)).mono (by decide)
  | al one t xs =>
    refine (shw_tup (n := 280) (ds := [.str (if one = true then "one" else "all"), .str t, .tuple (xs.map PyData.int)]) fun d hd => ?_).mono (Nat.le_of_ble_eq_true rfl)
    simp only [List.mem_cons, List.not_mem_nil, or_false] at hd
    rcases hd with rfl | rfl | rfl
    · cases one <;> exact shw_str (by decide +kernel)
    · exact tt _ (by simp [Wish.titles])
    · exact shw_pl wo
theorem dep_wishes : ∀ ws : List Wish, PyData.depthAll (ws.map wdat) ≤ 2
  | [] => by simp [PyData.depthAll]
  | c :: r => by
    have ih := dep_wishes r
    have h : (wdat c).depth ≤ 2 := by
      have := Wish.depth c
      simp only [wdat, PyData.depth]; omega
    simp only [List.map_cons, PyData.depthAll]
    omega
/-- what repr shows of a desk -/
def deskD (ys : List Str) (ws : List Wish) (n : Nat) : PyData := .list [.tuple (ys.map PyData.str), .tuple (ws.map wdat), .int (n : Nat)]
theorem shw_desk {ys : List Str} {ws : List Wish} {n : Nat} (hy : ∀ y ∈ ys, y ∈ names3) (ly : ys.length ≤ 20) (hw : ∀ c ∈ ws, WishOk c ∧ ∀ t ∈ c.titles, t ∈ names3) (lw : ws.length ≤ 20) (hn : n ≤ 1000) : Shw 100000 (deskD ys ws n) := by
  refine (shw_lst (n := 22684) fun d hd => ?_).mono (Nat.le_of_ble_eq_true rfl)
  simp only [List.mem_cons, List.not_mem_nil, or_false] at hd
  rcases hd with rfl | rfl | rfl
  · refine (shw_tup (n := 10) fun d hd => ?_).mono ?_
    · obtain ⟨y, h, rfl⟩ := List.mem_map.mp hd
      exact shw_str (rp_name10 (hy y h))
    · rw [List.length_map]
      have := Nat.mul_le_mul_right (10 + 2) ly
      omega
  · refine (shw_tup (n := 1132) fun d hd => ?_).mono ?_
    · obtain ⟨c, h, rfl⟩ := List.mem_map.mp hd
      exact shw_wish (hw c h).1 (hw c h).2
    · rw [List.length_map]
      have := Nat.mul_le_mul_right (1132 + 2) lw
      omega
  · exact (shw_int (by omega) (by omega)).mono (by decide)
theorem dep_desk (ys : List Str) (ws : List Wish) (n : Nat) : (deskD ys ws n).depth ≤ 60 := by
  have h1 := dep_strs ys
  have h2 := dep_wishes ws
  simp only [deskD, PyData.depth, PyData.depthAll, h1]
  omega
/-! ### two ascending rows of the same names -/
theorem rising_pw : ∀ (p : Str) (l : List Str), PyProof.Rows.risingS p l = true → (p :: l).Pairwise fun a b => a.cps.toList ≤ b.cps.toList
  | p, [], _ => List.pairwise_singleton _ _
  | p, x :: r, h => by
    have h' : (!PySem.Spec.ltCps x.cps.toList p.cps.toList && PyProof.Rows.risingS x r) = true := h
    rw [Bool.and_eq_true] at h'
    have ih := rising_pw x r h'.2
    have hx : p.cps.toList ≤ x.cps.toList := by
      have := h'.1
      rw [PyProof.Rows.ltCps_eq] at this
      simpa using this
    refine List.pairwise_cons.mpr ⟨fun y hy => ?_, ih⟩
    rcases List.mem_cons.mp hy with rfl | hy
    · exact hx
    · exact List.le_trans hx ((List.pairwise_cons.mp ih).1 y hy)
theorem sorted_pw : ∀ (l : List Str), PyProof.Rows.sortedS l = true → l.Pairwise fun a b => a.cps.toList ≤ b.cps.toList
  | [], _ => .nil
  | x :: r, h => rising_pw x r h
theorem sorted_same {l k : List Str} (p : l.Perm k) (hl : PyProof.Rows.sortedS l = true) (hk : PyProof.Rows.sortedS k = true) : l = k :=
  List.Perm.eq_of_pairwise (fun a b _ _ h1 h2 => by
    have := List.le_antisymm h1 h2
    cases a; cases b
    congr 1
    exact Array.toList_inj.mp this) (sorted_pw l hl) (sorted_pw k hk) p
/-! ### a dict walked, the rest as it was -/
/-- all but dicts stay -/
def NoD (H H' : Hp) : Prop := ∀ b o, (∀ l, o ≠ .dK l) → H b = some o → H' b = some o
section
variable {K : Frag} {H H' : Hp}
theorem TN.nd {q : Addr} {xs : List V} (s : NoD H H') (h : TN H q xs) : TN H' q xs := by
  obtain ⟨o, h, d⟩ := h
  exact ⟨o, s _ _ (fun _ z => by cases z) h, d⟩
theorem FrameAt.nd {a : Addr} {d : Int} {ks : List Int} (s : NoD H H') (h : FrameAt K H a d ks) : FrameAt K H' a d ks := by
  obtain ⟨dx, p, q, h1, h2, h3⟩ := h
  exact ⟨dx, p, q, s _ _ (fun _ z => by cases z) h1, s _ _ (fun _ z => by cases z) h2, h3.nd s⟩
theorem WishAt.nd {p : Addr} (s : NoD H H') : ∀ {w : Wish}, WishAt H p w → WishAt H' p w
  | .wi _ _, h => s _ _ (fun _ z => by cases z) h
  | .rank _ _ _, h => by obtain ⟨q, e, t⟩ := h; exact ⟨q, s _ _ (fun _ z => by cases z) e, t.nd s⟩
  | .al _ _ _, h => by obtain ⟨q, e, t⟩ := h; exact ⟨q, s _ _ (fun _ z => by cases z) e, t.nd s⟩
theorem WsAt.nd {p : Addr} {ws : List Wish} (s : NoD H H') (h : WsAt H p ws) : WsAt H' p ws := by
  obtain ⟨as, e, ps⟩ := h
  exact ⟨as, s _ _ (fun _ z => by cases z) e, Paired.imp (fun _ _ r => r.nd s) ps⟩
theorem PlanAt.nd {p : Addr} {pl : Plan} (s : NoD H H') (h : PlanAt H p pl) : PlanAt H' p pl := by
  obtain ⟨q, e, t⟩ := h
  exact ⟨q, s _ _ (fun _ z => by cases z) e, t.nd s⟩
theorem noD_lock {s : Addr} {kvs : List (Key × V)} {od : Obj} (e : H s = some (.dK kvs)) : NoD H (upd H s (.frz od (.dK kvs))) := fun b o n h => at_mut (fun z => n kvs (Option.some.inj (h.symm.trans (by rw [z]; exact e)))) h
/-- the shelves of frames are not the law's shelf, if that is not empty -/
theorem PageAt.lock {s : Addr} {kvs : List (Key × V)} {sh : Shelf} {od : Obj} (e : H s = some (.dK kvs)) (en : Ents (PlanAt H) kvs sh) (ne : kvs ≠ []) : ∀ {ps : List Pg} {pg : Addr}, PageAt K H pg ps → PageAt K (upd H s (.frz od (.dK kvs))) pg ps
  | [], _, h => h
  | P :: rest, _, h => by
    obtain ⟨dx, s2, w, av, e1, ⟨kvs2, e2, en2⟩, wa, r⟩ := h
    have nd := noD_lock (od := od) e
    refine ⟨dx, s2, w, av, nd _ _ (fun _ z => by cases z) e1, ⟨kvs2, at_mut (fun z => ?_) e2, Paired.imp (fun a b r => ⟨r.1, r.2.elim fun x y => ⟨x, y.1, y.2.nd nd⟩⟩) en2⟩, wa.nd nd, ?_⟩
    · subst z
      rw [e] at e2
      cases e2
      generalize P.sh = sh2 at en2
      cases en with
      | nil => exact ne rfl
      | cons r _ =>
        cases en2 with
        | cons r2 _ =>
          obtain ⟨_, a, ea, q, ga, _⟩ := r
          obtain ⟨_, b, eb, dx, p, q, gb, _⟩ := r2
          rw [ea] at eb
          cases eb
          rw [ga] at gb
          cases gb
    · rcases r with r | ⟨q, eq, r⟩
      · exact .inl r
      · exact .inr ⟨q, eq, PageAt.lock e en ne r⟩
theorem DeskAt.lock {s dk : Addr} {kvs : List (Key × V)} {sh : Shelf} {od : Obj} {ps : List Pg} (e : H s = some (.dK kvs)) (en : Ents (PlanAt H) kvs sh) (ne : kvs ≠ []) (h : DeskAt K H dk ps) : DeskAt K (upd H s (.frz od (.dK kvs))) dk ps := by
  obtain ⟨dx, pg, e1, pa⟩ := h
  exact ⟨dx, pg, noD_lock e _ _ (fun _ z => by cases z) e1, pa.lock e en ne⟩
end
end Bt

set_option Elab.async false
set_option linter.all false
set_option maxRecDepth 100000
set_option maxHeartbeats 4000000
/-! the law: whether a desk shows a page -/
namespace Bt
open PySem L2
set_option pp.maxSteps 900
local macro_rules | `(tactic| walk_at "lk") => `(tactic| first
  | assumption
  | exact upd_same
  | (refine at_new ?_ ?_; · assumption
     walk_at "lk")
  | (refine at_mut ?_ ?_; · assumption
     walk_at "lk")
  | (refine at_same ?_ ?_; · assumption
     walk_at "lk"))
local macro_rules | `(tactic| walk_at "w1") => `(tactic| with_reducible first
  | refine w_seq ?_ | refine w_asg ?_ | refine w_name ?_ | refine w_ret ?_ | refine w_retN ?_ | refine w_drop ?_ | refine w_next ?_
  | refine w_op ?_ | refine w_var rfl ?_ | refine w_c ?_ | refine w_un ?_ | refine w_test ?_ | refine w_tB ?_ | refine w_bl ?_ | refine w_chain ?_
  | refine w_and ?_ | refine w_or ?_ | refine w_not ?_ | refine w_andV ?_ | refine w_orV ?_ | refine w_notV ?_ | refine w_cons ?_ | refine w_nil ?_
  | refine w_par ?_ | refine w_parL ?_ | refine w_call ?_ | refine w_CB ?_ | refine w_prop ?_ | refine w_fld ?_ | refine w_meth ?_ | refine w_make ?_ | refine w_tup ?_ | refine w_lst ?_
  | refine w_I0 ?_ | refine w_U ?_ | refine w_addI ?_ | refine w_eqI ?_ | refine w_eqS ?_ | refine w_neI ?_ | refine w_neS ?_ | refine w_isN ?_ | refine w_notN ?_
  | refine w_tt ?_ | refine w_ff ?_ | refine w_nt ?_ | refine w_nf ?_ | refine w_ntt ?_ | refine w_att ?_ | refine w_js ?_ | refine w_jsN ?_ | refine w_fmtS ?_ | refine w_m1 ?_ | refine w_m1L ?_ | refine w_sfld ?_ | refine w_bm ?_ | refine w_dc ?_ | refine w_iIt ?_ | refine w_star ?_ | refine w_mkO ?_ | refine w_raise ?_ | refine w_osg ?_ | refine w_gfld ?_ | refine w_kget ?_ | refine w_dget ?_ | refine w_din ?_ | refine w_dnotin ?_ | refine w_slice ?_ | refine w_on ?_ | refine w_os ?_ | refine w_sub ?_ | refine w_bmN ?_ | refine w_intI ?_ | refine w_intB ?_ | refine w_strS ?_
  | refine w_lc ?_ | refine w_for ?_ | refine w_iL ?_ | refine w_iT ?_ | refine w_iS ?_ | refine w_iK ?_ | refine w_iR1 ?_ | refine w_iR3 ?_ | refine w_iET ?_ | refine w_srcS ?_)
local macro_rules | `(tactic| walk_at "w") => `(tactic| (repeat walk_at "w1"); try (with_reducible refine w_ifN ?_))
local macro_rules | `(tactic| walk_at "ws") => `(tactic| with_reducible first | refine w_seq ?_ | refine w_next ?_)
local macro_rules | `(tactic| walk_at "w2") => `(tactic| repeat with_reducible first | refine w_seq ?_ | refine w_asg ?_ | refine w_name ?_ | refine w_next ?_)
local macro_rules | `(tactic| walk_at "sz") => `(tactic| (rw [sizeLine_eq]; exact Nat.le_of_ble_eq_true rfl))
section
variable {P : Program} {w : World} {K : Frag} {mg : Str → Option Value} {base : Heap} {H : Hp} {Q : VK} {σ : L2.St}
def spEq (K : Frag) : Sp := fun vs H Q _ => ∃ a d ks b d2 ls, vs = [.ref a, .ref b] ∧ FrameAt K H a d ks ∧ FrameAt K H b d2 ls ∧ Q (.bl (decide (d = d2) && decide (ks = ls))) H
abbrev s_Frame_eq : Stmt := inClass (top 46) 6
theorem sc_Frame_eq : FnScope ["self", "other"] ["self", "other"] (defScope s_Frame_eq) := ⟨rfl, rfl, rfl, by decide +kernel, rfl, by decide +kernel, by decide +kernel⟩
theorem ok_Frame_eq (T : Txt w K mg) : OwnM P w K mg base (He.ga K "Frame") "__eq__" 1 ["self", "other"] (spEq K) := by
  refine own_ofM T.m_Frame_eq sc_Frame_eq (fun _ _ _ _ _ _ us hl => match us, hl with | [_, _], _ => rfl) (fun vs H Q E h => ?_) (fun f cdv A outer s H vs Q E hr h => ?_)
  · obtain ⟨a, d, ks, b, d2, ls, rfl, _⟩ := h; rfl
  · have sc := sc_Frame_eq
    have hu64 := hr.units
    obtain ⟨a, d, ks, b, d2, ls, rfl, ⟨dx, p, q, e1, e2, t1⟩, ⟨dx2, p2, q2, f1, f2, t2⟩, k⟩ := h
    refine ⟨_, (pss_one (ps_ret (pe_and (pe_callB call_isi (by rfl) T.b_isinstance (by decide +kernel) (pa_cons (pv 1) (pa_cons (pe_gref T.g_Frame) pa_nil))) (pe_one (pe_cmpR (op_eqU (by exact hu64)) (pe_fld (pv 0) rfl) (pe_fld (pv 1) rfl) (nomark _)))))), ?_⟩
    walk_at "w"
    refine w_isF T f1 ?_
    walk_at "w"
    refine w_fldL e1 T.k_Frame T.a_Frame_parts rfl ?_
    walk_at "w"
    refine w_fldL f1 T.k_Frame T.a_Frame_parts rfl ?_
    refine w_eqD (.tup (SqT.of e2) (.cons (.int d) (.cons (dp_tupN t1) .nil))) (.tup (SqT.of f2) (.cons (.int d2) (.cons (dp_tupN t2) .nil))) ?_ ?_ ?_ ?_
    · simp only [PyData.plain, PyData.plainAll, pl_ints, Bool.and_self]
    · simp only [PyData.plain, PyData.plainAll, pl_ints, Bool.and_self]
    · simp only [PyData.depth, PyData.depthAll, dep_ints]; decide
    · have ev := ev_ints ks ls
      have : PyData.eqv (.tuple [.int d, .tuple (ks.map PyData.int)]) (.tuple [.int d2, .tuple (ls.map PyData.int)]) = (decide (d = d2) && decide (ks = ls)) := by
        simp only [PyData.eqv, PyData.eqvAll, ev, Bool.and_true]
        by_cases z : d = d2 <;> simp [z]
      rw [this]
      exact k
def spDeskIs (K : Frag) : Sp := fun vs H Q _ => ∃ dk pg m P ps, vs = [.ref dk, .ref pg, .int m] ∧ DeskAt K H dk (P :: ps) ∧ LPg H pg P ∧ m = (ps.length : Nat) ∧ ps.length ≤ 1000 ∧ PgOk P ∧ (∀ c ∈ P.ws, ∀ t ∈ c.titles, t ∈ names3) ∧ ∀ H', Same H H' → Q (.bl true) H'
abbrev s__law_desk_is : Stmt := top 121
theorem sc__law_desk_is : FnScope ["_law_desk_here", "_law_page", "_law_many_here", "_law_told", "_law_shelf", "_law_wishes", "_law_title"] ["_law_desk_here", "_law_page", "_law_many_here"] (defScope s__law_desk_is) := ⟨rfl, rfl, rfl, by decide +kernel, rfl, by decide +kernel, by decide +kernel⟩
theorem ok_law_desk_is (T : Txt w K mg) : OwnG P w K mg base "_law_desk_is" 8 ["_law_desk_here", "_law_page", "_law_many_here"] (spDeskIs K) := by
  refine own_ofG T.f_law_desk_is.c sc__law_desk_is (fun _ _ _ _ _ _ us hl => match us, hl with | [_, _, _], _ => rfl) (fun vs H Q E h => ?_) (fun f cdv A outer s H vs Q E _ hgu hr h => ?_)
  · obtain ⟨dk, pg, m, P, ps, rfl, _⟩ := h; rfl
  · have sc := sc__law_desk_is
    have hu64 := hr.units
    have hu65 := units65 hr
    have hu1 := units1 hr
    obtain ⟨dk, pg, m, P, ps, rfl, da, ⟨sd, wl, ep, hs, hw⟩, rfl, hm, ok, nm, k⟩ := h
    obtain ⟨kvs, hk, en⟩ := id hs
    obtain ⟨as, ew, pw⟩ := id hw
    obtain ⟨ddx, dpg, ed, _⟩ := id da
    have hkeys := Ents.keys en
    have hlen : kvs.length = P.sh.length := Paired.len en
    refine ⟨_, (pss_cons (ps_asg (pv 1) (pg_tup rfl (pgs_cons (pg_name (i := 4) sc.nd rfl (Or.inr rfl)) (pgs_cons (pg_name (i := 5) sc.nd rfl (Or.inl rfl)) pgs_nil))))
      (pss_cons (ps_set (i := 3) sc.nd rfl (Or.inl rfl) (pe_lst (pa_cons (pe_ownP (ok_Desk_names T) T.k_Desk hr passN (pv 0)) (pa_cons (pe_ownP (ok_Desk_claims T) T.k_Desk hr passN (pv 0)) (pa_cons (pe_ownP (ok_Desk_changes T) T.k_Desk hr passN (pv 0)) pa_nil)))))
      (pss_cons (ps_if (pt_cmpR (op_neU (by exact hu64)) (pe_callB (call_reprD (by exact hgu) (by exact hu65)) (by rfl) T.b_repr (by decide +kernel) (pa_cons (pv 3) pa_nil)) (pe_callB (call_reprD (by exact hgu) (by exact hu65)) (by rfl) T.b_repr (by decide +kernel) (pa_cons (pe_lst (pa_cons (pe_callTy call_tuple_ofN (by rfl) T.b_tuple (by decide +kernel) (pa_cons (pe_callB (call_sortedD rfl) (by rfl) T.b_sorted (by decide +kernel) (pa_cons (pv 4) pa_nil)) pa_nil)) (pa_cons (pe_callTy call_tuple_ofN (by rfl) T.b_tuple (by decide +kernel) (pa_cons (pv 5) pa_nil)) (pa_cons (pv 2) pa_nil)))) pa_nil)) (nomark _)) (pss_one (ps_ret pe_bl)) pss_nil)
      (pss_one (ps_lock (ps_ret (pe_cmpR (op_eqU (by exact hu64)) (pe_lc (own := [("_law_title", 6)]) rfl sc.nd (pi_keys (pv 4)) (blkOk_by (by rfl)) (fun _ _ _ _ _ => (pg_name (i := 6) sc.nd rfl (Or.inl rfl))) (fun _ _ _ _ _ => (pts_one (pt_cmpR (op_ownNe T.q_Frame (ok_Frame_eq T) hr passN) (pe_ownM (ok_Desk_thing T) T.k_Desk hr passN (pv 0) (pa_cons (pv 6) pa_nil)) (pe_own (ok_law_framed T) hr passN (pa_cons (pe_dget (by exact hu1) (pv 4) (pv 6) (fun _ _ => rfl)) pa_nil)) (nomark _)))) (fun _ _ _ _ _ => (pv 6))) (pe_lst pa_nil) (nomark _)))))))), ?_⟩
    walk_at "w"
    refine w_unp2 ep ?_
    walk_at "w"
    refine w_propL ed ⟨dk, P, ps, rfl, da, ok.ls, fun ys q1 H1 pm so s1 t1 => ?_⟩
    walk_at "w"
    refine w_propL (s1 _ _ ed) ⟨dk, P, ps, rfl, da.same s1, fun q2 wa => ?_⟩
    walk_at "w"
    refine w_propL (s1 _ _ ed) ⟨dk, P, ps, rfl, da.same s1, ?_⟩
    walk_at "w"
    refine ⟨by walk_at "sz", fun p1 hp1 => ?_⟩
    walk_at "w"
    have s2 := same_new (o := .lst [.ref q1, .ref q2, .int (ps.length : Nat)]) hp1 (Same.refl _)
    have yn : ∀ y ∈ ys, y ∈ names3 := fun y hy => by
      obtain ⟨kv, hkv, rfl⟩ := List.mem_map.mp (pm.mem_iff.mp hy)
      exact ok.names kv hkv
    have yl : ys.length ≤ 20 := by rw [pm.length_eq, List.length_map]; exact ok.ls
    have wn : ∀ c ∈ P.ws, WishOk c ∧ ∀ t ∈ c.titles, t ∈ names3 := fun c hc => ⟨(ok.ws c hc).1, nm c hc⟩
    have shw := shw_desk yn yl wn ok.lw hm
    obtain ⟨as2, ew2, pw2⟩ := id wa
    have d1 : Dp K (upd H1 p1 (.lst [.ref q1, .ref q2, .int (ps.length : Nat)])) (.ref p1) (deskD ys P.ws ps.length) := .lst (SqL.of upd_same) (.cons (.tup (t1.new hp1).sq (dp_strs ys)) (.cons (.tup (SqT.of (at_new hp1 ew2)) (dp_wishes (Paired.imp (fun _ _ r => r.same s2) pw2))) (.cons (.int _) .nil)))
    have s02 := s1.trans s2
    generalize upd H1 p1 (.lst [.ref q1, .ref q2, .int (ps.length : Nat)]) = H2 at s2 d1 s02 ⊢
    have hk2 := s02 _ _ hk
    have ew3 := s02 _ _ ew
    refine w_ifg false (fun q hq => ?_) (fun c => nomatch c) fun _ H3 s3 => ?_
    · walk_at "w"
      refine ⟨p1, deskD ys P.ws ps.length, rfl, d1, shw.sh, shw.nd, dep_desk _ _ _, Nat.le_trans shw.ln (by rw [sizeLine_eq]; decide), ?_⟩
      walk_at "w"
      refine ⟨sd, kvs, P.sh.map (·.1), rfl, Rd.of hk2, hkeys, by rw [List.length_map]; have := ok.ls; omega, fun zs a pz sz ha => ?_⟩
      have ez : zs = ys := sorted_same (pz.trans pm.symm) sz so
      subst ez
      walk_at "w"
      refine ⟨a, _, rfl, SqL.of upd_same, fun b H3 hb kk tb => ?_⟩
      have s3 : Same (upd H2 a (.lst (zs.map V.str))) H3 := fun y o ey => (kk y (ne_of_none ey hb)).trans ey
      have s4 := (same_new (o := .lst (zs.map V.str)) ha (Same.refl _)).trans s3
      walk_at "w"
      refine ⟨wl, _, rfl, SqL.of (s4 _ _ ew3), fun c H4 hc kk2 tc => ?_⟩
      have s5 : Same H3 H4 := fun y o ey => (kk2 y (ne_of_none ey hc)).trans ey
      have s6 := s4.trans s5
      walk_at "w"
      refine ⟨by walk_at "sz", fun e2 he2 => ?_⟩
      walk_at "w"
      have s7 := s6.trans (same_new (o := .lst [.ref b, .ref c, .int (ps.length : Nat)]) he2 (Same.refl _))
      have d2 : Dp K (upd H4 e2 (.lst [.ref b, .ref c, .int (ps.length : Nat)])) (.ref e2) (deskD zs P.ws ps.length) := .lst (SqL.of upd_same) (.cons (.tup ((tb.same s5).new he2).sq (dp_strs zs)) (.cons (.tup (tc.new he2).sq (dp_wishes (Paired.imp (fun _ _ r => r.same (s02.trans s7)) pw))) (.cons (.int _) .nil)))
      refine ⟨e2, deskD zs P.ws ps.length, rfl, d2, shw.sh, shw.nd, dep_desk _ _ _, Nat.le_trans shw.ln (by rw [sizeLine_eq]; decide), ?_⟩
      refine w_neS ⟨_, rfl, ?_⟩
      rw [decide_eq_true rfl]
      exact hq _ s7
    · have s03 := s02.trans s3
      have hk3 := s03 _ _ hk
      walk_at "w"
      refine w_lock ⟨sd, .dK kvs, hk3, True.intro, fun od => ?_⟩
      walk_at "w"
      refine ⟨sd, od, rfl, .inl ⟨kvs, upd_same, ?_⟩⟩
      have en3 : Ents (PlanAt H3) kvs P.sh := Paired.imp (fun _ _ r => ⟨r.1, r.2.elim fun x y => ⟨x, y.1, y.2.same s03⟩⟩) en
      refine w_lcP (yl_keys upd_same) (fun _ => false) id (by rw [List.length_map]; have := ok.ls; omega) (fun _ => rfl) (fun x hx H4 s4 q hq => ?_) (fun x hx c => nomatch c) fun p2 H4 hp2 s4 e4 => ?_
      · obtain ⟨kv, hkv, rfl⟩ := List.mem_map.mp hx
        have hm : kv.1 ∈ (P.sh.map (·.1)).map Sum.inr := by rw [← hkeys]; exact List.mem_map.mpr ⟨kv, hkv, rfl⟩
        obtain ⟨z, hz, ez⟩ := List.mem_map.mp hm
        obtain ⟨k0, v0⟩ := kv
        dsimp only at ez
        subst ez
        have ne : kvs ≠ [] := fun y => by rw [y] at hkv; cases hkv
        have da4 : DeskAt K H4 dk (P :: ps) := ((da.same s03).lock (od := od) hk3 en3 ne).same s4
        obtain ⟨ddx4, dpg4, ed4, _⟩ := id da4
        have gz : shV P.sh z = some (plOf P.sh z) := by
          have h := mem_shV hz
          unfold plOf
          cases e : shV P.sh z with
          | none => rw [e] at h; cases h
          | some x => rfl
        obtain ⟨pa, dv, pp⟩ := (Ents.get (t := z) en3).1 _ gz
        have pp4 : PlanAt H4 pa (plOf P.sh z) := (pp.nd (noD_lock (od := od) hk3)).same s4
        walk_at "w"
        refine w_methL ed4 rfl ?_
        walk_at "w"
        refine ⟨dk, z, P, ps, plOf P.sh z, rfl, da4, gz, fun a fa => ?_⟩
        walk_at "w"
        refine ⟨sd, _, rfl, .inl ⟨kvs, Sum.inr z, .inr ⟨od, s4 _ _ upd_same⟩, rfl, dv.symm⟩, ?_⟩
        walk_at "w"
        refine ⟨pa, plOf P.sh z, rfl, pp4, ok.sh z _ gz, fun b H5 s5 fb => ?_⟩
        obtain ⟨dx5, _, _, fa1, _⟩ := id (fa.same s5)
        obtain ⟨dx6, _, _, fb1, _⟩ := id fb
        refine ⟨a, _, _, b, _, _, rfl, rfl, fa1, fb1, a, _, _, b, _, _, rfl, fa.same s5, fb, _, rfl, ?_⟩
        rw [decide_eq_true rfl, decide_eq_true rfl]
        exact ⟨_, rfl, hq _ s5⟩
      · replace e4 : H4 p2 = some (.lst []) := by rw [e4]; simp
        walk_at "w"
        refine ⟨by walk_at "sz", fun p5 hp5 => ?_⟩
        refine w_eqD (dp_nilL (at_new hp5 e4)) (dp_nilL upd_same) rfl rfl (by decide) ?_
        have f5 := at_new (o := .lst []) hp5 (s4 _ _ upd_same)
        refine ⟨f5, ?_⟩
        exact k _ (s03.trans (Same.unlock hk3 (s4.trans (same_new (o := .lst []) hp5 (Same.refl _)))))
end
end Bt

set_option Elab.async false
set_option linter.all false
set_option maxRecDepth 100000
set_option maxHeartbeats 4000000
/-! try .. except (A, B, C) as n, each exception of the body under one of them -/
namespace Bt
open PySem PySem.Spec PyProof.Rows L2
theorem fly_push {B h : Heap} {l : List Env} {a : Addr} {Z : Obj → Prop} (o : Obj) (x : HandSPX.FlyingZ B l a Z h) : HandSPX.FlyingZ B l a Z (h.push o) := by
  obtain ⟨f1, f2, f3, oe, vs, T, oT, ts, g1, g2, g3, g4, g5, g6, g7, g8, g9⟩ := x
  have kp : ∀ b u, h.get? b = some u → (h.push o).get? b = some u := fun _ _ e => Heap.get?_push_of_some _ e
  exact ⟨fun b u e => kp _ _ (f1 b u e), f2, Heap.FunFrames.of_keeps (fun b u e _ => ⟨u, kp _ _ e, rfl⟩) f3, oe, vs, T, oT, ts, kp _ _ g1, g2, g3, g4, g5, g6, kp _ _ g7, g8, g9⟩
/-- the wish: the class is under one of the three, the suite's reading -/
def wAs3 (K : Frag) (m : Nat) (c1 c2 c3 : Value) (i : Nat) (ts : Addr → Value → Option Addr → TS) (D : Ends) : WX := fun cls d σ H => PySem.W.exmAny K cls [c1, c2, c3] = some true ∧
  ∀ a, H a = none → σ.length = m → ts a cls d { nx := fun σ' H' => D.nx (σ'.set i none) H', rt := D.rt, bk := fun σ' H' => D.bk (σ'.set i none) H', ct := fun σ' H' => D.ct (σ'.set i none) H' } (σ.set i (some (.ref a))) H
section
variable {X : Cx} {x1 x2 x3 n : Str} {c1 c2 c3 : Value} {i kk : Nat} {body suite : List Stmt} {b₀ : Stmt} {p1 p2 p3 tp pos pos' : Pos} {tb : WX → TS} {ts : Addr → Value → Option Addr → TS}
theorem ps_try3 (hs : X.stack = X.env :: X.outer) (hf : X.env.frame = some X.env.locals) (hN : X.N.Nodup) (hi : X.N[i]? = some n) (hln : X.env.kindOf n = some .local) (h1 : Gl X x1 ∧ X.mg x1 = some c1) (h2 : Gl X x2 ∧ X.mg x2 = some c2) (h3 : Gl X x3 ∧ X.mg x3 = some c3)
    (g1 : (x1 == ("__debug__" : Str)) = false) (g2 : (x2 == ("__debug__" : Str)) = false) (g3 : (x3 == ("__debug__" : Str)) = false)
    (hb : ∀ (W : WX) (pn : List (Addr × Obj)) (xe : Value → Shared → Prop), L2N.Takes (X.tr pn xe) W → PassesOwn (model X.prog X.w) X.A X.env xe → PSs (X.tr pn xe) body (tb W))
    (hsu : ∀ (a : Addr) (oe : Obj) (cls : Value) (d : Option Addr) (pn : List (Addr × Obj)), L2N.Zn cls d oe → (∃ vs, oe.data = .fields vs) → PSs (X.suite a ((a, oe) :: pn)) (b₀ :: suite) (ts a cls d)) :
    PS X (.Try body [.ExceptHandler (some (.Tuple [.Name x1 p1, .Name x2 p2, .Name x3 p3] kk tp)) (some n) (b₀ :: suite) pos'] [] [] pos) (fun D σ H => tb (wAs3 X.K X.N.length c1 c2 c3 i ts D) D σ H) := by
  refine ⟨fun pins s σ H D I h => ?_⟩
  have ok := I.ok
  have frames : X.A.frames = some (X.env :: X.outer) := by rw [ok.frames, hs]
  refine wpAny_Try_except ?_
  refine wpAny_mono ((hb (wAs3 X.K X.N.length c1 c2 c3 i ts D) (X.pn ++ pins) (fun e s₁ => wpAny (model X.prog X.w) X.A (noteFrame e X.env) (fun _ s₂ => wpAny (model X.prog X.w) X.A (setFlight e none) (fun _ s₃ =>
    wpAny (model X.prog X.w) X.A (handleBy e X.env [.ExceptHandler (some (.Tuple [.Name x1 p1, .Name x2 p2, .Name x3 p3] kk tp)) (some n) (b₀ :: suite) pos']) (SP X pins D) X.xe s₃) X.xe s₂) X.xe s₁) (fun u s' xx => ?caught) PassesOwn.looking).run [] s σ H D (I.toTry _) h) (fun f s1 hsp => ?through) (fun e s1 he => he)
  case through =>
    cases f with
    | next => obtain ⟨σ', H', J', q⟩ := hsp; exact wpAny_execs_nil ⟨σ', H', J'.ofTry ok, q⟩
    | brk => obtain ⟨σ', H', J', q⟩ := hsp; exact ⟨σ', H', J'.ofTry ok, q⟩
    | cont => obtain ⟨σ', H', J', q⟩ := hsp; exact ⟨σ', H', J'.ofTry ok, q⟩
    | ret u => obtain ⟨v, σ', H', J', r, q⟩ := hsp; exact ⟨v, σ', H', J'.ofTry ok, r, q⟩
  case caught =>
    obtain ⟨a, B, sI, pins', σ', H', cls, d, rfl, J', nb, up, sky, na, os, ag, hm, hyes⟩ := xx
    have J : Inv X pins σ' H' sI := J'.ofTry ok
    show wpAny (model X.prog X.w) X.A (noteFrame (.ref a) X.env) _ _ _
    refine L2N.Sky.land L2N.Zn.steady frames hf (by rw [← hs]; exact sky) fun h3' fl3 up3 => ?_
    -- what the exception's object is not
    have far : ∀ {h : Heap} {o : Obj} {vs : Array Value}, h.FunFrames B (X.env :: X.outer) → h.get? a = some o → o.data = .fields vs → a ≠ X.env.locals ∧ a ∉ X.fs := fun {h o vs} ff e dd => by
      have no : a ∉ frs (X.env :: X.outer) := fun hm => by
        obtain ⟨_, o', e', hnf⟩ := ff.mem hm
        rw [e] at e'; cases e'
        exact hnf _ dd
      refine ⟨fun z => no (List.mem_filterMap.mpr ⟨X.env, List.mem_cons_self, by rw [hf, z]⟩), fun hm => ?_⟩
      obtain ⟨e, he, q⟩ := List.mem_filterMap.mp hm
      exact no (List.mem_filterMap.mpr ⟨e, List.mem_cons_of_mem _ he, q⟩)
    have J3 : Inv X pins σ' H' { s' with heap := h3' } := J.landed nb fl3.1 (up.trans up3) os ag
    obtain ⟨oe3, vs3, he3, hz3, hd3'⟩ := fl3.there
    obtain ⟨nL, nF⟩ := far fl3.2.2.1 he3 hd3'
    have S3 := J3.suite he3 hd3' na nL nF
    refine wpAny_handleBy_cons (codeAny_handlers_test ?_) (by intro q; cases q)
    refine wpAny_Tuple ?_
    refine wpAny_items_cons (ld_glob (X := X.suite a ((a, oe3) :: (X.pn ++ pins))) S3 h1.1 h1.2 ?_ g1)
    refine wpAny_items_cons (ld_glob (X := X.suite a ((a, oe3) :: (X.pn ++ pins))) S3 h2.1 h2.2 ?_ g2)
    refine wpAny_items_cons (ld_glob (X := X.suite a ((a, oe3) :: (X.pn ++ pins))) S3 h3.1 h3.2 ?_ g3)
    refine wpAny_items_nil ⟨by rw [sizeLine_eq]; exact Nat.le_of_ble_eq_true rfl, ?_⟩
    have kp : ∀ q o, h3'.get? q = some o → (h3'.push { cls := .type "tuple", data := .seq [c1, c2, c3].toArray }).get? q = some o := fun _ _ z => Heap.get?_push_of_some _ z
    have fl5 := fly_push { cls := .type "tuple", data := .seq [c1, c2, c3].toArray } fl3
    have up5 : h3'.UpToSlots (h3'.push { cls := .type "tuple", data := .seq [c1, c2, c3].toArray }) := Heap.UpToSlots.of_keeps kp
    have LT : PySem.W.Looks (model X.prog X.w) h3' (typeOf (.ref a)) cls := fun A Q E s k q => wpAny_typeOf_ref (k _ _ he3) (by rw [hz3.1]; exact q)
    refine (PySem.W.exm_tup3 (M := model X.prog X.w) (J3.kIn.keeps kp) (LT.keeps kp) (Heap.get?_push_size h3' rfl) hm).here ?_
    refine codeAny_handlers_suite_as ?_
    refine HandSPX.lands_againZ fl5 fun h4 fl4 up4 => ?_
    have J4 : Inv X pins σ' H' { s' with heap := h4 } := J.landed nb fl4.1 (((up.trans up3).trans up5).trans up4) os ag
    obtain ⟨oe4, vs4, he4, hz4, hd4⟩ := fl4.there
    have S4 := J4.suite he4 hd4 na nL nF
    refine store_ok (X := X.suite a ((a, oe4) :: (X.pn ++ pins))) (v := .ref a) S4 hN hi (.inl hln) rfl (fun s5 S5 => ?_) (.inr hln)
    refine wpAny_mono ((hsu a oe4 cls d (X.pn ++ pins) hz4 ⟨_, hd4⟩).run [] s5 _ H' _ S5 (hyes a na J'.len)) (fun f s6 hsp => ?_) (fun _ _ z => False.elim z)
    have gone : ∀ {σ6 : L2.St} {H6 : Hp} {Q : Shared → Prop}, Inv (X.suite a ((a, oe4) :: (X.pn ++ pins))) [] σ6 H6 s6 → (∀ s7, Inv X pins (σ6.set i none) H6 s7 → Q s7) →
        wpAny (model X.prog X.w) X.A (do bindName X.env n .none; unbindBehindTheSuite X.env n pos') (fun _ s7 => Q s7) X.xe s6 := fun {σ6 H6 Q} S6 hq => gone_ok (S6.unsuite ok) hN hi hln hq
    cases f with
    | next => obtain ⟨σ6, H6, S6, q6⟩ := hsp; exact gone S6 fun s7 J7 => ⟨_, _, J7, q6⟩
    | brk => obtain ⟨σ6, H6, S6, q6⟩ := hsp; exact gone S6 fun s7 J7 => ⟨_, _, J7, q6⟩
    | cont => obtain ⟨σ6, H6, S6, q6⟩ := hsp; exact gone S6 fun s7 J7 => ⟨_, _, J7, q6⟩
    | ret u => obtain ⟨v6, σ6, H6, S6, r6, q6⟩ := hsp; exact gone S6 fun s7 J7 => ⟨_, _, _, J7, r6, q6⟩
end
end Bt

set_option Elab.async false
set_option linter.all false
set_option maxRecDepth 100000
set_option maxHeartbeats 4000000
/-! a def called with the exception that is handled -/
namespace Bt
open PySem PySem.Spec PyProof.Rows L2
section
variable {X : Cx} {a : Addr} {oe : Obj} {cls : Value} {d : Option Addr}
/-- the exception's dict, if it has one, is told -/
def DictOk (H : Hp) (d : Option Addr) : Prop := d = none ∨ ∃ dx fs, d = some dx ∧ H dx = some (.xd fs)
theorem inst_of {X : Cx} {pins : List (Addr × Obj)} {σ : L2.St} {H : Hp} {s : Shared} {a D : Addr} {oe : Obj} {d : Option Addr} (I : Inv X pins σ H s) (hp : (a, oe) ∈ X.pn) (hz : L2N.Zn (.ref D) d oe) (hf : ∃ vs, oe.data = .fields vs) (hd : DictOk H d) : ∃ od, PySem.W.InstAt s.heap a oe D od := by
  obtain ⟨ha, _⟩ := I.pin (a, oe) (List.mem_append_left _ hp)
  obtain ⟨vs, hv⟩ := hf
  have nc : PySem.W.notCls oe = true := by unfold PySem.W.notCls; rw [hv] <;> rfl
  rcases hd with rfl | ⟨dx, fs, rfl, hx⟩
  · refine ⟨none, ha, hz.1, nc, ?_⟩
    rw [hz.2.1]; trivial
  · have hx : ObjOk X.prog X.w H s.heap dx (.xd fs) := I.hok dx _ hx
    obtain ⟨mA, hns, hr⟩ := hx
    obtain ⟨od, ho, hl⟩ := lookIn_ns hns
    exact ⟨some od, ha, hz.1, nc, by rw [hz.2.1]; exact ho⟩
def rIsX (K : Frag) (cls : Value) (d : Option Addr) (a : Addr) : List V → Hp → VK → Prop := fun xs H Q => ∃ (D : Addr) (c : V) (cv : Value) (b : Bool), xs = [.ref a, c] ∧ cls = .ref D ∧ ExcC K D ∧ DictOk H d ∧ (∀ u, RelV c u → u = cv) ∧ PySem.W.kitOne K (.ref D) cv = some b ∧ Q (.bl b) H
theorem call_isX (hp : (a, oe) ∈ X.pn) (hz : L2N.Zn cls d oe) (hf : ∃ vs, oe.data = .fields vs) : CallR X (.builtin "isinstance") (rIsX X.K cls d a) := by
  intro pins s σ H xs us Q I r h
  obtain ⟨D, c, cv, b, rfl, rfl, C, dk, hcv, e, q⟩ := h
  obtain ⟨u, w', rfl, rx, rt⟩ := vals2 r
  cases rx
  obtain rfl := hcv _ rt
  obtain ⟨od, J⟩ := inst_of I hp hz hf dk
  obtain ⟨cd, hc, _⟩ := PySem.W.any_some C.hd
  have hcl : (PySem.W.clsIn X.K D).isSome = true := by rw [hc]; rfl
  exact PySem.W.kia_one (PySem.W.kitx_exc hcl C.hg C.hk C.hs C.ha C.hn C.ht C.hm) I.kIn J e (fun z => nomatch z) fun tk => ⟨.bl b, H, I.kept (t' := tk) fun _ _ z => z, rfl, q⟩
def tXfU (K : Frag) (a : Addr) (cls : Value) (d : Option Addr) (f : Str) (te : TE) : TE := fun σ H Q => te σ H fun x H1 => x = .ref a ∧ ∃ (C dd : Addr) (fs : List (Str × V)) (v : V), cls = .ref C ∧ XfC K C ∧ PySem.W.findIn K (.ref C) f = some none ∧ d = some dd ∧ H1 dd = some (.xd fs) ∧ fs.lookup f = some v ∧ Q v H1
theorem pe_xfU {e : Expr} {te : TE} {pos : Pos} {n : Str} (hp : (a, oe) ∈ X.pn) (hz : L2N.Zn cls d oe) (hf : ∃ vs, oe.data = .fields vs) (he : PE X e te) (hb : attributeBase e n X.env (eval e X.env) = eval e X.env := by rfl) :
    PE X (.Attribute e n pos) (tXfU X.K a cls d n te) := by
  refine ⟨fun pins s σ H Q I h => ?_⟩
  refine attr_of hb (thn (he.run pins s σ H _ I h) fun u s1 hh => ?_)
  obtain ⟨x, H1, I1, rx, rfl, C, dd, fs, v, rfl, T, hno, rfl, ea, l, q⟩ := hh
  obtain rfl : u = Value.ref a := rx
  obtain ⟨ha, _⟩ := I1.pin (a, oe) (List.mem_append_left _ hp)
  obtain ⟨vs, hd⟩ := hf
  have hx : ObjOk X.prog X.w H1 s1.heap dd (.xd fs) := I1.hok dd _ ea
  obtain ⟨mA, hns, hr⟩ := hx
  obtain ⟨od, ho, hl⟩ := lookIn_ns hns
  obtain ⟨u, hu, ru⟩ := RelO.some_of (v := v) (o := mA n) (by rw [← l]; exact hr n)
  have J : PySem.W.InstAt s1.heap a oe C (some od) := ⟨ha, hz.1, by unfold PySem.W.notCls; rw [hd] <;> rfl, by rw [hz.2.1]; exact ho⟩
  exact HandSPX.exc_get I1.kIn J T.ga T.gg T.exC (PySem.W.findObj_own T.hdC hno rfl (by rw [hl, hu])) (handed_of ru) ⟨v, H1, I1.tok _, ru, q⟩
end
/-- a def run where an exception is handled, its promise told of the very state -/
theorem run_hot {P : Program} {w : World} {K : Frag} {mg : Str → Option Value} {base : Heap} {k : Nat} {f : Addr} {name qual : Str} {params : Arguments} {body : List Stmt} {scope : Scope} {dV kV doc pm cdv ct oc : Value} {an od : Option Addr}
    {osl : Array (Option Value)} {N ps : List Str} (lk : K.lookup f = some ⟨oc, od, .func (PySem.W.fnOf name qual params body scope dV kV doc pm an cdv ct), osl⟩) (hcd : PySem.W.codeIn K cdv qual = true) (S : FnScope N ps scope)
    {A : Around} {outer : List Env} {s : Shared} {H : Hp} {args : Args} {us : List Value} {vs : List V} {Q : VK} {E : XK} {p : Addr × Obj} (hr : L2H.RoomH (k + 1) A) (pin : L2H.PinOk outer H s p) (e0 : Env0 P w K mg base A outer s H) (hb : BindsTo s (PySem.W.fnOf name qual params body scope dV kV doc pm an cdv ct) args (ps.zip us)) (r : Vals vs us) (hl : vs.length = ps.length)
    (hbody : L2H.RoomH k (A.deeper (envOfC qual scope s.heap.objs.size f cdv)) → ∃ t, PSs (L2H.cxH (L2N.CX P w) P w K mg base N qual scope f cdv A outer s H E p) body t ∧ t { nx := fun _ H' => Q .non H', rt := Q } (L2.start N vs) H) :
    codeAny (model P w) A (.call (.ref f) args) (CR (L2N.CX P w) outer P w H s Q E) s := by
  have up : ∀ b o, base.get? b = some o → s.heap.get? b = some o := fun b o e => (e0.bs b o e).1
  have kinds : ∀ y ∈ ps.zip us, scope.names.lookup y.1 = some .local ∨ (scope.names.lookup y.1 = some .cell ∧ ((cellsFrom (s.heap.objs.size + 1) scope.names []).lookup y.1).isSome = true) := fun ⟨n, v⟩ hy =>
    (S.par n (List.of_mem_zip hy).1).imp id fun q => ⟨q, PySem.W.cellsFrom_some _ _ _ (.inl q)⟩
  refine codeAny_call_function hr.depth ((e0.mod.kin.keeps up) _ _ lk) rfl S.co S.gen rfl (PySem.W.codeRec_of (e0.mod.kin.keeps up) hcd) (hb _ _ _ _ ?_)
  refine wpAny_newFunctionEnv_cells S.kind kinds fun env he s1 x => ?_
  subst he
  refine ⟨(e0.mod.nolimit.keeps up).keeps x.toInCall.keep, codeAny_func ?_⟩
  obtain ⟨t, ht, hq⟩ := hbody (hr.deeper _)
  refine wpAny_mono (ht.run [] s1 (L2.start N vs) H _ (L2H.inv_startH S pin e0 hl r x) hq) (fun fl s' hs => ?_) fun e s' hs => hs
  have fin : ∀ {σ' : L2.St} {H' : Hp} {v : V} {u : Value}, Inv (L2H.cxH (L2N.CX P w) P w K mg base N qual scope f cdv A outer s H E p) [] σ' H' s' → RelV v u → Q v H' → CE outer P w H s Q u s' :=
    fun {σ' H' v u} J rv q => ⟨v, H', J.os, J.bare, J.base, J.hok, rv, q⟩
  match fl, hs with
  | .ret u, hs => obtain ⟨v, σ', H', J, rv, q⟩ := hs; exact fin J rv q
  | .next, hs => obtain ⟨σ', H', J, q⟩ := hs; exact fin (v := V.non) (u := Value.none) J rfl q
  | .brk, hs => obtain ⟨_, _, _, q⟩ := hs; exact False.elim q
  | .cont, hs => obtain ⟨_, _, _, q⟩ := hs; exact False.elim q
end Bt

set_option Elab.async false
set_option linter.all false
set_option maxRecDepth 100000
set_option maxHeartbeats 4000000
/-! a, b = x, y where an exception is handled -/
namespace Bt
open PySem PySem.Spec PyProof.Rows L2 HotX
section
variable {P : Program} {w : World} {A : Around} {E : Value → Shared → Prop} {s : Shared}
/-- the tuple's iterator is at its end -/
theorem tup_end_hot {it t x1 : Addr} {i : Nat} {items : Array Value} {Q : Option Value → Shared → Prop} (hot : HotAt A x1 s.heap) (hit : IsTupIter s.heap it t i) (ht : IsTup s.heap t items) (hx : items[i]? = none) (nx : it ≠ x1)
    (k : ∀ h', (∀ b o, b ≠ it → s.heap.get? b = some o → h'.get? b = some o) → Q none { s with heap := h' }) : wpAny (model P w) A (pyNext (.ref it)) Q E s := by
  have ty := hit.typeIs
  obtain ⟨o, ho, _, hd⟩ := hit
  obtain ⟨ol, hol, _, nl, hdl⟩ := ht
  obtain ⟨hh, o1, vs1, g1, d1, c1⟩ := hot
  unfold pyNext
  refine wpAny_bind (wpAny_attempt (wpAny_callSpecial?_slot (name := Str.ofString "__next__") ty slot_tupleiter_next (wpAny_call_entry slot_tupleiter_next ty entry_tupleiter_next ?_ (args_tupleiter_next _))))
  show wpAny _ _ (field (.ref it) 0 >>= _) _ _ s
  refine wpAny_bind (wpAny_field ho hd (x := .ref t) rfl ?_)
  rw [if_neg (show ¬ ((Value.ref t == Value.none) = true) from Bool.false_ne_true)]
  refine wpAny_bind (wpAny_field ho hd (x := .int i 0) rfl ?_)
  refine wpAny_bind (wpAny_seqItems hol hdl ?_)
  simp only [Int.toNat_natCast, hx]
  refine wpAny_bind (wpAny_rule (wpAny_bind (wpAny_setField ho hd (by simp) ?_)))
  show wpAny _ _ (newExc (.type "StopIteration") [] >>= _) _ _ _
  refine wpAny_bind ?_
  simp only [newExc, newTuple]
  refine wpAny_bind (wpAny_newObj_type ?_ (by size_fits))
  refine wpAny_bind (m := firstArgMember _ _) (wpAny_of_eq (a := Value.none) (by first | rfl | (simp only [firstArgMember]; rfl)) ?_)
  refine wpAny_newObj_type ?_ (by size_fits)
  have far : ∀ {f : Obj → Obj} {b : Addr} {u : Obj}, b ≠ it → s.heap.get? b = some u → (s.heap.update it f).get? b = some u := fun nb e => by
    rw [Heap.get?_update_other _ _ (Ne.symm nb)]; exact e
  refine raiseNew_hot ⟨hh, o1, vs1, Heap.get?_push_of_some _ (Heap.get?_push_of_some _ (far (Ne.symm nx) g1)), d1, c1⟩ (Nat.ne_of_lt (Heap.lt_size (Heap.get?_push_of_some _ (far (Ne.symm nx) g1)))) (Heap.get?_push_size _ rfl) rfl (by first | (simp; done) | (simp; omega) | (simp only [Array.size_append]; simp; omega)) ?_
  refine wpAny_bind (wpAny_isInstance (T := "StopIteration") (b := true) ⟨_, Heap.get?_update_self _ (Heap.get?_push_size _ rfl) rfl, rfl⟩ isSubtype_stop ?_)
  refine wpAny_pure (k _ fun b u nb e => ?_)
  rw [Heap.get?_update_other _ _ (Nat.ne_of_gt (Heap.lt_size (Heap.get?_push_of_some _ (far nb e))))]
  exact Heap.get?_push_of_some _ (Heap.get?_push_of_some _ (far nb e))
/-- the items of a tuple, taken one by one -/
theorem unpack_hot {t x1 : Addr} {items : Array Value} {Q : List Value → Shared → Prop} (hot : HotAt A x1 s.heap) (ht : IsTup s.heap t items) (k : ∀ h', (∀ b o, s.heap.get? b = some o → h'.get? b = some o) → Q items.toList { s with heap := h' }) :
    wpAny (model P w) A (unpackItems (.ref t) items.size none) Q E s := by
  have lt : t ≠ s.heap.objs.size := by obtain ⟨o, ho, _⟩ := ht; exact Nat.ne_of_lt (Heap.lt_size ho)
  obtain ⟨hh, o1, vs1, g1, d1, c1⟩ := hot
  have l1 : s.heap.objs.size ≠ x1 := Nat.ne_of_gt (Heap.lt_size g1)
  unfold unpackItems
  refine wpAny_bind ?_
  unfold notIterableAtAll
  refine wpAny_bind (wpAny_specialOf ht.typeIs slot_tuple_iter.lookup (wpAny_pure ?_))
  simp only [Bool.false_eq_true, if_false]
  refine wpAny_bind (wpAny_holding (iter_tuple ht ?_))
  refine wpAny_bind (wpAny_holding (draw_tuple lt items.size 0 _ _ ⟨_, Heap.get?_push_size _ rfl, rfl, rfl⟩ (ht.push _) (by omega) fun h1 i1 b1 => ?_))
  have far : ∀ b o, b ≠ s.heap.objs.size → s.heap.get? b = some o → h1.get? b = some o := fun b o nb e => b1.extBut b o nb (Heap.get?_push_of_some _ e)
  rw [show List.take items.size (List.drop 0 items.toList) = items.toList by rw [List.drop_zero]; exact List.take_of_length_le (by simp), if_neg (by simp)]
  refine wpAny_bind (wpAny_holding (tup_end_hot (x1 := x1) (i := 0 + items.size) (items := items) ⟨hh, o1, vs1, far _ _ l1.symm g1, d1, c1⟩ i1 ((ht.push _).extBut b1.extBut lt) (by simp) l1 fun h2 k2 => ?_))
  simp only [Option.isSome_none, Bool.false_eq_true, if_false]
  exact wpAny_pure (k h2 fun b o e => k2 b o (Nat.ne_of_lt (Heap.lt_size e)) (far b o (Nat.ne_of_lt (Heap.lt_size e)) e))
end
theorem ps_parH {X : Cx} {i j : Nat} {x y : Str} {a b : Expr} {ta : TA} {px py pt pos : Pos} {kt k2 pt2} (hc : L2H.HotC X) (hN : X.N.Nodup) (hi : X.N[i]? = some x) (hj : X.N[j]? = some y) (hij : i ≠ j)
    (hx : X.env.scope.names.lookup x = some .local) (hy : X.env.scope.names.lookup y = some .local) (ha : PA X [a, b] ta)
    (hw : swappedStores [.Tuple [.Name x px, .Name y py] kt pt] (.Tuple [a, b] k2 pt2) X.env = pure (some [x, y]))
    (hs : swapsWithSole [.Tuple [.Name x px, .Name y py] kt pt] (.Tuple [a, b] k2 pt2) pos.line X.env = pure false := by rfl) :
    PS X (.Assign [.Tuple [.Name x px, .Name y py] kt pt] (.Tuple [a, b] k2 pt2) pos) (tPar i j ta) := by
  refine ⟨fun pins s σ H D I h => ?_⟩
  rw [exec_Assign_arm]
  refine wpAny_bind (wpAny_standAt ?_)
  rw [hs]
  refine wpAny_bind (wpAny_pure ?_)
  rw [if_neg (by decide)]
  refine wpAny_bind (Tuple_ (thn (ha.run _ pins s σ H _ I h) fun us s1 ⟨vs, H1, I1, r1, v, w', e1, q1⟩ => ?_))
  subst e1
  cases r1 with
  | @cons _ u1 _ _ rv r1 =>
    obtain ⟨u2, rfl, rw'⟩ := vals1 r1
    refine wpAny_newObj_type ?_ (by show 2 ≤ sizeLine; decide)
    have I2 := I1.kept (h' := s1.heap.push { cls := .type "tuple", data := .seq [u1, u2].toArray }) (t' := s1.toks) fun b o e => Heap.get?_push_of_some _ e
    rw [hw]
    refine wpAny_bind (wpAny_pure ?_)
    show wpAny (model X.prog X.w) X.A (do rule "assign.swapped-stores"; let items ← unpackItems (.ref s1.heap.objs.size) 2 none; assignInOrder [fun v => bindName X.env y v, fun v => bindName X.env x v] items.reverse; pure Flow.next) _ _ _
    obtain ⟨x1, hot⟩ := hc.at I2
    refine wpAny_bind (wpAny_rule (wpAny_bind (unpack_hot (items := #[u1, u2]) hot (IsTup.new s1.heap _) fun h' kp => ?_)))
    have I3 := I2.kept (h' := h') (t' := s1.toks) kp
    show wpAny _ _ (assignInOrder [fun v => bindName X.env y v, fun v => bindName X.env x v] [u2, u1] >>= fun _ => pure Flow.next) _ _ _
    refine wpAny_bind (assignInOrder_cons (wpAny_bindName (store_ok I3 hN hj (.inl hy) rw' (fun s2 I4 => ?_) (.inr hy))))
    refine assignInOrder_cons (wpAny_bindName (store_ok I4 hN hi (.inl hx) rv (fun s3 I5 => assignInOrder_nil (wpAny_pure ?_)) (.inr hx)))
    rw [List.set_comm _ _ (Ne.symm hij)] at I5
    exact ⟨_, H1, I5, q1⟩
end Bt

set_option Elab.async false
set_option linter.all false
set_option maxRecDepth 100000
set_option maxHeartbeats 4000000
/-! the law: an error told -/
namespace Bt
open PySem L2
set_option pp.maxSteps 900
local macro_rules | `(tactic| walk_at "lk") => `(tactic| first
  | assumption
  | exact upd_same
  | (refine at_new ?_ ?_; · assumption
     walk_at "lk")
  | (refine at_mut ?_ ?_; · assumption
     walk_at "lk")
  | (refine at_same ?_ ?_; · assumption
     walk_at "lk"))
local macro_rules | `(tactic| walk_at "w1") => `(tactic| with_reducible first
  | refine w_seq ?_ | refine w_asg ?_ | refine w_name ?_ | refine w_ret ?_ | refine w_retN ?_ | refine w_drop ?_ | refine w_next ?_
  | refine w_op ?_ | refine w_var rfl ?_ | refine w_c ?_ | refine w_un ?_ | refine w_test ?_ | refine w_tB ?_ | refine w_bl ?_ | refine w_chain ?_
  | refine w_and ?_ | refine w_or ?_ | refine w_not ?_ | refine w_andV ?_ | refine w_orV ?_ | refine w_notV ?_ | refine w_cons ?_ | refine w_nil ?_
  | refine w_par ?_ | refine w_parL ?_ | refine w_call ?_ | refine w_CB ?_ | refine w_prop ?_ | refine w_fld ?_ | refine w_meth ?_ | refine w_make ?_ | refine w_tup ?_ | refine w_lst ?_
  | refine w_I0 ?_ | refine w_U ?_ | refine w_addI ?_ | refine w_eqI ?_ | refine w_eqS ?_ | refine w_neI ?_ | refine w_neS ?_ | refine w_isN ?_ | refine w_notN ?_
  | refine w_tt ?_ | refine w_ff ?_ | refine w_nt ?_ | refine w_nf ?_ | refine w_ntt ?_ | refine w_att ?_ | refine w_js ?_ | refine w_jsN ?_ | refine w_fmtS ?_ | refine w_m1 ?_ | refine w_m1L ?_ | refine w_sfld ?_ | refine w_bm ?_ | refine w_dc ?_ | refine w_iIt ?_ | refine w_star ?_ | refine w_mkO ?_ | refine w_raise ?_ | refine w_osg ?_ | refine w_gfld ?_ | refine w_kget ?_ | refine w_dget ?_ | refine w_din ?_ | refine w_dnotin ?_ | refine w_slice ?_ | refine w_on ?_ | refine w_os ?_ | refine w_sub ?_ | refine w_bmN ?_ | refine w_intI ?_ | refine w_intB ?_ | refine w_strS ?_
  | refine w_lc ?_ | refine w_for ?_ | refine w_iL ?_ | refine w_iT ?_ | refine w_iS ?_ | refine w_iK ?_ | refine w_iR1 ?_ | refine w_iR3 ?_ | refine w_iET ?_ | refine w_srcS ?_)
local macro_rules | `(tactic| walk_at "w") => `(tactic| (repeat walk_at "w1"); try (with_reducible refine w_ifN ?_))
local macro_rules | `(tactic| walk_at "ws") => `(tactic| with_reducible first | refine w_seq ?_ | refine w_next ?_)
local macro_rules | `(tactic| walk_at "w2") => `(tactic| repeat with_reducible first | refine w_seq ?_ | refine w_asg ?_ | refine w_name ?_ | refine w_next ?_)
local macro_rules | `(tactic| walk_at "sz") => `(tactic| (rw [sizeLine_eq]; exact Nat.le_of_ble_eq_true rfl))
/-- the errors that a deed may end with -/
inductive Ex where
  | broken (i : Nat) (z : V)
  | inuse (i : Nat)
  | index (i : Nat)
  | unknown (t : Str)
  | nothing
def Ex.name : Ex → Str
  | .broken _ _ => "Broken"
  | .inuse _ => "InUse"
  | .index _ => "InvalidIndex"
  | .unknown _ => "UnknownName"
  | .nothing => "NothingToUndo"
def Ex.words : Ex → List Str
  | .broken i z => ["Broken", rpTx (.int (i : Nat)), rpTx z]
  | .inuse i => ["InUse", rpTx (.int (i : Nat))]
  | .index i => ["InvalidIndex", rpTx (.int (i : Nat))]
  | .unknown t => ["UnknownName", rpTx (.str t)]
  | .nothing => ["NothingToUndo"]
def Ex.ok : Ex → Prop
  | .broken i z => i ≤ 1000 ∧ RpIn z
  | .inuse i => i ≤ 1000
  | .index i => i ≤ 1000
  | .unknown t => t ∈ names3
  | .nothing => True
/-- what the top tells of the classes of errors -/
structure Tx2 (K : Frag) (mg : Str → Option Value) : Prop where
  g : ∀ x ∈ exAll, mg x = some (.ref (He.ga K x))
  ec : ∀ x ∈ exOwn, ExcC K (He.ga K x)
  xf : ∀ x ∈ exOwn, XfC K (He.ga K x)
  no : ∀ p ∈ [(("Broken" : Str), ("index" : Str)), ("Broken", "shown"), ("InUse", "index"), ("InvalidIndex", "given"), ("UnknownName", "given")], PySem.W.findIn K (.ref (He.ga K p.1)) p.2 = some none
  iso : ∀ x ∈ exOwn, ∀ y ∈ exAll, PySem.W.kitOne K (.ref (He.ga K x)) (.ref (He.ga K y)) = some (isB x y)
  isb : ∀ x ∈ exOwn, ∀ y ∈ exBlt, PySem.W.kitOne K (.ref (He.ga K x)) (.type y) = some (isB x (Str.ofString y))
  ex3 : ∀ x ∈ exOwn, PySem.W.exmAny K (.ref (He.ga K x)) [.ref (He.ga K "NotRight"), .ref (He.ga K "NotKnown"), .ref (He.ga K "NotPossible")] = some true
/-- the error as it flies -/
def ExFly (K : Frag) (H : Hp) (cls : Value) (d : Option Addr) : Ex → Prop
  | .broken i z => cls = .ref (He.ga K "Broken") ∧ ∃ dd, d = some dd ∧ H dd = some (.xd [("shown", z), ("index", .int (i : Nat))])
  | .inuse i => cls = .ref (He.ga K "InUse") ∧ ∃ dd, d = some dd ∧ H dd = some (.xd [("index", .int (i : Nat))])
  | .index i => cls = .ref (He.ga K "InvalidIndex") ∧ ∃ dd, d = some dd ∧ H dd = some (.xd [("given", .int (i : Nat))])
  | .unknown t => cls = .ref (He.ga K "UnknownName") ∧ ∃ dd, d = some dd ∧ H dd = some (.xd [("given", .str t)])
  | .nothing => cls = .ref (He.ga K "NothingToUndo") ∧ d = none
theorem ExFly.cls {K : Frag} {H : Hp} {cls : Value} {d : Option Addr} {x : Ex} (h : ExFly K H cls d x) : cls = .ref (He.ga K x.name) := by cases x <;> exact h.1
theorem ExFly.dict {K : Frag} {H : Hp} {cls : Value} {d : Option Addr} {x : Ex} (h : ExFly K H cls d x) : DictOk H d := by
  cases x with
  | nothing => exact .inl h.2
  | broken i z => obtain ⟨_, dd, e, q⟩ := h; exact .inr ⟨dd, _, e, q⟩
  | inuse i => obtain ⟨_, dd, e, q⟩ := h; exact .inr ⟨dd, _, e, q⟩
  | index i => obtain ⟨_, dd, e, q⟩ := h; exact .inr ⟨dd, _, e, q⟩
  | unknown t => obtain ⟨_, dd, e, q⟩ := h; exact .inr ⟨dd, _, e, q⟩
theorem ExFly.same {K : Frag} {H H' : Hp} {cls : Value} {d : Option Addr} {x : Ex} (s : Same H H') (h : ExFly K H cls d x) : ExFly K H' cls d x := by
  cases x with
  | nothing => exact h
  | broken i z => obtain ⟨c, dd, e, q⟩ := h; exact ⟨c, dd, e, s _ _ q⟩
  | inuse i => obtain ⟨c, dd, e, q⟩ := h; exact ⟨c, dd, e, s _ _ q⟩
  | index i => obtain ⟨c, dd, e, q⟩ := h; exact ⟨c, dd, e, s _ _ q⟩
  | unknown t => obtain ⟨c, dd, e, q⟩ := h; exact ⟨c, dd, e, s _ _ q⟩
theorem Ex.own (x : Ex) : x.name ∈ exOwn := by cases x <;> simp [Ex.name, exOwn]
section
variable {P : Program} {w : World} {K : Frag} {mg : Str → Option Value} {base : Heap} {H : Hp} {Q : VK} {σ : L2.St}
theorem w_isx (T2 : Tx2 K mg) {x : Ex} {a : Addr} {cls : Value} {d : Option Addr} (f : ExFly K H cls d x) (N : Str) (hN : x.name = N) (y : Str) (hy : y ∈ exAll) (b : Bool) (hb : isB N y = b) (h : Q (.bl b) H) : rIsX K cls d a [.ref a, .ref (He.ga K y)] H Q :=
  ⟨_, .ref (He.ga K y), .ref (He.ga K y), b, rfl, f.cls, T2.ec _ x.own, f.dict, fun u r => by cases r; rfl, by rw [← hb, ← hN]; exact T2.iso _ x.own y hy, h⟩
theorem w_isb (T2 : Tx2 K mg) {x : Ex} {a : Addr} {cls : Value} {d : Option Addr} (f : ExFly K H cls d x) (N : Str) (hN : x.name = N) (y : String) (hy : y ∈ exBlt) (b : Bool) (hb : isB N (Str.ofString y) = b) (h : Q (.bl b) H) : rIsX K cls d a [.ref a, .ty y] H Q :=
  ⟨_, .ty y, .type y, b, rfl, f.cls, T2.ec _ x.own, f.dict, fun u r => by cases r; rfl, by rw [← hb, ← hN]; exact T2.isb _ x.own y hy, h⟩
theorem w_xfU {te : TE} {a : Addr} {cls : Value} {d : Option Addr} {f : Str} (h : te σ H fun x H1 => x = .ref a ∧ ∃ (C dd : Addr) (fs : List (Str × V)) (v : V), cls = .ref C ∧ XfC K C ∧ PySem.W.findIn K (.ref C) f = some none ∧ d = some dd ∧ H1 dd = some (.xd fs) ∧ fs.lookup f = some v ∧ Q v H1) : tXfU K a cls d f te σ H Q := h
theorem roomH64 {k : Nat} {A : Around} (r : L2H.RoomH k A) : A.units + 64 < cLine := by have := r.un; omega
theorem roomH65 {k : Nat} {A : Around} (r : L2H.RoomH k A) : A.units + 65 < cLine := by have := r.un; omega
abbrev s__law_slip : Stmt := top 123
theorem sc__law_slip : FnScope ["_law_e", "_law_bases", "_law_kinds", "_law_found"] ["_law_e"] (defScope s__law_slip) := ⟨rfl, rfl, rfl, by decide +kernel, rfl, by decide +kernel, by decide +kernel⟩
theorem ok_slip (T : Txt w K mg) (T2 : Tx2 K mg) : ∃ f fd, mg "_law_slip" = some (.ref f) ∧ PySem.W.keepIn K (.ref f) = true ∧ Binds K fd ["_law_e"] [] ∧ ∀ {a : Addr} {oe : Obj} {cls : Value} {d : Option Addr} {A : Around} {outer : List Env} {s : Shared} {H : Hp} {args : Args} {Q : VK} {E : XK} (x : Ex),
    L2N.Zn cls d oe → (∃ vs, oe.data = .fields vs) → ExFly K H cls d x → x.ok → L2H.RoomH 1 A → A.handled = some (.ref a) → L2H.PinOk outer H s (a, oe) → Env0 P w K mg base A outer s H → BindsTo s fd args [("_law_e", .ref a)] → (∀ p H', Same H H' → H' p = some (.lst (x.words.map V.str)) → Q (.ref p) H') →
    codeAny (model P w) A (.call (.ref f) args) (CR (L2N.CX P w) outer P w H s Q E) s := by
  obtain ⟨f, fd, F, hm⟩ := T.f_law_slip
  obtain ⟨oc, od, dV, kV, doc, pm, an, cdv, ct, osl, efd, lk, hcd, _, _⟩ := F.ex
  refine ⟨f, fd, hm, F.kp, F.bindsN (fun _ _ _ _ _ _ us hl => match us, hl with | [_], _ => rfl), ?_⟩
  subst efd
  intro a oe cls d A outer s H args Q E x hz hf fly xo hr hh pin e0 hb k
  have sc := sc__law_slip
  refine run_hot (us := [.ref a]) (vs := [.ref a]) (p := (a, oe)) lk hcd sc hr pin e0 hb (.cons rfl .nil) rfl fun hr' => ?_
  have hu64 := roomH64 hr'
  have hu65 := roomH65 hr'
  obtain ⟨vs0, hv0⟩ := id hf
  have hot : L2H.HotC (L2H.cxH (L2N.CX P w) P w K mg base ["_law_e", "_law_bases", "_law_kinds", "_law_found"] "_law_slip" (defScope s__law_slip) f cdv A outer s H E (a, oe)) := ⟨(a, oe), ⟨hh, vs0, hv0, hz.2.2 vs0 hv0⟩, List.mem_cons_self⟩
  refine ⟨_, (pss_cons (ps_set (i := 1) sc.nd rfl (Or.inl rfl) (pe_lst (pa_cons (pe_callB (call_isX (by exact List.mem_cons_self) hz hf) (by rfl) T.b_isinstance (by decide +kernel) (pa_cons (pv 0) (pa_cons (pe_gref (T2.g "NotRight" (by decide))) pa_nil))) (pa_cons (pe_callB (call_isX (by exact List.mem_cons_self) hz hf) (by rfl) T.b_isinstance (by decide +kernel) (pa_cons (pv 0) (pa_cons (pe_gref (T2.g "NotKnown" (by decide))) pa_nil))) (pa_cons (pe_callB (call_isX (by exact List.mem_cons_self) hz hf) (by rfl) T.b_isinstance (by decide +kernel) (pa_cons (pv 0) (pa_cons (pe_gref (T2.g "NotPossible" (by decide))) pa_nil))) pa_nil)))))
      (pss_cons (ps_parH (i := 2) (j := 3) hot sc.nd rfl rfl (by decide) rfl rfl (pa_cons (pe_lst (pa_cons (pe_callB (call_isX (by exact List.mem_cons_self) hz hf) (by rfl) T.b_isinstance (by decide +kernel) (pa_cons (pv 0) (pa_cons (pe_bltn (v := .ty "ValueError") (u := .type "ValueError") rfl T.b_ValueError (by decide +kernel) rfl) pa_nil))) (pa_cons (pe_callB (call_isX (by exact List.mem_cons_self) hz hf) (by rfl) T.b_isinstance (by decide +kernel) (pa_cons (pv 0) (pa_cons (pe_bltn (v := .ty "LookupError") (u := .type "LookupError") rfl T.b_LookupError (by decide +kernel) rfl) pa_nil))) (pa_cons (pe_callB (call_isX (by exact List.mem_cons_self) hz hf) (by rfl) T.b_isinstance (by decide +kernel) (pa_cons (pv 0) (pa_cons (pe_bltn (v := .ty "ArithmeticError") (u := .type "ArithmeticError") rfl T.b_ArithmeticError (by decide +kernel) rfl) pa_nil))) pa_nil)))) (pa_cons (pe_lst pa_nil) pa_nil)) (by rfl))
      (pss_cons (ps_if (pt_val (pe_callB (call_isX (by exact List.mem_cons_self) hz hf) (by rfl) T.b_isinstance (by decide +kernel) (pa_cons (pv 0) (pa_cons (pe_gref (T2.g "Broken" (by decide))) pa_nil)))) (pss_one (ps_expr (pe_bm PySem.F.plainAttrs_list PySem.F.slot_list_append PySem.F.type_list_append mt_append (pv 3) (pa_cons (pe_lst (pa_cons pe_str (pa_cons (pe_callB call_reprU (by rfl) T.b_repr (by decide +kernel) (pa_cons (pe_xfU (by exact List.mem_cons_self) hz hf (pv 0)) pa_nil)) (pa_cons (pe_callB call_reprU (by rfl) T.b_repr (by decide +kernel) (pa_cons (pe_xfU (by exact List.mem_cons_self) hz hf (pv 0)) pa_nil)) pa_nil)))) pa_nil)))) pss_nil)
      (pss_cons (ps_if (pt_val (pe_callB (call_isX (by exact List.mem_cons_self) hz hf) (by rfl) T.b_isinstance (by decide +kernel) (pa_cons (pv 0) (pa_cons (pe_gref (T2.g "InUse" (by decide))) pa_nil)))) (pss_one (ps_expr (pe_bm PySem.F.plainAttrs_list PySem.F.slot_list_append PySem.F.type_list_append mt_append (pv 3) (pa_cons (pe_lst (pa_cons pe_str (pa_cons (pe_callB call_reprU (by rfl) T.b_repr (by decide +kernel) (pa_cons (pe_xfU (by exact List.mem_cons_self) hz hf (pv 0)) pa_nil)) pa_nil))) pa_nil)))) pss_nil)
      (pss_cons (ps_if (pt_val (pe_callB (call_isX (by exact List.mem_cons_self) hz hf) (by rfl) T.b_isinstance (by decide +kernel) (pa_cons (pv 0) (pa_cons (pe_gref (T2.g "InvalidIndex" (by decide))) pa_nil)))) (pss_one (ps_expr (pe_bm PySem.F.plainAttrs_list PySem.F.slot_list_append PySem.F.type_list_append mt_append (pv 3) (pa_cons (pe_lst (pa_cons pe_str (pa_cons (pe_callB call_reprU (by rfl) T.b_repr (by decide +kernel) (pa_cons (pe_xfU (by exact List.mem_cons_self) hz hf (pv 0)) pa_nil)) pa_nil))) pa_nil)))) pss_nil)
      (pss_cons (ps_if (pt_val (pe_callB (call_isX (by exact List.mem_cons_self) hz hf) (by rfl) T.b_isinstance (by decide +kernel) (pa_cons (pv 0) (pa_cons (pe_gref (T2.g "NothingToUndo" (by decide))) pa_nil)))) (pss_one (ps_expr (pe_bm PySem.F.plainAttrs_list PySem.F.slot_list_append PySem.F.type_list_append mt_append (pv 3) (pa_cons (pe_lst (pa_cons pe_str pa_nil)) pa_nil)))) pss_nil)
      (pss_cons (ps_if (pt_val (pe_callB (call_isX (by exact List.mem_cons_self) hz hf) (by rfl) T.b_isinstance (by decide +kernel) (pa_cons (pv 0) (pa_cons (pe_gref (T2.g "UnknownName" (by decide))) pa_nil)))) (pss_one (ps_expr (pe_bm PySem.F.plainAttrs_list PySem.F.slot_list_append PySem.F.type_list_append mt_append (pv 3) (pa_cons (pe_lst (pa_cons pe_str (pa_cons (pe_callB call_reprU (by rfl) T.b_repr (by decide +kernel) (pa_cons (pe_xfU (by exact List.mem_cons_self) hz hf (pv 0)) pa_nil)) pa_nil))) pa_nil)))) pss_nil)
      (pss_one (ps_ret (pe_ifExp (PW.pt (pw_and (pt_cmpR (op_eqU (by exact hu64)) (pe_callB (call_lenU) (by rfl) T.b_len (by decide +kernel) (pa_cons (pv 3) pa_nil)) pe_int (nomark _)) (pw_and (pt_cmpR (op_eqU (by exact hu64)) (pv 1) (pv 2) (nomark _)) (pw_and1 (pt_cmpR (op_eqU (by exact hu64)) (pe_bm PySem.F.plainAttrs_list PySem.F.slot_list_count PySem.F.type_list_count (mt_lcountD (by exact hu65)) (pv 1) (pa_cons pe_bl pa_nil)) pe_int (nomark _)))))) (pe_ix ix_seq (pv 3) pe_int (fun _ _ => rfl)) (pe_lst (pa_cons pe_str pa_nil)))))))))))), ?_⟩
  walk_at "w"
  cases x with
  | broken i z =>
    obtain ⟨ec, dd, ed, edd⟩ := id fly
    have nm : (Ex.broken i z).name = ("Broken" : Str) := rfl
    refine w_isx T2 fly "Broken" rfl "NotRight" (by decide) false (by decide) ?_
    walk_at "w"
    refine w_isx T2 fly "Broken" rfl "NotKnown" (by decide) false (by decide) ?_
    walk_at "w"
    refine w_isx T2 fly "Broken" rfl "NotPossible" (by decide) true (by decide) ?_
    walk_at "w"
    refine ⟨by walk_at "sz", fun p1 hp1 => ?_⟩
    have s1 := same_new (o := .lst [.bl false, .bl false, .bl true]) hp1 (Same.refl H)
    walk_at "w"
    refine w_isb T2 (fly.same s1) "Broken" rfl "ValueError" (by decide) false (by decide) ?_
    walk_at "w"
    refine w_isb T2 (fly.same s1) "Broken" rfl "LookupError" (by decide) false (by decide) ?_
    walk_at "w"
    refine w_isb T2 (fly.same s1) "Broken" rfl "ArithmeticError" (by decide) true (by decide) ?_
    walk_at "w"
    refine ⟨by walk_at "sz", fun p2 hp2 => ?_⟩
    walk_at "w"
    refine ⟨by walk_at "sz", fun p3 hp3 => ?_⟩
    have e1 := at_new (o := .lst []) hp3 (at_new (o := .lst [.bl false, .bl false, .bl true]) hp2 (upd_same (H := H) (a := p1) (o := .lst [.bl false, .bl false, .bl true])))
    have e2 := at_new (o := .lst []) hp3 (upd_same (H := upd H p1 (.lst [.bl false, .bl false, .bl true])) (a := p2) (o := .lst [.bl false, .bl false, .bl true]))
    have e3 : upd (upd (upd H p1 (.lst [.bl false, .bl false, .bl true])) p2 (.lst [.bl false, .bl false, .bl true])) p3 (.lst []) p3 = some (.lst []) := upd_same
    have s3 := same_new (o := .lst []) hp3 (same_new (o := .lst [.bl false, .bl false, .bl true]) hp2 s1)
    have n13 := ne_of_none (at_new (o := .lst [.bl false, .bl false, .bl true]) hp2 (upd_same (H := H) (a := p1) (o := .lst [.bl false, .bl false, .bl true]))) hp3
    have n23 := ne_of_none (upd_same (H := upd H p1 (.lst [.bl false, .bl false, .bl true])) (a := p2) (o := .lst [.bl false, .bl false, .bl true])) hp3
    have hp0 : H p3 = none := none_of_new (none_of_new hp3)
    generalize upd (upd (upd H p1 (.lst [.bl false, .bl false, .bl true])) p2 (.lst [.bl false, .bl false, .bl true])) p3 (.lst []) = H3 at e1 e2 e3 s3 ⊢
    have fly3 := fly.same s3
    walk_at "w"
    refine w_ifb true (fun q hq => ?_) (fun _ => ?_) (fun c => nomatch c)
    · walk_at "w"
      exact w_isx T2 fly3 "Broken" rfl "Broken" (by decide) true (by decide) ⟨_, rfl, hq⟩
    walk_at "w"
    refine ⟨.inl ⟨rfl, _, SqL.of e3⟩, ?_⟩
    walk_at "w"
    refine w_xfU ?_
    walk_at "w"
    refine ⟨rfl, He.ga K "Broken", dd, _, _, ec, T2.xf _ (by decide), T2.no ("Broken", "index") (by decide), ed, s3 _ _ edd, rfl, ?_⟩
    refine w_repr (.inl ⟨_, rfl, log_small (Nat.lt_of_lt_of_le (show ((i : Nat) : Int).natAbs < 1001 by have := (show i ≤ 1000 from xo.1); omega) (by decide))⟩) ?_
    walk_at "w"
    refine w_xfU ?_
    walk_at "w"
    refine ⟨rfl, He.ga K "Broken", dd, _, _, ec, T2.xf _ (by decide), T2.no ("Broken", "shown") (by decide), ed, s3 _ _ edd, rfl, ?_⟩
    refine w_repr xo.2 ?_
    walk_at "w"
    refine ⟨by walk_at "sz", fun p4 hp4 => ?_⟩
    have ne34 : p3 ≠ p4 := ne_of_none e3 hp4
    refine ⟨p3, [], _, rfl, rfl, at_new hp4 e3, by walk_at "sz", ?_⟩
    walk_at "w"
    have s4 : Same H (upd (upd H3 p4 (.lst (List.map V.str (Ex.broken i z).words))) p3 (.lst ([] ++ [V.ref p4]))) := fun x o e => at_mut (ne_of_none e hp0) (at_new hp4 (s3 _ _ e))
    have e1 := at_mut (o := .lst ([] ++ [V.ref p4])) n13 (at_new (o := .lst (List.map V.str (Ex.broken i z).words)) hp4 e1)
    have e2 := at_mut (o := .lst ([] ++ [V.ref p4])) n23 (at_new (o := .lst (List.map V.str (Ex.broken i z).words)) hp4 e2)
    have e4 := at_mut (o := .lst ([] ++ [V.ref p4])) ne34.symm (upd_same (H := H3) (a := p4) (o := .lst (List.map V.str (Ex.broken i z).words)))
    have e3 : upd (upd H3 p4 (.lst (List.map V.str (Ex.broken i z).words))) p3 (.lst ([] ++ [V.ref p4])) p3 = some (.lst [.ref p4]) := upd_same
    have fly4 := fly.same s4
    refine w_ifb false (fun q hq => ?_) (fun c => nomatch c) (fun _ => ?_)
    · walk_at "w"
      exact w_isx T2 fly4 "Broken" rfl "InUse" (by decide) false (by decide) ⟨_, rfl, hq⟩
    walk_at "w"
    refine w_ifb false (fun q hq => ?_) (fun c => nomatch c) (fun _ => ?_)
    · walk_at "w"
      exact w_isx T2 fly4 "Broken" rfl "InvalidIndex" (by decide) false (by decide) ⟨_, rfl, hq⟩
    walk_at "w"
    refine w_ifb false (fun q hq => ?_) (fun c => nomatch c) (fun _ => ?_)
    · walk_at "w"
      exact w_isx T2 fly4 "Broken" rfl "NothingToUndo" (by decide) false (by decide) ⟨_, rfl, hq⟩
    walk_at "w"
    refine w_ifb false (fun q hq => ?_) (fun c => nomatch c) (fun _ => ?_)
    · walk_at "w"
      exact w_isx T2 fly4 "Broken" rfl "UnknownName" (by decide) false (by decide) ⟨_, rfl, hq⟩
    walk_at "w"
    refine w_ifE ?_
    walk_at "w"
    refine w_lenL e3 ?_
    walk_at "w"
    rw [show decide ((([V.ref p4].length : Nat) : Int) = 1) = true from rfl]
    walk_at "w"
    refine w_eqD (.lst (SqL.of e1) (.cons (.bl _) (.cons (.bl _) (.cons (.bl _) .nil)))) (.lst (SqL.of e2) (.cons (.bl _) (.cons (.bl _) (.cons (.bl _) .nil)))) rfl rfl (by decide) ?_
    refine ⟨true, rfl, ?_⟩
    walk_at "w"
    refine ⟨.inl ⟨rfl, _, SqL.of e1⟩, ?_⟩
    walk_at "w"
    refine ⟨p1, [.bool false, .bool false, .bool true], .bl true, .bool true, rfl, rfl, .lst (SqL.of e1) (.cons (.bl _) (.cons (.bl _) (.cons (.bl _) .nil))), .bl true, rfl, rfl, by decide, ?_⟩
    refine w_eqI ?_
    refine ⟨true, rfl, ?_⟩
    walk_at "w"
    refine w_ixLa e3 atI_0 ?_
    exact k p4 _ s4 e4
  | inuse i =>
    obtain ⟨ec, dd, ed, edd⟩ := id fly
    have nm : (Ex.inuse i).name = ("InUse" : Str) := rfl
    refine w_isx T2 fly "InUse" rfl "NotRight" (by decide) false (by decide) ?_
    walk_at "w"
    refine w_isx T2 fly "InUse" rfl "NotKnown" (by decide) true (by decide) ?_
    walk_at "w"
    refine w_isx T2 fly "InUse" rfl "NotPossible" (by decide) false (by decide) ?_
    walk_at "w"
    refine ⟨by walk_at "sz", fun p1 hp1 => ?_⟩
    have s1 := same_new (o := .lst [.bl false, .bl true, .bl false]) hp1 (Same.refl H)
    walk_at "w"
    refine w_isb T2 (fly.same s1) "InUse" rfl "ValueError" (by decide) false (by decide) ?_
    walk_at "w"
    refine w_isb T2 (fly.same s1) "InUse" rfl "LookupError" (by decide) true (by decide) ?_
    walk_at "w"
    refine w_isb T2 (fly.same s1) "InUse" rfl "ArithmeticError" (by decide) false (by decide) ?_
    walk_at "w"
    refine ⟨by walk_at "sz", fun p2 hp2 => ?_⟩
    walk_at "w"
    refine ⟨by walk_at "sz", fun p3 hp3 => ?_⟩
    have e1 := at_new (o := .lst []) hp3 (at_new (o := .lst [.bl false, .bl true, .bl false]) hp2 (upd_same (H := H) (a := p1) (o := .lst [.bl false, .bl true, .bl false])))
    have e2 := at_new (o := .lst []) hp3 (upd_same (H := upd H p1 (.lst [.bl false, .bl true, .bl false])) (a := p2) (o := .lst [.bl false, .bl true, .bl false]))
    have e3 : upd (upd (upd H p1 (.lst [.bl false, .bl true, .bl false])) p2 (.lst [.bl false, .bl true, .bl false])) p3 (.lst []) p3 = some (.lst []) := upd_same
    have s3 := same_new (o := .lst []) hp3 (same_new (o := .lst [.bl false, .bl true, .bl false]) hp2 s1)
    have n13 := ne_of_none (at_new (o := .lst [.bl false, .bl true, .bl false]) hp2 (upd_same (H := H) (a := p1) (o := .lst [.bl false, .bl true, .bl false]))) hp3
    have n23 := ne_of_none (upd_same (H := upd H p1 (.lst [.bl false, .bl true, .bl false])) (a := p2) (o := .lst [.bl false, .bl true, .bl false])) hp3
    have hp0 : H p3 = none := none_of_new (none_of_new hp3)
    generalize upd (upd (upd H p1 (.lst [.bl false, .bl true, .bl false])) p2 (.lst [.bl false, .bl true, .bl false])) p3 (.lst []) = H3 at e1 e2 e3 s3 ⊢
    have fly3 := fly.same s3
    walk_at "w"
    refine w_ifb false (fun q hq => ?_) (fun c => nomatch c) (fun _ => ?_)
    · walk_at "w"
      exact w_isx T2 fly3 "InUse" rfl "Broken" (by decide) false (by decide) ⟨_, rfl, hq⟩
    walk_at "w"
    refine w_ifb true (fun q hq => ?_) (fun _ => ?_) (fun c => nomatch c)
    · walk_at "w"
      exact w_isx T2 fly3 "InUse" rfl "InUse" (by decide) true (by decide) ⟨_, rfl, hq⟩
    walk_at "w"
    refine ⟨.inl ⟨rfl, _, SqL.of e3⟩, ?_⟩
    walk_at "w"
    refine w_xfU ?_
    walk_at "w"
    refine ⟨rfl, He.ga K "InUse", dd, _, _, ec, T2.xf _ (by decide), T2.no ("InUse", "index") (by decide), ed, s3 _ _ edd, rfl, ?_⟩
    refine w_repr (.inl ⟨_, rfl, log_small (Nat.lt_of_lt_of_le (show ((i : Nat) : Int).natAbs < 1001 by have := (show i ≤ 1000 from xo); omega) (by decide))⟩) ?_
    walk_at "w"
    refine ⟨by walk_at "sz", fun p4 hp4 => ?_⟩
    have ne34 : p3 ≠ p4 := ne_of_none e3 hp4
    refine ⟨p3, [], _, rfl, rfl, at_new hp4 e3, by walk_at "sz", ?_⟩
    walk_at "w"
    have s4 : Same H (upd (upd H3 p4 (.lst (List.map V.str (Ex.inuse i).words))) p3 (.lst ([] ++ [V.ref p4]))) := fun x o e => at_mut (ne_of_none e hp0) (at_new hp4 (s3 _ _ e))
    have e1 := at_mut (o := .lst ([] ++ [V.ref p4])) n13 (at_new (o := .lst (List.map V.str (Ex.inuse i).words)) hp4 e1)
    have e2 := at_mut (o := .lst ([] ++ [V.ref p4])) n23 (at_new (o := .lst (List.map V.str (Ex.inuse i).words)) hp4 e2)
    have e4 := at_mut (o := .lst ([] ++ [V.ref p4])) ne34.symm (upd_same (H := H3) (a := p4) (o := .lst (List.map V.str (Ex.inuse i).words)))
    have e3 : upd (upd H3 p4 (.lst (List.map V.str (Ex.inuse i).words))) p3 (.lst ([] ++ [V.ref p4])) p3 = some (.lst [.ref p4]) := upd_same
    have fly4 := fly.same s4
    refine w_ifb false (fun q hq => ?_) (fun c => nomatch c) (fun _ => ?_)
    · walk_at "w"
      exact w_isx T2 fly4 "InUse" rfl "InvalidIndex" (by decide) false (by decide) ⟨_, rfl, hq⟩
    walk_at "w"
    refine w_ifb false (fun q hq => ?_) (fun c => nomatch c) (fun _ => ?_)
    · walk_at "w"
      exact w_isx T2 fly4 "InUse" rfl "NothingToUndo" (by decide) false (by decide) ⟨_, rfl, hq⟩
    walk_at "w"
    refine w_ifb false (fun q hq => ?_) (fun c => nomatch c) (fun _ => ?_)
    · walk_at "w"
      exact w_isx T2 fly4 "InUse" rfl "UnknownName" (by decide) false (by decide) ⟨_, rfl, hq⟩
    walk_at "w"
    refine w_ifE ?_
    walk_at "w"
    refine w_lenL e3 ?_
    walk_at "w"
    rw [show decide ((([V.ref p4].length : Nat) : Int) = 1) = true from rfl]
    walk_at "w"
    refine w_eqD (.lst (SqL.of e1) (.cons (.bl _) (.cons (.bl _) (.cons (.bl _) .nil)))) (.lst (SqL.of e2) (.cons (.bl _) (.cons (.bl _) (.cons (.bl _) .nil)))) rfl rfl (by decide) ?_
    refine ⟨true, rfl, ?_⟩
    walk_at "w"
    refine ⟨.inl ⟨rfl, _, SqL.of e1⟩, ?_⟩
    walk_at "w"
    refine ⟨p1, [.bool false, .bool true, .bool false], .bl true, .bool true, rfl, rfl, .lst (SqL.of e1) (.cons (.bl _) (.cons (.bl _) (.cons (.bl _) .nil))), .bl true, rfl, rfl, by decide, ?_⟩
    refine w_eqI ?_
    refine ⟨true, rfl, ?_⟩
    walk_at "w"
    refine w_ixLa e3 atI_0 ?_
    exact k p4 _ s4 e4
  | index i =>
    obtain ⟨ec, dd, ed, edd⟩ := id fly
    have nm : (Ex.index i).name = ("InvalidIndex" : Str) := rfl
    refine w_isx T2 fly "InvalidIndex" rfl "NotRight" (by decide) true (by decide) ?_
    walk_at "w"
    refine w_isx T2 fly "InvalidIndex" rfl "NotKnown" (by decide) false (by decide) ?_
    walk_at "w"
    refine w_isx T2 fly "InvalidIndex" rfl "NotPossible" (by decide) false (by decide) ?_
    walk_at "w"
    refine ⟨by walk_at "sz", fun p1 hp1 => ?_⟩
    have s1 := same_new (o := .lst [.bl true, .bl false, .bl false]) hp1 (Same.refl H)
    walk_at "w"
    refine w_isb T2 (fly.same s1) "InvalidIndex" rfl "ValueError" (by decide) true (by decide) ?_
    walk_at "w"
    refine w_isb T2 (fly.same s1) "InvalidIndex" rfl "LookupError" (by decide) false (by decide) ?_
    walk_at "w"
    refine w_isb T2 (fly.same s1) "InvalidIndex" rfl "ArithmeticError" (by decide) false (by decide) ?_
    walk_at "w"
    refine ⟨by walk_at "sz", fun p2 hp2 => ?_⟩
    walk_at "w"
    refine ⟨by walk_at "sz", fun p3 hp3 => ?_⟩
    have e1 := at_new (o := .lst []) hp3 (at_new (o := .lst [.bl true, .bl false, .bl false]) hp2 (upd_same (H := H) (a := p1) (o := .lst [.bl true, .bl false, .bl false])))
    have e2 := at_new (o := .lst []) hp3 (upd_same (H := upd H p1 (.lst [.bl true, .bl false, .bl false])) (a := p2) (o := .lst [.bl true, .bl false, .bl false]))
    have e3 : upd (upd (upd H p1 (.lst [.bl true, .bl false, .bl false])) p2 (.lst [.bl true, .bl false, .bl false])) p3 (.lst []) p3 = some (.lst []) := upd_same
    have s3 := same_new (o := .lst []) hp3 (same_new (o := .lst [.bl true, .bl false, .bl false]) hp2 s1)
    have n13 := ne_of_none (at_new (o := .lst [.bl true, .bl false, .bl false]) hp2 (upd_same (H := H) (a := p1) (o := .lst [.bl true, .bl false, .bl false]))) hp3
    have n23 := ne_of_none (upd_same (H := upd H p1 (.lst [.bl true, .bl false, .bl false])) (a := p2) (o := .lst [.bl true, .bl false, .bl false])) hp3
    have hp0 : H p3 = none := none_of_new (none_of_new hp3)
    generalize upd (upd (upd H p1 (.lst [.bl true, .bl false, .bl false])) p2 (.lst [.bl true, .bl false, .bl false])) p3 (.lst []) = H3 at e1 e2 e3 s3 ⊢
    have fly3 := fly.same s3
    walk_at "w"
    refine w_ifb false (fun q hq => ?_) (fun c => nomatch c) (fun _ => ?_)
    · walk_at "w"
      exact w_isx T2 fly3 "InvalidIndex" rfl "Broken" (by decide) false (by decide) ⟨_, rfl, hq⟩
    walk_at "w"
    refine w_ifb false (fun q hq => ?_) (fun c => nomatch c) (fun _ => ?_)
    · walk_at "w"
      exact w_isx T2 fly3 "InvalidIndex" rfl "InUse" (by decide) false (by decide) ⟨_, rfl, hq⟩
    walk_at "w"
    refine w_ifb true (fun q hq => ?_) (fun _ => ?_) (fun c => nomatch c)
    · walk_at "w"
      exact w_isx T2 fly3 "InvalidIndex" rfl "InvalidIndex" (by decide) true (by decide) ⟨_, rfl, hq⟩
    walk_at "w"
    refine ⟨.inl ⟨rfl, _, SqL.of e3⟩, ?_⟩
    walk_at "w"
    refine w_xfU ?_
    walk_at "w"
    refine ⟨rfl, He.ga K "InvalidIndex", dd, _, _, ec, T2.xf _ (by decide), T2.no ("InvalidIndex", "given") (by decide), ed, s3 _ _ edd, rfl, ?_⟩
    refine w_repr (.inl ⟨_, rfl, log_small (Nat.lt_of_lt_of_le (show ((i : Nat) : Int).natAbs < 1001 by have := (show i ≤ 1000 from xo); omega) (by decide))⟩) ?_
    walk_at "w"
    refine ⟨by walk_at "sz", fun p4 hp4 => ?_⟩
    have ne34 : p3 ≠ p4 := ne_of_none e3 hp4
    refine ⟨p3, [], _, rfl, rfl, at_new hp4 e3, by walk_at "sz", ?_⟩
    walk_at "w"
    have s4 : Same H (upd (upd H3 p4 (.lst (List.map V.str (Ex.index i).words))) p3 (.lst ([] ++ [V.ref p4]))) := fun x o e => at_mut (ne_of_none e hp0) (at_new hp4 (s3 _ _ e))
    have e1 := at_mut (o := .lst ([] ++ [V.ref p4])) n13 (at_new (o := .lst (List.map V.str (Ex.index i).words)) hp4 e1)
    have e2 := at_mut (o := .lst ([] ++ [V.ref p4])) n23 (at_new (o := .lst (List.map V.str (Ex.index i).words)) hp4 e2)
    have e4 := at_mut (o := .lst ([] ++ [V.ref p4])) ne34.symm (upd_same (H := H3) (a := p4) (o := .lst (List.map V.str (Ex.index i).words)))
    have e3 : upd (upd H3 p4 (.lst (List.map V.str (Ex.index i).words))) p3 (.lst ([] ++ [V.ref p4])) p3 = some (.lst [.ref p4]) := upd_same
    have fly4 := fly.same s4
    refine w_ifb false (fun q hq => ?_) (fun c => nomatch c) (fun _ => ?_)
    · walk_at "w"
      exact w_isx T2 fly4 "InvalidIndex" rfl "NothingToUndo" (by decide) false (by decide) ⟨_, rfl, hq⟩
    walk_at "w"
    refine w_ifb false (fun q hq => ?_) (fun c => nomatch c) (fun _ => ?_)
    · walk_at "w"
      exact w_isx T2 fly4 "InvalidIndex" rfl "UnknownName" (by decide) false (by decide) ⟨_, rfl, hq⟩
    walk_at "w"
    refine w_ifE ?_
    walk_at "w"
    refine w_lenL e3 ?_
    walk_at "w"
    rw [show decide ((([V.ref p4].length : Nat) : Int) = 1) = true from rfl]
    walk_at "w"
    refine w_eqD (.lst (SqL.of e1) (.cons (.bl _) (.cons (.bl _) (.cons (.bl _) .nil)))) (.lst (SqL.of e2) (.cons (.bl _) (.cons (.bl _) (.cons (.bl _) .nil)))) rfl rfl (by decide) ?_
    refine ⟨true, rfl, ?_⟩
    walk_at "w"
    refine ⟨.inl ⟨rfl, _, SqL.of e1⟩, ?_⟩
    walk_at "w"
    refine ⟨p1, [.bool true, .bool false, .bool false], .bl true, .bool true, rfl, rfl, .lst (SqL.of e1) (.cons (.bl _) (.cons (.bl _) (.cons (.bl _) .nil))), .bl true, rfl, rfl, by decide, ?_⟩
    refine w_eqI ?_
    refine ⟨true, rfl, ?_⟩
    walk_at "w"
    refine w_ixLa e3 atI_0 ?_
    exact k p4 _ s4 e4
  | unknown t =>
    obtain ⟨ec, dd, ed, edd⟩ := id fly
    have nm : (Ex.unknown t).name = ("UnknownName" : Str) := rfl
    refine w_isx T2 fly "UnknownName" rfl "NotRight" (by decide) false (by decide) ?_
    walk_at "w"
    refine w_isx T2 fly "UnknownName" rfl "NotKnown" (by decide) true (by decide) ?_
    walk_at "w"
    refine w_isx T2 fly "UnknownName" rfl "NotPossible" (by decide) false (by decide) ?_
    walk_at "w"
    refine ⟨by walk_at "sz", fun p1 hp1 => ?_⟩
    have s1 := same_new (o := .lst [.bl false, .bl true, .bl false]) hp1 (Same.refl H)
    walk_at "w"
    refine w_isb T2 (fly.same s1) "UnknownName" rfl "ValueError" (by decide) false (by decide) ?_
    walk_at "w"
    refine w_isb T2 (fly.same s1) "UnknownName" rfl "LookupError" (by decide) true (by decide) ?_
    walk_at "w"
    refine w_isb T2 (fly.same s1) "UnknownName" rfl "ArithmeticError" (by decide) false (by decide) ?_
    walk_at "w"
    refine ⟨by walk_at "sz", fun p2 hp2 => ?_⟩
    walk_at "w"
    refine ⟨by walk_at "sz", fun p3 hp3 => ?_⟩
    have e1 := at_new (o := .lst []) hp3 (at_new (o := .lst [.bl false, .bl true, .bl false]) hp2 (upd_same (H := H) (a := p1) (o := .lst [.bl false, .bl true, .bl false])))
    have e2 := at_new (o := .lst []) hp3 (upd_same (H := upd H p1 (.lst [.bl false, .bl true, .bl false])) (a := p2) (o := .lst [.bl false, .bl true, .bl false]))
    have e3 : upd (upd (upd H p1 (.lst [.bl false, .bl true, .bl false])) p2 (.lst [.bl false, .bl true, .bl false])) p3 (.lst []) p3 = some (.lst []) := upd_same
    have s3 := same_new (o := .lst []) hp3 (same_new (o := .lst [.bl false, .bl true, .bl false]) hp2 s1)
    have n13 := ne_of_none (at_new (o := .lst [.bl false, .bl true, .bl false]) hp2 (upd_same (H := H) (a := p1) (o := .lst [.bl false, .bl true, .bl false]))) hp3
    have n23 := ne_of_none (upd_same (H := upd H p1 (.lst [.bl false, .bl true, .bl false])) (a := p2) (o := .lst [.bl false, .bl true, .bl false])) hp3
    have hp0 : H p3 = none := none_of_new (none_of_new hp3)
    generalize upd (upd (upd H p1 (.lst [.bl false, .bl true, .bl false])) p2 (.lst [.bl false, .bl true, .bl false])) p3 (.lst []) = H3 at e1 e2 e3 s3 ⊢
    have fly3 := fly.same s3
    walk_at "w"
    refine w_ifb false (fun q hq => ?_) (fun c => nomatch c) (fun _ => ?_)
    · walk_at "w"
      exact w_isx T2 fly3 "UnknownName" rfl "Broken" (by decide) false (by decide) ⟨_, rfl, hq⟩
    walk_at "w"
    refine w_ifb false (fun q hq => ?_) (fun c => nomatch c) (fun _ => ?_)
    · walk_at "w"
      exact w_isx T2 fly3 "UnknownName" rfl "InUse" (by decide) false (by decide) ⟨_, rfl, hq⟩
    walk_at "w"
    refine w_ifb false (fun q hq => ?_) (fun c => nomatch c) (fun _ => ?_)
    · walk_at "w"
      exact w_isx T2 fly3 "UnknownName" rfl "InvalidIndex" (by decide) false (by decide) ⟨_, rfl, hq⟩
    walk_at "w"
    refine w_ifb false (fun q hq => ?_) (fun c => nomatch c) (fun _ => ?_)
    · walk_at "w"
      exact w_isx T2 fly3 "UnknownName" rfl "NothingToUndo" (by decide) false (by decide) ⟨_, rfl, hq⟩
    walk_at "w"
    refine w_ifb true (fun q hq => ?_) (fun _ => ?_) (fun c => nomatch c)
    · walk_at "w"
      exact w_isx T2 fly3 "UnknownName" rfl "UnknownName" (by decide) true (by decide) ⟨_, rfl, hq⟩
    walk_at "w"
    refine ⟨.inl ⟨rfl, _, SqL.of e3⟩, ?_⟩
    walk_at "w"
    refine w_xfU ?_
    walk_at "w"
    refine ⟨rfl, He.ga K "UnknownName", dd, _, _, ec, T2.xf _ (by decide), T2.no ("UnknownName", "given") (by decide), ed, s3 _ _ edd, rfl, ?_⟩
    refine w_reprS (rp_name xo) ?_
    walk_at "w"
    refine ⟨by walk_at "sz", fun p4 hp4 => ?_⟩
    have ne34 : p3 ≠ p4 := ne_of_none e3 hp4
    refine ⟨p3, [], _, rfl, rfl, at_new hp4 e3, by walk_at "sz", ?_⟩
    walk_at "w"
    have s4 : Same H (upd (upd H3 p4 (.lst (List.map V.str (Ex.unknown t).words))) p3 (.lst ([] ++ [V.ref p4]))) := fun x o e => at_mut (ne_of_none e hp0) (at_new hp4 (s3 _ _ e))
    have e1 := at_mut (o := .lst ([] ++ [V.ref p4])) n13 (at_new (o := .lst (List.map V.str (Ex.unknown t).words)) hp4 e1)
    have e2 := at_mut (o := .lst ([] ++ [V.ref p4])) n23 (at_new (o := .lst (List.map V.str (Ex.unknown t).words)) hp4 e2)
    have e4 := at_mut (o := .lst ([] ++ [V.ref p4])) ne34.symm (upd_same (H := H3) (a := p4) (o := .lst (List.map V.str (Ex.unknown t).words)))
    have e3 : upd (upd H3 p4 (.lst (List.map V.str (Ex.unknown t).words))) p3 (.lst ([] ++ [V.ref p4])) p3 = some (.lst [.ref p4]) := upd_same
    have fly4 := fly.same s4
    refine w_ifE ?_
    walk_at "w"
    refine w_lenL e3 ?_
    walk_at "w"
    rw [show decide ((([V.ref p4].length : Nat) : Int) = 1) = true from rfl]
    walk_at "w"
    refine w_eqD (.lst (SqL.of e1) (.cons (.bl _) (.cons (.bl _) (.cons (.bl _) .nil)))) (.lst (SqL.of e2) (.cons (.bl _) (.cons (.bl _) (.cons (.bl _) .nil)))) rfl rfl (by decide) ?_
    refine ⟨true, rfl, ?_⟩
    walk_at "w"
    refine ⟨.inl ⟨rfl, _, SqL.of e1⟩, ?_⟩
    walk_at "w"
    refine ⟨p1, [.bool false, .bool true, .bool false], .bl true, .bool true, rfl, rfl, .lst (SqL.of e1) (.cons (.bl _) (.cons (.bl _) (.cons (.bl _) .nil))), .bl true, rfl, rfl, by decide, ?_⟩
    refine w_eqI ?_
    refine ⟨true, rfl, ?_⟩
    walk_at "w"
    refine w_ixLa e3 atI_0 ?_
    exact k p4 _ s4 e4
  | nothing =>
    have nm : (Ex.nothing).name = ("NothingToUndo" : Str) := rfl
    refine w_isx T2 fly "NothingToUndo" rfl "NotRight" (by decide) false (by decide) ?_
    walk_at "w"
    refine w_isx T2 fly "NothingToUndo" rfl "NotKnown" (by decide) true (by decide) ?_
    walk_at "w"
    refine w_isx T2 fly "NothingToUndo" rfl "NotPossible" (by decide) false (by decide) ?_
    walk_at "w"
    refine ⟨by walk_at "sz", fun p1 hp1 => ?_⟩
    have s1 := same_new (o := .lst [.bl false, .bl true, .bl false]) hp1 (Same.refl H)
    walk_at "w"
    refine w_isb T2 (fly.same s1) "NothingToUndo" rfl "ValueError" (by decide) false (by decide) ?_
    walk_at "w"
    refine w_isb T2 (fly.same s1) "NothingToUndo" rfl "LookupError" (by decide) true (by decide) ?_
    walk_at "w"
    refine w_isb T2 (fly.same s1) "NothingToUndo" rfl "ArithmeticError" (by decide) false (by decide) ?_
    walk_at "w"
    refine ⟨by walk_at "sz", fun p2 hp2 => ?_⟩
    walk_at "w"
    refine ⟨by walk_at "sz", fun p3 hp3 => ?_⟩
    have e1 := at_new (o := .lst []) hp3 (at_new (o := .lst [.bl false, .bl true, .bl false]) hp2 (upd_same (H := H) (a := p1) (o := .lst [.bl false, .bl true, .bl false])))
    have e2 := at_new (o := .lst []) hp3 (upd_same (H := upd H p1 (.lst [.bl false, .bl true, .bl false])) (a := p2) (o := .lst [.bl false, .bl true, .bl false]))
    have e3 : upd (upd (upd H p1 (.lst [.bl false, .bl true, .bl false])) p2 (.lst [.bl false, .bl true, .bl false])) p3 (.lst []) p3 = some (.lst []) := upd_same
    have s3 := same_new (o := .lst []) hp3 (same_new (o := .lst [.bl false, .bl true, .bl false]) hp2 s1)
    have n13 := ne_of_none (at_new (o := .lst [.bl false, .bl true, .bl false]) hp2 (upd_same (H := H) (a := p1) (o := .lst [.bl false, .bl true, .bl false]))) hp3
    have n23 := ne_of_none (upd_same (H := upd H p1 (.lst [.bl false, .bl true, .bl false])) (a := p2) (o := .lst [.bl false, .bl true, .bl false])) hp3
    have hp0 : H p3 = none := none_of_new (none_of_new hp3)
    generalize upd (upd (upd H p1 (.lst [.bl false, .bl true, .bl false])) p2 (.lst [.bl false, .bl true, .bl false])) p3 (.lst []) = H3 at e1 e2 e3 s3 ⊢
    have fly3 := fly.same s3
    walk_at "w"
    refine w_ifb false (fun q hq => ?_) (fun c => nomatch c) (fun _ => ?_)
    · walk_at "w"
      exact w_isx T2 fly3 "NothingToUndo" rfl "Broken" (by decide) false (by decide) ⟨_, rfl, hq⟩
    walk_at "w"
    refine w_ifb false (fun q hq => ?_) (fun c => nomatch c) (fun _ => ?_)
    · walk_at "w"
      exact w_isx T2 fly3 "NothingToUndo" rfl "InUse" (by decide) false (by decide) ⟨_, rfl, hq⟩
    walk_at "w"
    refine w_ifb false (fun q hq => ?_) (fun c => nomatch c) (fun _ => ?_)
    · walk_at "w"
      exact w_isx T2 fly3 "NothingToUndo" rfl "InvalidIndex" (by decide) false (by decide) ⟨_, rfl, hq⟩
    walk_at "w"
    refine w_ifb true (fun q hq => ?_) (fun _ => ?_) (fun c => nomatch c)
    · walk_at "w"
      exact w_isx T2 fly3 "NothingToUndo" rfl "NothingToUndo" (by decide) true (by decide) ⟨_, rfl, hq⟩
    walk_at "w"
    refine ⟨.inl ⟨rfl, _, SqL.of e3⟩, ?_⟩
    walk_at "w"
    refine ⟨by walk_at "sz", fun p4 hp4 => ?_⟩
    have ne34 : p3 ≠ p4 := ne_of_none e3 hp4
    refine ⟨p3, [], _, rfl, rfl, at_new hp4 e3, by walk_at "sz", ?_⟩
    walk_at "w"
    have s4 : Same H (upd (upd H3 p4 (.lst (List.map V.str (Ex.nothing).words))) p3 (.lst ([] ++ [V.ref p4]))) := fun x o e => at_mut (ne_of_none e hp0) (at_new hp4 (s3 _ _ e))
    have e1 := at_mut (o := .lst ([] ++ [V.ref p4])) n13 (at_new (o := .lst (List.map V.str (Ex.nothing).words)) hp4 e1)
    have e2 := at_mut (o := .lst ([] ++ [V.ref p4])) n23 (at_new (o := .lst (List.map V.str (Ex.nothing).words)) hp4 e2)
    have e4 := at_mut (o := .lst ([] ++ [V.ref p4])) ne34.symm (upd_same (H := H3) (a := p4) (o := .lst (List.map V.str (Ex.nothing).words)))
    have e3 : upd (upd H3 p4 (.lst (List.map V.str (Ex.nothing).words))) p3 (.lst ([] ++ [V.ref p4])) p3 = some (.lst [.ref p4]) := upd_same
    have fly4 := fly.same s4
    refine w_ifb false (fun q hq => ?_) (fun c => nomatch c) (fun _ => ?_)
    · walk_at "w"
      exact w_isx T2 fly4 "NothingToUndo" rfl "UnknownName" (by decide) false (by decide) ⟨_, rfl, hq⟩
    walk_at "w"
    refine w_ifE ?_
    walk_at "w"
    refine w_lenL e3 ?_
    walk_at "w"
    rw [show decide ((([V.ref p4].length : Nat) : Int) = 1) = true from rfl]
    walk_at "w"
    refine w_eqD (.lst (SqL.of e1) (.cons (.bl _) (.cons (.bl _) (.cons (.bl _) .nil)))) (.lst (SqL.of e2) (.cons (.bl _) (.cons (.bl _) (.cons (.bl _) .nil)))) rfl rfl (by decide) ?_
    refine ⟨true, rfl, ?_⟩
    walk_at "w"
    refine ⟨.inl ⟨rfl, _, SqL.of e1⟩, ?_⟩
    walk_at "w"
    refine ⟨p1, [.bool false, .bool true, .bool false], .bl true, .bool true, rfl, rfl, .lst (SqL.of e1) (.cons (.bl _) (.cons (.bl _) (.cons (.bl _) .nil))), .bl true, rfl, rfl, by decide, ?_⟩
    refine w_eqI ?_
    refine ⟨true, rfl, ?_⟩
    walk_at "w"
    refine w_ixLa e3 atI_0 ?_
    exact k p4 _ s4 e4
end
end Bt

set_option Elab.async false
set_option linter.all false
set_option maxRecDepth 100000
set_option maxHeartbeats 4000000
/-! a lambda handed to a def, its errors' context None -/
namespace Bt
open PySem PySem.Spec PyProof.Rows L2 LamX
/-- the context of the lambda's body -/
abbrev lamN (X : Cx) (A : Around) (outer : List Env) (s : Shared) (H : Hp) (E : XK) (scope : Scope) (f c' : Addr) : Cx :=
  (lamCx X A outer s H E scope f c').wish fun e s' => wpAny (model X.prog X.w) (A.deeper (lamEnv X scope s.heap.objs.size f c')) (leaving (lamEnv X scope s.heap.objs.size f c') e) (fun _ s'' => L2N.CX X.prog X.w outer H s E e s'') (fun e' s'' => L2N.CX X.prog X.w outer H s E e' s'') s'
/-- the lambda's object at f, its code object at c' -/
def LamAt (X : Cx) (params : Arguments) (body : Expr) (scope : Scope) (f c' : Addr) (h : Heap) : Prop := ∃ pm ctv, h.get? f = some (PySem.W.kla_obj "<lambda>" (X.env.qual ++ "<lambda>") params body scope (cloFrom X.env.cells scope.names []) pm c' ctv)
section
variable {X : Cx} {pins : List (Addr × Obj)} {σ : L2.St} {H HZ : Hp} {s s1 : Shared}
/-- the lambda runs, wherever it is called -/
theorem lam_run {A : Around} {outer : List Env} {E : XK} {Q : VK} {k : Nat} {f c' : Addr} {params : Arguments} {body : Expr} {scope : Scope} {tb : TE} (I : Inv X pins σ H s) (L : LamS X.env.scope scope) (hl : LamAt X params body scope f c' s1.heap)
    (hbind : ∀ (q : Str) (cl : List (Str × Addr)) (pm cv ctv : Value), bindArgs (PySem.W.kla_fn "<lambda>" q params body scope cl pm cv ctv) ⟨[], []⟩ = pure []) (e0 : Env0 X.prog X.w X.K X.mg X.base A outer s1 HZ) (lim : s1.heap.NoLimit) (hr : Room (k + 1) A)
    (un : Un (frs X.stack) [] H HZ s.heap s1.heap) (hc : HZ c' = some (CodeO c' (X.env.qual ++ "<lambda>"))) (hbody : Room k (A.deeper (lamEnv X scope s1.heap.objs.size f c')) → PE (lamN X A outer s1 HZ E scope f c') body tb) (ht : tb σ HZ Q) :
    codeAny (model X.prog X.w) A (.call (.ref f) ⟨[], []⟩) (CR (L2N.CX X.prog X.w) outer X.prog X.w HZ s1 Q E) s1 := by
  obtain ⟨pm, ctv, of1⟩ := hl
  obtain ⟨⟨oc, vs, t, hoc, hdc, hvc⟩, _, _⟩ := e0.hok c' _ hc
  refine PySem.W.kla_callFunE hr.depth of1 rfl L.co L.gen rfl ⟨c', oc, vs, t, rfl, hoc, hdc, hvc⟩ ?_
  rw [hbind]
  refine wpAny_pure (wpAny_newFunctionEnv (fun y hy => (L.own y hy).2) (fun y hy => absurd hy (by simp)) (fun h1 hns hsb => ⟨lim.fresh _ hsb, ?_⟩) L.kind)
  show codeAny _ _ (.expr body (lamEnv X scope s1.heap.objs.size f c')) _ _
  have kp : ∀ b o, s1.heap.get? b = some o → h1.get? b = some o := fun b o e => hsb.extBut b o (Nat.ne_of_lt (Heap.lt_size e)) (Heap.get?_push_of_some _ e)
  have J0 := lam_start2 (E := E) (f := f) (c' := c') (tk := s1.toks + ([] : List (Str × Value)).length) I L e0 hr.hd un hns kp
  have J : Inv (lamN X A outer s1 HZ E scope f c') [] σ HZ { s1 with heap := h1, toks := s1.toks + ([] : List (Str × Value)).length } := J0.wish _
  refine PySem.W.kla_codeExpr (wpAny_mono (((hbody (hr.deeper _)).run [] _ _ HZ Q J ht)) (fun v s' hq => ?_) fun e s' hq => hq)
  obtain ⟨w', H', J', rv, q⟩ := hq
  exact ⟨w', H', J'.os, J'.bare, J'.base, J'.hok, rv, q⟩
/-- a(), in the def that got the lambda -/
theorem pe_callN {Y : Cx} {i k : Nat} {a : Str} {f c' : Addr} {params : Arguments} {body : Expr} {scope : Scope} {W : WX} {E : XK} {tb : TE} {p1 p2 : Pos} (ep : Y.prog = X.prog) (ew : Y.w = X.w) (eK : Y.K = X.K) (em : Y.mg = X.mg) (eb : Y.base = X.base)
    (I : Inv X pins σ H s) (L : LamS X.env.scope scope) (hl : LamAt X params body scope f c' s.heap) (hfn : H f = none) (hfr : f ∉ frs X.stack) (e1 : Y.s_0 = s) (e2 : Y.H_0 = H) (ex : Y.ex = []) (efs : Y.fs = frs X.stack)
    (hbind : ∀ (q : Str) (cl : List (Str × Addr)) (pm cv ctv : Value), bindArgs (PySem.W.kla_fn "<lambda>" q params body scope cl pm cv ctv) ⟨[], []⟩ = pure []) (tk : L2N.Takes Y W) (hW : ∀ cls d σ' H', E cls d H' → W cls d σ' H') (hr : Room (k + 1) Y.A)
    (hbody : ∀ (A : Around) (outer : List Env) (s : Shared) (H : Hp), Room k (A.deeper (lamEnv X scope s.heap.objs.size f c')) → PE (lamN X A outer s H E scope f c') body tb)
    (hN : Y.N[i]? = some a) (hv : Vis Y.env.scope a) (hd : (a == ("__debug__" : Str)) = false := by decide) (hcd : (a == ("__classdict__" : Str)) = false := by decide) :
    PE Y (.Call (.Name a p1) [] [] p2) (fun σZ HZ Q => σZ[i]? = some (some (.ref f)) ∧ HZ c' = some (CodeO c' (X.env.qual ++ "<lambda>")) ∧ tb σ HZ Q) := by
  refine ⟨fun pinsZ sZ σZ HZ Q IZ ⟨hs, hc, ht⟩ => ?_⟩
  refine wpAny_Call_Name_kw (thn ((pe_var (pos := p1) (i := i) hN hv hd hcd).run pinsZ sZ σZ HZ (fun v H1 => v = .ref f ∧ H1 = HZ) IZ ⟨.ref f, hs, rfl, rfl⟩) fun u s1 ⟨v, H1, I1, r1, ev, eH⟩ => ?_)
  subst ev eH
  obtain rfl : u = Value.ref f := r1
  have base := I1.base
  rw [e1, e2, ex, efs] at base
  obtain ⟨pm, ctv, hf⟩ := hl
  have of1 := base.keep f _ hf hfn hfr (fun z => nomatch (show f ∈ ([] : List Addr) from z))
  refine PySem.W.callWith_F0 ⟨_, _, _, _, of1⟩ ?_
  have env0 := I1.env0
  rw [ep, ew, eK, em, eb] at env0
  have rc := lam_run (A := Y.A) (outer := Y.stack) (E := E) (Q := Q) I L ⟨pm, ctv, of1⟩ hbind env0 I1.nolimit hr base hc (hbody _ _ s1 _) ht
  rw [← ep, ← ew] at rc
  refine wpAny_call (codeAny_mono rc fun r s' hq => ?_)
  cases r with
  | error e => exact L2N.passes_call tk hW pinsZ σZ _ s1 e s' I1 hq
  | ok fl =>
    cases fl with
    | ret u => exact I1.after hq
    | next => exact False.elim hq
    | brk => exact False.elim hq
    | cont => exact False.elim hq
end
end Bt

set_option Elab.async false
set_option linter.all false
set_option maxRecDepth 100000
set_option maxHeartbeats 4000000
/-! the law: what a call tells -/
namespace Bt
open PySem PySem.Spec PyProof.Rows L2 LamX
set_option pp.maxSteps 900
local macro_rules | `(tactic| walk_at "lk") => `(tactic| first
  | assumption
  | exact upd_same
  | (refine at_new ?_ ?_; · assumption
     walk_at "lk")
  | (refine at_mut ?_ ?_; · assumption
     walk_at "lk")
  | (refine at_same ?_ ?_; · assumption
     walk_at "lk"))
local macro_rules | `(tactic| walk_at "w1") => `(tactic| with_reducible first
  | refine w_seq ?_ | refine w_asg ?_ | refine w_name ?_ | refine w_ret ?_ | refine w_retN ?_ | refine w_drop ?_ | refine w_next ?_
  | refine w_op ?_ | refine w_var rfl ?_ | refine w_c ?_ | refine w_un ?_ | refine w_test ?_ | refine w_tB ?_ | refine w_bl ?_ | refine w_chain ?_
  | refine w_and ?_ | refine w_or ?_ | refine w_not ?_ | refine w_andV ?_ | refine w_orV ?_ | refine w_notV ?_ | refine w_cons ?_ | refine w_nil ?_
  | refine w_par ?_ | refine w_parL ?_ | refine w_call ?_ | refine w_CB ?_ | refine w_prop ?_ | refine w_fld ?_ | refine w_meth ?_ | refine w_make ?_ | refine w_tup ?_ | refine w_lst ?_
  | refine w_I0 ?_ | refine w_U ?_ | refine w_addI ?_ | refine w_eqI ?_ | refine w_eqS ?_ | refine w_neI ?_ | refine w_neS ?_ | refine w_isN ?_ | refine w_notN ?_
  | refine w_tt ?_ | refine w_ff ?_ | refine w_nt ?_ | refine w_nf ?_ | refine w_ntt ?_ | refine w_att ?_ | refine w_js ?_ | refine w_jsN ?_ | refine w_fmtS ?_ | refine w_m1 ?_ | refine w_m1L ?_ | refine w_sfld ?_ | refine w_bm ?_ | refine w_dc ?_ | refine w_iIt ?_ | refine w_star ?_ | refine w_mkO ?_ | refine w_raise ?_ | refine w_osg ?_ | refine w_gfld ?_ | refine w_kget ?_ | refine w_dget ?_ | refine w_din ?_ | refine w_dnotin ?_ | refine w_slice ?_ | refine w_on ?_ | refine w_os ?_ | refine w_sub ?_ | refine w_bmN ?_ | refine w_intI ?_ | refine w_intB ?_ | refine w_strS ?_
  | refine w_lc ?_ | refine w_for ?_ | refine w_iL ?_ | refine w_iT ?_ | refine w_iS ?_ | refine w_iK ?_ | refine w_iR1 ?_ | refine w_iR3 ?_ | refine w_iET ?_ | refine w_srcS ?_)
local macro_rules | `(tactic| walk_at "w") => `(tactic| (repeat walk_at "w1"); try (with_reducible refine w_ifN ?_))
local macro_rules | `(tactic| walk_at "ws") => `(tactic| with_reducible first | refine w_seq ?_ | refine w_next ?_)
local macro_rules | `(tactic| walk_at "w2") => `(tactic| repeat with_reducible first | refine w_seq ?_ | refine w_asg ?_ | refine w_name ?_ | refine w_next ?_)
local macro_rules | `(tactic| walk_at "sz") => `(tactic| (rw [sizeLine_eq]; exact Nat.le_of_ble_eq_true rfl))
section
variable {X : Cx}
def tSlip (K : Frag) (i : Nat) (a : Addr) (cls : Value) (d : Option Addr) : TE := fun σ H Q => σ[i]? = some (some (.ref a)) ∧ ∃ x : Ex, ExFly K H cls d x ∧ x.ok ∧ ∀ p H', Same H H' → H' p = some (.lst (x.words.map V.str)) → Q (.ref p) H'
theorem pe_slip (T : Txt X.w X.K X.mg) (T2 : Tx2 X.K X.mg) {a : Addr} {oe : Obj} {cls : Value} {d : Option Addr} {pn : List (Addr × Obj)} {i : Nat} {n : Str} {p1 p2 p3 : Pos} (hr : Room 1 X.A) (hz : L2N.Zn cls d oe) (hf : ∃ vs, oe.data = .fields vs) (hg : Gl X "_law_slip") (hv : PE (X.suite a ((a, oe) :: pn)) (.Name n p2) (tVar i)) :
    PE (X.suite a ((a, oe) :: pn)) (.Call (.Name "_law_slip" p1) [.Name n p2] [] p3) (tSlip X.K i a cls d) := by
  obtain ⟨f, fd, hm, hk, hb, run⟩ := ok_slip (P := X.prog) (base := X.base) T T2
  refine ⟨fun pins s σ H Q I ⟨hs, x, fly, xo, k⟩ => ?_⟩
  have ha : PA (X.suite a ((a, oe) :: pn)) [.Name n p2] (tCons (tVar i) tNil) := pa_cons hv pa_nil
  refine wpAny_Call_Name_kw (ld_glob (X := X.suite a ((a, oe) :: pn)) I hg hm ?_ (by decide))
  refine PySem.W.callWith_K (h₀ := X.base) I.ok.mod.kin hk (thn (ha.run p3 pins s σ H (fun vs H1 => vs = [.ref a] ∧ H1 = H) I ⟨_, hs, rfl, rfl⟩) fun us s1 ⟨vs, H1, I1, r, ev, eH⟩ => ⟨I1.kIn, ?_⟩) rfl rfl
  subst ev eH
  obtain ⟨u, rfl, ru⟩ := vals1 r
  obtain rfl : u = Value.ref a := ru
  obtain ⟨q1, q2, q3, q4, q5⟩ := I1.pin (a, oe) (List.mem_append_left _ List.mem_cons_self)
  have pin : L2H.PinOk X.stack H1 s1 (a, oe) := ⟨q1, q2, fun hm => (List.mem_cons.mp (I1.stkSub a hm)).elim q3 q4, q5⟩
  have b := hb s1 [.ref a] I1.kIn rfl
  refine wpAny_call (codeAny_mono (run (A := X.A.mark (some (.ref a))) (outer := X.stack) (E := E0) (Q := Q) x hz hf fly xo ⟨hr.dp, hr.un⟩ rfl pin I1.env0 b k) fun r s' hq => ?_)
  cases r with
  | error e => exact passN (X := X.suite a ((a, oe) :: pn)) pins σ H1 s1 e s' I1 hq
  | ok fl =>
    cases fl with
    | ret u => exact I1.after hq
    | next => exact False.elim hq
    | brk => exact False.elim hq
    | cont => exact False.elim hq
/-- the errors that are told -/
def heardE (K : Frag) (Q : VK) : XK := fun cls d H2 => ∃ x : Ex, ExFly K H2 cls d x ∧ x.ok ∧ ∀ p H3, Same H2 H3 → H3 p = some (.lst (x.words.map V.str)) → Q (.ref p) H3
/-- the answer that is told -/
def heardQ (Q : VK) : VK := fun v H2 => ∃ z, v = .str z ∧ (reprText z).length ≤ sizeLine ∧ ∀ p H3, Same H2 H3 → H3 p = some (.lst [.str "told", .str (reprText z)]) → Q (.ref p) H3
/-- _law_heard(lambda: ..), t the reading of the lambda's body by its wish of errors -/
def tHeard (K : Frag) (Tb : List (Addr × Str)) (t : XK → TE) : TE := fun σ H Q => Tabs Tb H ∧ ∀ H1, ExtN H H1 → Tabs Tb H1 → ∀ Qb : VK, (∀ v H2, heardQ Q v H2 → Qb v H2) → t (heardE K Q) σ H1 Qb
abbrev s__law_heard : Stmt := top 124
theorem sc__law_heard : FnScope ["_law_call_here", "_law_e", "_law_got"] ["_law_call_here"] (defScope s__law_heard) := ⟨rfl, rfl, rfl, by decide +kernel, rfl, by decide +kernel, by decide +kernel⟩
theorem pe_heard (T : Txt X.w X.K X.mg) (T2 : Tx2 X.K X.mg) {Tb : List (Addr × Str)} {c Pt : Addr} {k : Nat} {params : Arguments} {body : Expr} {scope : Scope} {t : XK → TE} {p lpos pos : Pos} (hg : Gl X "_law_heard")
    (TB : TabB X.base X.mg c Pt) (hcode : X.env.code = .ref c) (hmT : (Pt, X.env.qual ++ "<lambda>") ∈ Tb) (hu : ∀ p ∈ Tb, p.1 = Pt → p.2 = X.env.qual ++ "<lambda>") (hr : Room (k + 3) X.A) (L : LamS X.env.scope scope) (hdef : defaultsOf params X.env = ([], []))
    (hbind : ∀ (q : Str) (cl : List (Str × Addr)) (pm cv ctv : Value), bindArgs (PySem.W.kla_fn "<lambda>" q params body scope cl pm cv ctv) ⟨[], []⟩ = pure [])
    (hbody : ∀ (A : Around) (outer : List Env) (s : Shared) (H : Hp) (E : XK) (f c' : Addr), Room k (A.deeper (lamEnv X scope s.heap.objs.size f c')) → PE (lamN X A outer s H E scope f c') body (t E)) :
    PE X (.Call (.Name "_law_heard" p) [.Lambda params body scope lpos] [] pos) (tHeard X.K Tb t) := by
  have sc := sc__law_heard
  obtain ⟨g, fd, F, hm⟩ := T.f_law_heard
  obtain ⟨oc, od, dV, kV, doc, pm, an, cdv, ct, osl, efd, lk, hcd, _, _⟩ := F.ex
  have hb : Binds X.K _ ["_law_call_here"] [] := F.bindsN (fun _ _ _ _ _ _ us hl => match us, hl with | [_], _ => rfl)
  have hk := F.kp
  subst efd
  refine ⟨fun pins s σ H Q I ⟨hT, h⟩ => ?_⟩
  refine wpAny_Call_Name_kw (ld_glob I hg hm ?_ (by decide))
  refine PySem.W.callWith_K (h₀ := X.base) I.ok.mod.kin hk ?_ (by rfl) (by rfl)
  show wpAny _ _ (spliced ((false, eval (.Lambda params body scope lpos) X.env) :: backTo pos (starEach [] X.env))) _ _ s
  refine Calls.spliced_cons (lam_make2 I TB hcode hmT hu hT hdef (L.has I.ok) fun f c' pm' ctv H1 s' I1 eN T1 hf hfn hfr hco => ?_)
  refine Calls.spliced_nil ⟨I1.kIn, ?_⟩
  have rd := h H1 eN T1
  have rc : codeAny (model X.prog X.w) X.A (.call (.ref g) ⟨[.ref f], []⟩) (CR (L2N.CX X.prog X.w) X.stack X.prog X.w H1 s' Q E0) s' := by
    refine LamX.run_ofS (k := k + 2) lk hcd sc hr I1.env0 (hb s' [.ref f] I1.kIn rfl) (us := [.ref f]) (vs := [.ref f]) (.cons rfl .nil) rfl fun hr' => ?_
    refine ⟨_, pss_cons (ps_try3 (i := 1) (tb := fun W D σ2 H2 => ∃ Ech : XK, (∀ cls d σ' H', Ech cls d H' → W cls d σ' H') ∧ σ2[0]? = some (some (.ref f)) ∧ H2 c' = some (CodeO c' (X.env.qual ++ "<lambda>")) ∧ t Ech σ H2 fun v H3 => D.nx (σ2.set 2 (some v)) H3)
        rfl rfl sc.nd rfl rfl ⟨rfl, T2.g "NotRight" (by decide)⟩ ⟨rfl, T2.g "NotKnown" (by decide)⟩ ⟨rfl, T2.g "NotPossible" (by decide)⟩ (by decide) (by decide) (by decide) (fun W pn xe tk _ => ?_)
        (fun a oe cls d pn hz hf => pss_one (ps_ret (pe_slip (X := (cxOf (L2N.CX X.prog X.w) X.prog X.w X.K X.mg X.base ["_law_call_here", "_law_e", "_law_got"] "_law_heard" (defScope s__law_heard) g cdv X.A X.stack s' H1 E0)) (i := 1) (n := "_law_e") T T2 (hr'.mono (Nat.le_add_left 1 (k + 1))) hz hf rfl (pv 1))))) (pss_one (ps_ret (pe_lst (pa_cons pe_str (pa_cons (pe_callB call_reprU (by rfl) T.b_repr (by decide +kernel) (pa_cons (pv 2) pa_nil)) pa_nil))))), ?_⟩
    · refine ⟨fun pins s2 σ2 H2 D I2 ⟨Ech, hW, h1, h2, h3⟩ => ?_⟩
      refine PSs.run (t := tAsg (fun σZ HZ Q => σZ[0]? = some (some (.ref f)) ∧ HZ c' = some (CodeO c' (X.env.qual ++ "<lambda>")) ∧ t Ech σ HZ Q) (gName 2)) ?hp pins s2 σ2 H2 D I2 ?h
      case hp => exact pss_one (ps_set (X := (cxOf (L2N.CX X.prog X.w) X.prog X.w X.K X.mg X.base ["_law_call_here", "_law_e", "_law_got"] "_law_heard" (defScope s__law_heard) g cdv X.A X.stack s' H1 E0).tr pn xe) (i := 2) (x := "_law_got") sc.nd rfl (.inl rfl) (pe_callN (X := X) (Y := (cxOf (L2N.CX X.prog X.w) X.prog X.w X.K X.mg X.base ["_law_call_here", "_law_e", "_law_got"] "_law_heard" (defScope s__law_heard) g cdv X.A X.stack s' H1 E0).tr pn xe) (a := "_law_call_here") (E := Ech) (i := 0) (tb := t Ech) rfl rfl rfl rfl rfl I1 L ⟨_, _, hf⟩ hfn hfr rfl rfl rfl rfl hbind tk hW (hr'.mono (Nat.le_succ (k + 1))) (fun A outer s H r2 => hbody A outer s H Ech f c' r2) rfl (.inl rfl)))
      case h => exact ⟨h1, h2, h3⟩
    · refine ⟨heardE X.K Q, ?_, rfl, hco, ?_⟩
      · intro cls d σ' H' ⟨x, fly, xo, kx⟩
        refine ⟨by rw [fly.cls]; exact T2.ex3 _ x.own, fun a ha hl => ?_⟩
        walk_at "w"
        exact ⟨List.getElem?_set_self (by have hl' : σ'.length = 3 := hl; omega), x, fly, xo, kx⟩
      · refine rd _ fun v H2 ⟨z, ez, hl, q⟩ => ?_
        walk_at "w"
        subst ez
        refine ⟨.str z, rfl, .inr ⟨z, rfl, hl⟩, ?_⟩
        walk_at "w"
        refine ⟨by walk_at "sz", fun p hp => ?_⟩
        exact q p _ (same_new hp (Same.refl _)) upd_same
  refine wpAny_call (codeAny_mono rc fun r s2 hq => ?_)
  cases r with
  | error e => exact passN (X := X) pins σ H1 s' e s2 I1 hq
  | ok fl =>
    cases fl with
    | ret u => exact I1.after hq
    | next => exact False.elim hq
    | brk => exact False.elim hq
    | cont => exact False.elim hq
end
end Bt

set_option Elab.async false
set_option linter.all false
set_option maxRecDepth 100000
set_option maxHeartbeats 4000000
/-! pages: what is behind a deed; the console's answer beside it -/
namespace Bt
open PySem L2 LamX
theorem shPut_mem {sh : Shelf} {t : Str} {p : Plan} {kv : Str × Plan} (h : kv ∈ shPut sh t p) : kv = (t, p) ∨ kv ∈ sh := by
  unfold shPut at h
  split at h
  · obtain ⟨k, hk, rfl⟩ := List.mem_map.mp h
    by_cases z : k.1 = t
    · rw [if_pos z, z]; exact .inl rfl
    · rw [if_neg z]; exact .inr hk
  · rcases List.mem_append.mp h with h | h
    · exact .inr h
    · exact .inl (List.mem_singleton.mp h)
theorem shPut_nodup {sh : Shelf} {t : Str} {p : Plan} (h : (sh.map (·.1)).Nodup) : ((shPut sh t p).map (·.1)).Nodup := by
  unfold shPut
  split
  · rw [List.map_map]
    have e : ((fun x : Str × Plan => x.1) ∘ fun kv => if kv.1 = t then (kv.1, p) else kv) = fun x => x.1 := by
      funext kv
      by_cases z : kv.1 = t
      · simp [z]
      · simp [z]
    rw [e]; exact h
  · rename_i n
    rw [List.map_append]
    refine List.nodup_append.mpr ⟨h, by simp, fun a ha b hb z => ?_⟩
    have hb : b ∈ [t] := hb
    rw [List.mem_singleton] at hb
    subst hb
    obtain ⟨kv, hk, e⟩ := List.mem_map.mp ha
    exact n (List.any_eq_true.mpr ⟨kv, hk, by rw [e, z]; simp⟩)
theorem shPut_len {sh : Shelf} {t : Str} {p : Plan} : (shPut sh t p).length ≤ sh.length + 1 := by
  unfold shPut
  split
  · rw [List.length_map]; omega
  · rw [List.length_append]; simp
theorem shV_drop {sh : Shelf} {t u : Str} (n : u ≠ t) : shV (shDrop sh t) u = shV sh u := by
  unfold shV shDrop
  rw [List.find?_filter]
  have e : (fun a : Str × Plan => decide (decide (a.1 ≠ t) = true ∧ decide (a.1 = u) = true)) = fun kv : Str × Plan => decide (kv.1 = u) := by
    funext a
    by_cases z : a.1 = u
    · simp [z, n]
    · simp [z]
  first | rw [e] | (congr 2; funext a; by_cases z : a.1 = u <;> simp [z, n])
theorem shV_drop_ne {sh : Shelf} {t u : Str} {p : Plan} (h : shV (shDrop sh t) u = some p) : u ≠ t := by
  unfold shV shDrop at h
  obtain ⟨kv, h1, h2⟩ := Option.map_eq_some_iff.mp h
  have h3 := List.mem_of_find?_eq_some h1
  have h4 := List.find?_some h1
  have h5 : kv.1 ≠ t := by simpa using (List.mem_filter.mp h3).2
  have h6 : kv.1 = u := by simpa using h4
  exact fun z => h5 (h6.trans z)
theorem uses_none {t : Str} : ∀ {ws : List Wish} {i : Nat}, uses t i ws = none → ∀ c ∈ ws, t ∉ c.titles
  | c :: r, i, h, d, hd => by
    unfold uses at h
    split at h
    · cases h
    · rename_i n
      rcases List.mem_cons.mp hd with rfl | hd
      · exact n
      · exact uses_none h d hd
theorem bad_lt {sh : Shelf} {n : Nat} {z : V} : ∀ {ws : List Wish} {i : Nat}, bad sh i ws = some (n, z) → n < i + ws.length ∧ ∃ c ∈ ws, z = shownV sh c
  | c :: r, i, h => by
    unfold bad at h
    split at h
    · obtain ⟨h1, d, hd, e⟩ := bad_lt h
      exact ⟨by rw [List.length_cons]; omega, d, List.mem_cons_of_mem _ hd, e⟩
    · cases h
      exact ⟨by rw [List.length_cons]; omega, c, List.mem_cons_self, rfl⟩
theorem uses_lt {t : Str} {n : Nat} : ∀ {ws : List Wish} {i : Nat}, uses t i ws = some n → n < i + ws.length
  | c :: r, i, h => by
    unfold uses at h
    rw [List.length_cons]
    split at h
    · cases h; omega
    · have := uses_lt h; omega
theorem LOk.mono {B B' : Int} {P : Pg} (h : LOk B P) (hB : B ≤ B') : LOk B' P := ⟨h.ok, fun kv hk => (h.kn kv hk).mono hB⟩
/-- a deed that may be told -/
def isDeed : Cmd → Prop
  | .put _ _ _ => True
  | .claim _ => True
  | .lift _ => True
  | .drop _ => True
  | _ => False
theorem DeedAt.deed {H : Hp} {p : Addr} : ∀ {c : Cmd}, DeedAt H p c → isDeed c
  | .put _ _ _, _ => trivial
  | .claim _, _ => trivial
  | .lift _, _ => trivial
  | .drop _, _ => trivial
  | .undo, h => h
  | .names, h => h
  | .claims, h => h
  | .shw _, h => h
theorem LOk.next {B B' : Int} {P : Pg} (lo : LOk B P) (hB : B ≤ B') (lw : P.ws.length < 20) (ls : P.sh.length < 20) : ∀ {c : Cmd}, DkOk B' P c → behErr P c = [] → LOk B' (nextPg P c) ∧ (nextPg P c).ws.length ≤ P.ws.length + 1 ∧ (nextPg P c).sh.length ≤ P.sh.length + 1
  | .put t d ks, dk, _ => by
    have ok := lo.ok
    have tl := shPut_len (sh := P.sh) (t := t) (p := (d, ks))
    refine ⟨⟨⟨ok.sh.put dk.ok.2, shPut_nodup ok.nd, ok.ws.put, fun kv hk => ?_, ok.lw, ?_⟩, fun kv hk => ?_⟩, Nat.le_succ _, tl⟩
    · rcases shPut_mem hk with rfl | hk
      · exact dk.ok.1
      · exact ok.names kv hk
    · show (shPut P.sh t (d, ks)).length ≤ 20
      omega
    · rcases shPut_mem hk with rfl | hk
      · exact dk.pl t d ks rfl
      · exact (lo.kn kv hk).mono hB
  | .claim c, dk, _ => by
    have ok := lo.ok
    refine ⟨⟨⟨ok.sh, ok.nd, fun x hx => ?_, ok.names, ?_, ok.ls⟩, (lo.mono hB).kn⟩, ?_, Nat.le_succ _⟩
    · rcases List.mem_append.mp hx with hx | hx
      · exact ok.ws x hx
      · obtain rfl := List.mem_singleton.mp hx
        exact ⟨dk.ok.1, dk.fit⟩
    · show (P.ws ++ [c]).length ≤ 20
      rw [List.length_append]; simp; omega
    · show (P.ws ++ [c]).length ≤ P.ws.length + 1
      rw [List.length_append]; simp
  | .lift i, dk, _ => by
    have ok := lo.ok
    have sub : ∀ x ∈ lifted P.ws i, x ∈ P.ws := fun x hx => by
      unfold lifted at hx
      rcases List.mem_append.mp hx with hx | hx
      · exact List.mem_of_mem_take hx
      · exact List.mem_of_mem_drop hx
    have ll : (lifted P.ws i).length ≤ P.ws.length := by
      unfold lifted
      rw [List.length_append, List.length_take, List.length_drop]; omega
    refine ⟨⟨⟨ok.sh, ok.nd, fun x hx => ok.ws x (sub x hx), ok.names, ?_, ok.ls⟩, (lo.mono hB).kn⟩, ?_, Nat.le_succ _⟩
    · show (lifted P.ws i).length ≤ 20
      omega
    · show (lifted P.ws i).length ≤ P.ws.length + 1
      omega
  | .drop t, dk, e => by
    have ok := lo.ok
    have sub : ∀ kv ∈ shDrop P.sh t, kv ∈ P.sh := fun kv h => (List.mem_filter.mp h).1
    have ll : (shDrop P.sh t).length ≤ P.sh.length := List.length_filter_le _ _
    have un : uses t 0 P.ws = none := by
      simp only [behErr] at e
      split at e
      · split at e
        · cases e
        · rename_i z; exact z
      · cases e
    refine ⟨⟨⟨fun u q hq => ?_, ?_, fun x hx => ⟨(ok.ws x hx).1, fun u hu => ?_⟩, fun kv hk => ok.names kv (sub kv hk), ok.lw, ?_⟩, fun kv hk => (lo.kn kv (sub kv hk)).mono hB⟩, Nat.le_succ _, ?_⟩
    · have hq : shV (shDrop P.sh t) u = some q := hq
      rw [shV_drop (shV_drop_ne hq)] at hq
      exact ok.sh u q hq
    · exact List.Nodup.sublist (List.Sublist.map _ List.filter_sublist) ok.nd
    · show (shV (shDrop P.sh t) u).isSome = true
      rw [shV_drop (fun z => uses_none un x hx (by rw [← z]; exact hu))]
      exact (ok.ws x hx).2 u hu
    · show (shDrop P.sh t).length ≤ 20
      omega
    · show (shDrop P.sh t).length ≤ P.sh.length + 1
      omega
  | .undo, _, _ => ⟨lo.mono hB, Nat.le_succ _, Nat.le_succ _⟩
  | .names, _, _ => ⟨lo.mono hB, Nat.le_succ _, Nat.le_succ _⟩
  | .claims, _, _ => ⟨lo.mono hB, Nat.le_succ _, Nat.le_succ _⟩
  | .shw _, _, _ => ⟨lo.mono hB, Nat.le_succ _, Nat.le_succ _⟩
theorem LOk.nms {B : Int} {P : Pg} (lo : LOk B P) : ∀ c ∈ P.ws, ∀ t ∈ c.titles, t ∈ names3 := fun c hc t ht => by
  have h := (lo.ok.ws c hc).2 t ht
  cases e : shV P.sh t with
  | none => rw [e] at h; cases h
  | some p => exact lo.ok.names _ (shV_mem e)
/-- the error of a deed, as it is raised -/
theorem run_of {K : Frag} {H : Hp} {cn : Addr} {P : Pg} {ps : List Pg} {Q : VK} {E : XK} (ok : PgOk P) : ∀ {c : Cmd}, CmdOk c → CmdFit P c → isDeed c → (behErr P c = [] → ∀ H', Upd H H' → ConAt K H' cn (nextPg P c :: P :: ps) → Q (.str "ok") H') →
    (∀ x : Ex, x.words.map V.str = behErr P c → x.ok → ∀ cls d H', Same H H' → ExFly K H' cls d x → E cls d H') → RunP K H cn P ps Q E c
  | .put t d ks, _, _, _, h1, h2 => by
    refine ⟨fun e => h1 (by simp only [behErr, e]; rfl), fun i z e dd H' s hd => ?_⟩
    obtain ⟨hl, c, hc, ez⟩ := bad_lt e
    refine h2 (.broken i z) (by simp only [behErr, e]; rfl) ⟨by have := ok.lw; omega, by rw [ez]; exact shown_rp (ok.ws c hc).1⟩ _ _ _ s ⟨rfl, dd, rfl, hd⟩
  | .claim w, co, _, _, h1, h2 => by
    refine ⟨fun e => h1 (by simp only [behErr, e]; rfl), fun i z e dd H' s hd => ?_⟩
    obtain ⟨hl, c, hc, ez⟩ := bad_lt e
    rw [List.length_append] at hl
    simp at hl
    refine h2 (.broken i z) (by simp only [behErr, e]; rfl) ⟨by have := ok.lw; omega, ?_⟩ _ _ _ s ⟨rfl, dd, rfl, hd⟩
    rw [ez]
    rcases List.mem_append.mp hc with hc | hc
    · exact shown_rp (ok.ws c hc).1
    · obtain rfl := List.mem_singleton.mp hc
      exact shown_rp co.1
  | .lift i, co, _, _, h1, h2 => by
    refine ⟨fun e => h1 (by simp only [behErr, if_pos e]), fun e dd H' s hd => ?_⟩
    have hi : i ≤ 1000 := co
    exact h2 (.index i) (by simp only [behErr, if_neg (Nat.not_lt.mpr e)]; rfl) hi _ _ _ s ⟨rfl, dd, rfl, hd⟩
  | .drop t, co, _, _, h1, h2 => by
    refine ⟨fun e dd H' s hd => ?_, fun e => ⟨fun i u dd H' s hd => ?_, fun u => h1 ?_⟩⟩
    · exact h2 (.unknown t) (by simp only [behErr, e]; rfl) co _ _ _ s ⟨rfl, dd, rfl, hd⟩
    · have := uses_lt u
      have := ok.lw
      exact h2 (.inuse i) (by simp only [behErr, e, u]; rfl) (show i ≤ 1000 by omega) _ _ _ s ⟨rfl, dd, rfl, hd⟩
    · simp only [behErr, e, u]; rfl
  | .undo, _, _, d, _, _ => d.elim
  | .names, _, _, d, _, _ => d.elim
  | .claims, _, _, d, _, _ => d.elim
  | .shw _, _, _, d, _, _ => d.elim
theorem behErr_str (P : Pg) : ∀ c : Cmd, ∃ ws : List Str, behErr P c = ws.map V.str
  | .put t d ks => ⟨_, badV_W _⟩
  | .claim c => ⟨_, badV_W _⟩
  | .lift i => by
    simp only [behErr]
    split
    · exact ⟨[], rfl⟩
    · exact ⟨[_, _], rfl⟩
  | .drop t => by
    simp only [behErr]
    split
    · split
      · exact ⟨[_, _], rfl⟩
      · exact ⟨[], rfl⟩
    · exact ⟨[_, _], rfl⟩
  | .undo => ⟨[], rfl⟩
  | .names => ⟨[], rfl⟩
  | .claims => ⟨[], rfl⟩
  | .shw _ => ⟨[], rfl⟩
theorem cut_toV (n : Nat) (xs : List V) (h : n ≤ xs.length) : cutV xs none (some (n : Int)) = xs.take n := by
  unfold cutV
  rw [HT.sIx_none, HT.sIx_nat, List.drop_zero, show min n xs.length = n by omega, Nat.sub_zero]
theorem cut_max (xs : List V) (v : V) : cutV (xs ++ [v]) none (some (if ((xs ++ [v]).length : Int) - 1 > 1 then ((xs ++ [v]).length : Int) - 1 else 1)) = if xs = [] then [v] else xs := by
  cases xs with
  | nil => rw [if_pos rfl]; exact cut_to1 v []
  | cons a r =>
    have e : (if ((a :: r ++ [v]).length : Int) - 1 > 1 then ((a :: r ++ [v]).length : Int) - 1 else 1) = (((a :: r).length : Nat) : Int) := by
      rw [List.length_append, List.length_singleton, List.length_cons]
      split <;> omega
    rw [e, cut_toV _ _ (by rw [List.length_append]; omega), List.take_left, if_neg (by simp)]
theorem atI_end {xs : List V} {v : V} : atI (xs ++ [v]) (-1) = some v := by
  unfold atI ixN
  have e : (-1 + ((xs ++ [v]).length : Int)).toNat = xs.length := by rw [List.length_append, List.length_singleton]; omega
  rw [if_neg (by decide), if_pos (by rw [List.length_append, List.length_singleton]; omega)]
  simp only [e, Option.bind_some]
  rw [List.getElem?_append_right (Nat.le_refl _), Nat.sub_self]
  rfl
theorem paired_split {α β : Type} {R : α → β → Prop} {b : β} : ∀ {l : List α} {k : List β}, Paired R l (k ++ [b]) → ∃ l0 a, l = l0 ++ [a] ∧ Paired R l0 k ∧ R a b
  | _, [], h => by
    rw [List.nil_append] at h
    cases h with
    | cons r t => cases t; exact ⟨[], _, rfl, .nil, r⟩
  | _, _ :: k, h => by
    rw [List.cons_append] at h
    cases h with
    | cons r t =>
      obtain ⟨l0, a, e, p, q⟩ := paired_split t
      exact ⟨_ :: l0, a, by rw [e]; rfl, .cons r p, q⟩
theorem strs_inj : ∀ {as bs : List Str}, as.map V.str = bs.map V.str → as = bs
  | [], [], _ => rfl
  | [], _ :: _, h => by cases h
  | _ :: _, [], h => by cases h
  | a :: r, b :: s, h => by
    rw [List.map_cons, List.map_cons] at h
    injection h with h1 h2
    injection h1 with h1
    rw [h1, strs_inj h2]
theorem Ex.words_ne (e : Ex) : e.words ≠ [] := by cases e <;> exact fun z => nomatch z
theorem ite_same {p : Prop} {b : Bool} (h : p) : if b = true then p else p := by cases b <;> exact h
/-- an if that leaves one of some states and heaps -/
theorem w_ifJ2 {tt : TT} {t u : TS} {D : Ends} {σ : L2.St} {H : Hp} (J : L2.St → Hp → Prop) (Pv : Hp → Prop) (e : ∀ q : Bool → Hp → Prop, (∀ b H', Pv H' → q b H') → tt σ H q) (h1 : ∀ H', Pv H' → ∀ Q : L2.St → Hp → Prop, (∀ σ' H2, J σ' H2 → Q σ' H2) → t { D with nx := Q } σ H')
    (h2 : ∀ H', Pv H' → ∀ Q : L2.St → Hp → Prop, (∀ σ' H2, J σ' H2 → Q σ' H2) → u { D with nx := Q } σ H') (k : ∀ σ' H2, J σ' H2 → D.nx σ' H2) : tIfS tt t u D σ H := e _ (fun b H' p => by
  cases b with
  | true => exact h1 H' p D.nx k
  | false => exact h2 H' p D.nx k)
/-- what is told of a call -/
theorem w_told {K : Frag} {Tb : List (Addr × Str)} {H : Hp} {Q : VK} {σ : L2.St} {t : XK → TE} (Td : Addr → Hp → Prop) (h1 : Tabs Tb H)
    (h2 : ∀ H1, ExtN H H1 → Tabs Tb H1 → ∀ (E : XK) (Qb : VK), (∀ cls d H2, (∃ x : Ex, ExFly K H2 cls d x ∧ x.ok ∧ ∀ p H3, Same H2 H3 → H3 p = some (.lst (x.words.map V.str)) → Td p H3) → E cls d H2) →
      (∀ H2, (∀ p H3, Same H2 H3 → H3 p = some (.lst ([("told" : Str), "'ok'"].map V.str)) → Td p H3) → Qb (.str "ok") H2) → t E σ H1 Qb) (h : ∀ p H3, Td p H3 → Q (.ref p) H3) : tHeard K Tb t σ H Q :=
  ⟨h1, fun H1 e T Qb hq => h2 H1 e T _ Qb (fun cls d H2 ⟨x, a, b, c⟩ => ⟨x, a, b, fun p H3 s e => h _ _ (c p H3 s e)⟩) (fun H2 c => hq _ H2 ⟨"ok", rfl, by rw [sizeLine_eq]; decide +kernel, fun p H3 s e => h _ _ (c p H3 s (by rw [e, show PySem.reprText "ok" = "'ok'" by decide +kernel]; rfl))⟩)⟩
end Bt

set_option Elab.async false
set_option linter.all false
set_option maxRecDepth 100000
set_option maxHeartbeats 4000000
/-! the law: one console -/
namespace Bt
open PySem L2 LamX
set_option pp.maxSteps 900
local macro_rules | `(tactic| walk_at "lk") => `(tactic| first
  | assumption
  | exact upd_same
  | (refine at_new ?_ ?_; · assumption
     walk_at "lk")
  | (refine at_mut ?_ ?_; · assumption
     walk_at "lk")
  | (refine at_same ?_ ?_; · assumption
     walk_at "lk"))
local macro_rules | `(tactic| walk_at "w1") => `(tactic| with_reducible first
  | refine w_seq ?_ | refine w_asg ?_ | refine w_name ?_ | refine w_ret ?_ | refine w_retN ?_ | refine w_drop ?_ | refine w_next ?_
  | refine w_op ?_ | refine w_var rfl ?_ | refine w_c ?_ | refine w_un ?_ | refine w_test ?_ | refine w_tB ?_ | refine w_bl ?_ | refine w_chain ?_
  | refine w_and ?_ | refine w_or ?_ | refine w_not ?_ | refine w_andV ?_ | refine w_orV ?_ | refine w_notV ?_ | refine w_cons ?_ | refine w_nil ?_
  | refine w_par ?_ | refine w_parL ?_ | refine w_call ?_ | refine w_CB ?_ | refine w_prop ?_ | refine w_fld ?_ | refine w_meth ?_ | refine w_make ?_ | refine w_tup ?_ | refine w_lst ?_
  | refine w_I0 ?_ | refine w_U ?_ | refine w_addI ?_ | refine w_eqI ?_ | refine w_eqS ?_ | refine w_neI ?_ | refine w_neS ?_ | refine w_isN ?_ | refine w_notN ?_
  | refine w_tt ?_ | refine w_ff ?_ | refine w_nt ?_ | refine w_nf ?_ | refine w_ntt ?_ | refine w_att ?_ | refine w_js ?_ | refine w_jsN ?_ | refine w_fmtS ?_ | refine w_m1 ?_ | refine w_m1L ?_ | refine w_sfld ?_ | refine w_bm ?_ | refine w_dc ?_ | refine w_iIt ?_ | refine w_star ?_ | refine w_mkO ?_ | refine w_raise ?_ | refine w_osg ?_ | refine w_gfld ?_ | refine w_kget ?_ | refine w_dget ?_ | refine w_din ?_ | refine w_dnotin ?_ | refine w_slice ?_ | refine w_on ?_ | refine w_os ?_ | refine w_sub ?_ | refine w_bmN ?_ | refine w_intI ?_ | refine w_intB ?_ | refine w_strS ?_
  | refine w_lc ?_ | refine w_for ?_ | refine w_iL ?_ | refine w_iT ?_ | refine w_iS ?_ | refine w_iK ?_ | refine w_iR1 ?_ | refine w_iR3 ?_ | refine w_iET ?_ | refine w_srcS ?_)
local macro_rules | `(tactic| walk_at "w") => `(tactic| (repeat walk_at "w1"); try (with_reducible refine w_ifN ?_))
local macro_rules | `(tactic| walk_at "ws") => `(tactic| with_reducible first | refine w_seq ?_ | refine w_next ?_)
local macro_rules | `(tactic| walk_at "w2") => `(tactic| repeat with_reducible first | refine w_seq ?_ | refine w_asg ?_ | refine w_name ?_ | refine w_next ?_)
local macro_rules | `(tactic| walk_at "sz") => `(tactic| (rw [sizeLine_eq]; exact Nat.le_of_ble_eq_true rfl))
theorem passL {X : Cx} {A : Around} {outer : List Env} {s : Shared} {H : Hp} {E : XK} {scope : Scope} {f c' : Addr} : Passes (L2N.CX (lamN X A outer s H E scope f c').prog (lamN X A outer s H E scope f c').w) (lamN X A outer s H E scope f c') E := L2N.passes_call (L2N.takes_of rfl rfl rfl rfl) fun _ _ _ _ h => h
/-- all but the urn and tables stay -/
def Lt (u : Addr) (H H' : Hp) : Prop := ∀ b o, b ≠ u → (∀ ps, o ≠ .tbl ps) → H b = some o → H' b = some o
theorem Keep.lt {u : Addr} {H H' : Hp} (k : Keep u H H') : Lt u H H' := fun b o n _ h => k b o n h
theorem ExtN.lt {u : Addr} {H H' : Hp} (k : ExtN H H') : Lt u H H' := fun b o _ n h => k b o h n
theorem Lt.stay {u : Addr} {H H' : Hp} (k : Lt u H H') (hu : Urn H u) : Stay H H' := fun b o n h => by
  obtain ⟨x, y, z, e⟩ := hu
  exact k b o (fun q => n (by subst q; rw [e] at h; cases h; exact .inr (.inl ⟨x, y, z, rfl⟩))) (fun ps q => n (.inr (.inr ⟨ps, q⟩))) h
theorem ConAt.lt {K : Frag} {u cn : Addr} {H H' : Hp} {ps : List Pg} (k : Lt u H H') (hu : Urn H u) (h : ConAt K H cn ps) : ConAt K H' cn ps := by
  have st := k.stay hu
  have ins : ∀ {b C dx fs}, H b = some (.ins C dx fs) → H' b = some (.ins C dx fs) := fun {b C dx fs} e => k b _ (fun q => by
    subst q
    obtain ⟨x, y, z, e2⟩ := hu
    rw [e] at e2; cases e2) (fun ps z => by cases z) e
  obtain ⟨dx, dk, e, ddx, pg, e2, pa⟩ := h
  exact ⟨dx, dk, ins e, ddx, pg, ins e2, pa.stay st⟩
/-- all but the urn, tables, desks -/
def Kp (u : Addr) (H H' : Hp) : Prop := ∀ b o, b ≠ u → (∀ ps, o ≠ .tbl ps) → (∀ C dx v, o ≠ .ins C dx [("page", v)]) → H b = some o → H' b = some o
theorem Kp.refl {u : Addr} {H : Hp} : Kp u H H := fun _ _ _ _ _ h => h
theorem Kp.trans {u : Addr} {H H1 H2 : Hp} (a : Kp u H H1) (b : Kp u H1 H2) : Kp u H H2 := fun c o h1 h2 h3 e => b c o h1 h2 h3 (a c o h1 h2 h3 e)
theorem Lt.kp {u : Addr} {H H' : Hp} (k : Lt u H H') : Kp u H H' := fun b o n m _ h => k b o n m h
theorem Upd.kp {u : Addr} {H H' : Hp} (k : Upd H H') : Kp u H H' := by
  obtain ⟨dk, e, k⟩ := k
  exact fun b o _ _ n h => k b o (fun z => by subst z; obtain ⟨C, dx, v, q⟩ := e o h; exact n C dx v q) h
theorem tabS_of {H H' : Hp} {P : Addr} {q : Str} (t : TabS H P q) (e1 : ∀ ps, H P = some (.tbl ps) → H' P = some (.tbl ps)) (e2 : ∀ c, H c = some (CodeO c q) → H' c = some (CodeO c q)) : TabS H' P q := by
  obtain ⟨ps, h1, h2, h3⟩ := t
  refine ⟨ps, e1 _ h1, h2, fun pos cv hc => ?_⟩
  obtain ⟨c, a, b⟩ := h3 pos cv hc
  exact ⟨c, a, e2 _ b⟩
theorem tabs_keep {Tb : List (Addr × Str)} {u : Addr} {H H' : Hp} (t : Tabs Tb H) (hu : Urn H u) (k : Keep u H H') : Tabs Tb H' := fun p hp => tabS_of (t p hp) (fun ps e => k _ _ (fun z => by
  obtain ⟨x, y, w, e2⟩ := hu
  subst z
  rw [e] at e2; cases e2) e) fun c e => k _ _ (fun z => by
  obtain ⟨x, y, w, e2⟩ := hu
  subst z
  rw [e] at e2
  unfold CodeO at e2
  cases e2) e
theorem tabs_upd {Tb : List (Addr × Str)} {H H' : Hp} (t : Tabs Tb H) (u : Upd H H') : Tabs Tb H' := by
  obtain ⟨dk, e0, k⟩ := u
  exact fun p hp => tabS_of (t p hp) (fun ps e => k _ _ (fun z => by
    subst z
    obtain ⟨C, dx, v, q⟩ := e0 _ e
    cases q) e) fun c e => k _ _ (fun z => by
    subst z
    obtain ⟨C, dx, v, q⟩ := e0 _ e
    unfold CodeO at q
    cases q) e
theorem Urn.upd {u : Addr} {H H' : Hp} (h : Urn H u) (k : Upd H H') : Urn H' u := by
  obtain ⟨dk, e0, k⟩ := k
  obtain ⟨x, y, z, e⟩ := h
  exact ⟨x, y, z, k _ _ (fun q => by
    subst q
    obtain ⟨C, dx, v, q⟩ := e0 _ e
    cases q) e⟩
theorem Urn.ext {u : Addr} {H H' : Hp} (h : Urn H u) (k : ExtN H H') : Urn H' u := by
  obtain ⟨x, y, z, e⟩ := h
  exact ⟨x, y, z, k _ _ e fun ps q => by cases q⟩
theorem nv_end {as : List Addr} {a : Addr} : ¬ Vary (.lst (as.map V.ref ++ [.ref a])) := by
  have h := nv_refs (as := as ++ [a])
  rw [List.map_append] at h
  exact h
theorem nv_strs {ws : List Str} : ¬ Vary (.lst (ws.map V.str)) := fun h => by
  rcases h with ⟨_, _, _, z⟩ | ⟨a, b, c, z⟩ | ⟨_, z⟩
  · cases z
  · cases ws with
    | nil => cases z
    | cons x r => injection z with z; injection z with z _; cases z
  · cases z
/-- the law's list of pages, the newest last -/
def LPs (H : Hp) (pl : Addr) (ps : List Pg) : Prop := ∃ as : List Addr, H pl = some (.lst (as.map V.ref)) ∧ Paired (LPg H) as ps.reverse
theorem LPs.stay {H H' : Hp} {pl : Addr} {ps : List Pg} (s : Stay H H') (h : LPs H pl ps) : LPs H' pl ps := by
  obtain ⟨as, e, p⟩ := h
  exact ⟨as, s _ _ nv_refs e, Paired.imp (fun _ _ r => r.stay s) p⟩
theorem LPs.split {H : Hp} {pl : Addr} {P : Pg} {ps : List Pg} (h : LPs H pl (P :: ps)) : ∃ (as : List Addr) (a : Addr), H pl = some (.lst (as.map V.ref ++ [.ref a])) ∧ Paired (LPg H) as ps.reverse ∧ LPg H a P ∧ as.length = ps.length := by
  obtain ⟨as, e, p⟩ := h
  rw [List.reverse_cons] at p
  obtain ⟨l0, a, rfl, p0, q⟩ := paired_split p
  exact ⟨l0, a, by rw [e, List.map_append]; rfl, p0, q, by rw [paired_len p0, List.length_reverse]⟩
theorem ConAt.lock {K : Frag} {H : Hp} {s cn : Addr} {kvs : List (Key × V)} {sh : Shelf} {od : Obj} {ps : List Pg} (e : H s = some (.dK kvs)) (en : Ents (PlanAt H) kvs sh) (ne : kvs ≠ []) (h : ConAt K H cn ps) : ConAt K (upd H s (.frz od (.dK kvs))) cn ps := by
  obtain ⟨dx, dk, e1, da⟩ := h
  exact ⟨dx, dk, noD_lock e _ _ (fun _ z => by cases z) e1, da.lock e en ne⟩
/-- what holds between turns -/
structure Rt (K : Frag) (Tb : List (Addr × Str)) (H0 : Hp) (u cn : Addr) (n : Nat) (ps : List Pg) (H : Hp) : Prop where
  kp : Kp u H0 H
  urn : Urn H u
  tabs : Tabs Tb H
  con : ConAt K H cn ps
  pok : ∀ p ∈ ps, LOk (600000 + (n : Int)) p ∧ p.ws.length ≤ n ∧ p.sh.length ≤ n
  len : ps.length ≤ n + 1
section
variable {K : Frag} {Tb : List (Addr × Str)} {H0 H H' : Hp} {u cn : Addr} {n : Nat} {ps : List Pg}
theorem Rt.keep (r : Rt K Tb H0 u cn n ps H) (k : Keep u H H') (hu : Urn H' u) : Rt K Tb H0 u cn n ps H' := ⟨r.kp.trans k.lt.kp, hu, tabs_keep r.tabs r.urn k, r.con.lt k.lt r.urn, r.pok, r.len⟩
theorem Rt.same (r : Rt K Tb H0 u cn n ps H) (s : Same H H') : Rt K Tb H0 u cn n ps H' := r.keep (Same.keep s) (r.urn.same s)
theorem Rt.ext (r : Rt K Tb H0 u cn n ps H) (k : ExtN H H') (t : Tabs Tb H') : Rt K Tb H0 u cn n ps H' := ⟨r.kp.trans (ExtN.lt k).kp, r.urn.ext k, t, r.con.lt (ExtN.lt k) r.urn, r.pok, r.len⟩
theorem Rt.upd {ps' : List Pg} (r : Rt K Tb H0 u cn n ps H) (k : Upd H H') (c : ConAt K H' cn ps') (pok : ∀ p ∈ ps', LOk (600000 + (n : Int)) p ∧ p.ws.length ≤ n ∧ p.sh.length ≤ n) (len : ps'.length ≤ n + 1) : Rt K Tb H0 u cn n ps' H' := ⟨r.kp.trans k.kp, r.urn.upd k, tabs_upd r.tabs k, c, pok, len⟩
theorem Rt.more {n' : Nat} (r : Rt K Tb H0 u cn n ps H) (h : n ≤ n') : Rt K Tb H0 u cn n' ps H := ⟨r.kp, r.urn, r.tabs, r.con, fun p hp => ⟨(r.pok p hp).1.mono (by omega), Nat.le_trans (r.pok p hp).2.1 h, Nat.le_trans (r.pok p hp).2.2 h⟩, by have := r.len; omega⟩
theorem Rt.stay (r : Rt K Tb H0 u cn n ps H) (k : Keep u H H') : Stay H H' := r.urn.keep k
theorem ExtN.stay (k : ExtN H H') : Stay H H' := fun b o n h => k b o h fun ps z => n (.inr (.inr ⟨ps, z⟩))
end
section
variable {P : Program} {w : World} {K : Frag} {mg : Str → Option Value} {base : Heap} {H : Hp} {Q : VK} {σ : L2.St}
abbrev s__law_right : Stmt := top 125
theorem sc__law_right : FnScope ["_law_urn_here", "_law_turn", "_law_console_here", "_law_pages", "_law_told", "_law_due", "_law_deed", "_law_said", "_law_shelf", "_law_wishes", "_law_later", "_law_title"] ["_law_urn_here"] (defScope s__law_right) := ⟨rfl, rfl, rfl, by decide +kernel, rfl, by decide +kernel, by decide +kernel⟩
/-- the name of the lambdas -/
def lamQ : Str := (PyProof.Rows.envOfC "_law_right" (defScope s__law_right) 0 0 .none).qual ++ "<lambda>"
def spRight (Tb : List (Addr × Str)) : Sp := fun vs H Q _ => ∃ u, vs = [.ref u] ∧ Urn H u ∧ Tabs Tb H ∧ ∀ H', Kp u H H' → Tabs Tb H' → Q (.bl true) H'
theorem ok_law_right (T : Txt w K mg) (T2 : Tx2 K mg) {c Pt : Addr} (TB : TabB base mg c Pt) (F : FnAtC K mg "_law_right" (top 125) fun v => v = .ref c) : OwnG P w K mg base "_law_right" 16 ["_law_urn_here"] (spRight [(Pt, lamQ)]) := by
  refine own_ofG F sc__law_right (fun _ _ _ _ _ _ us hl => match us, hl with | [_], _ => rfl) (fun vs H Q E h => ?_) (fun f cdv A outer s H vs Q E hcd hgu hr h => ?_)
  · obtain ⟨u, rfl, _⟩ := h; rfl
  · have sc := sc__law_right
    subst hcd
    have hu64 := hr.units
    have hu65 := units65 hr
    have hu1 := units1 hr
    obtain ⟨u, rfl, hu, hT, k⟩ := h
    have hmT : (Pt, lamQ) ∈ [(Pt, lamQ)] := List.mem_cons_self
    have hmU : ∀ p ∈ [(Pt, lamQ)], p.1 = Pt → p.2 = lamQ := fun p hp _ => by cases List.mem_singleton.mp hp; rfl
    refine ⟨_, (pss_cons (ps_asg (pe_tup (pa_cons (pe_ownC0 (ok_Console_init T) hr passN) (pa_cons (pe_lst (pa_cons (pe_tup (pa_cons pe_dnewK (pa_cons (pe_lst pa_nil) pa_nil))) pa_nil)) pa_nil))) (pg_tup rfl (pgs_cons (pg_name (i := 2) sc.nd rfl (Or.inr rfl)) (pgs_cons (pg_name (i := 3) sc.nd rfl (Or.inl rfl)) pgs_nil))))
      (pss_cons (ps_for (passes_of rfl) rfl (pi_range1 rfl T.b_range (pa_cons pe_int pa_nil)) (pg_name (i := 1) sc.nd rfl (Or.inr rfl)) (pss_cons (ps_if (pt_cmpR (op_eqU (by exact hu64)) (pe_own (ok_law_grab T) hr passN (pa_cons (pv 0) (pa_cons pe_int pa_nil))) pe_int (nomark _)) (pss_cons (ps_set (i := 5) sc.nd rfl (Or.inl rfl) (pe_ifExp (pt_cmpR op_gt (pe_callB (call_lenU) (by rfl) T.b_len (by decide +kernel) (pa_cons (pv 3) pa_nil)) pe_int (nomark _)) (pe_lst (pa_cons pe_str (pa_cons pe_str pa_nil))) (pe_lst (pa_cons pe_str pa_nil))))
      (pss_one (ps_par (i := 4) (j := 3) (by rfl) sc.nd rfl rfl (by decide) rfl rfl (pa_cons (pe_heard T T2 rfl TB rfl hmT hmU hr (lamS_by (by rfl)) rfl (fun _ _ _ _ _ => rfl) (fun A1 outer1 s1 H1 E1 f1 c1 r2 => (pe_ownM (ok_Console_run T) T.k_Console r2 passL (pv 2) (pa_cons pe_str pa_nil)))) (pa_cons (pe_slice sl_U (pv 3) po_none (po_some (pe_callB (call_max2 rfl) (by rfl) T.b_max (by decide +kernel) (pa_cons pe_int (pa_cons (pe_op op_sub (pe_callB (call_lenU) (by rfl) T.b_len (by decide +kernel) (pa_cons (pv 3) pa_nil)) pe_int) pa_nil))))) pa_nil)) (by rfl)))) (pss_cons (ps_set (i := 6) sc.nd rfl (Or.inl rfl) (pe_own (ok_law_new_deed T) hr passN (pa_cons (pv 0) (pa_cons (pe_ix ix_seq (pv 3) (pe_un un_neg pe_int) (fun _ _ => rfl)) (pa_cons (pe_lst (pa_cons pe_str (pa_cons pe_str (pa_cons pe_str pa_nil)))) pa_nil)))))
      (pss_cons (ps_asg (pe_own (ok_law_behind T) hr passN (pa_cons (pe_ix ix_seq (pv 3) (pe_un un_neg pe_int) (fun _ _ => rfl)) (pa_cons (pv 6) pa_nil))) (pg_tup rfl (pgs_cons (pg_name (i := 5) sc.nd rfl (Or.inl rfl)) (pgs_cons (pg_name (i := 10) sc.nd rfl (Or.inl rfl)) pgs_nil))))
      (pss_cons (ps_set (i := 7) sc.nd rfl (Or.inr rfl) (pe_own (ok_law_written T) hr passN (pa_cons (pv 6) pa_nil)))
      (pss_cons (ps_set (i := 4) sc.nd rfl (Or.inl rfl) (pe_heard T T2 rfl TB rfl hmT hmU hr (lamS_by (by rfl)) rfl (fun _ _ _ _ _ => rfl) (fun A1 outer1 s1 H1 E1 f1 c1 r2 => (pe_ifExp (pt_cmpR op_gt (pv 1) pe_int (nomark _)) (pe_ownM (ok_Console_run T) T.k_Console r2 passL (pv 2) (pa_cons (pv 7) pa_nil)) (pe_ownMK (ok_Console_run2 T) T.k_Console r2 passL (pv 2) (pv 7))))))
      (pss_cons (ps_set (i := 3) sc.nd rfl (Or.inl rfl) (pe_op op_addU (pv 3) (pe_ifExp (pt_cmpR (op_eqU (by exact hu64)) (pv 5) (pe_lst pa_nil) (nomark _)) (pe_lst (pa_cons (pv 10) pa_nil)) (pe_lst pa_nil))))
      (pss_one (ps_set (i := 5) sc.nd rfl (Or.inl rfl) (pe_ifExp (pt_cmpR (op_neU (by exact hu64)) (pv 5) (pe_lst pa_nil) (nomark _)) (pv 5) (pe_lst (pa_cons pe_str (pa_cons pe_str pa_nil))))))))))))
      (pss_cons (ps_asg (pe_ix ix_seq (pv 3) (pe_un un_neg pe_int) (fun _ _ => rfl)) (pg_tup rfl (pgs_cons (pg_name (i := 8) sc.nd rfl (Or.inr rfl)) (pgs_cons (pg_name (i := 9) sc.nd rfl (Or.inl rfl)) pgs_nil))))
      (pss_cons (ps_if (PW.pt (pw_or (pt_cmpR (op_neU (by exact hu64)) (pv 4) (pv 5) (nomark _)) (pw_or1 (pt_not (pt_val (pe_ownG (by exact hgu) (ok_law_desk_is T) hr passN (pa_cons (pe_ownP (ok_Console_desk T) T.k_Console hr passN (pv 2)) (pa_cons (pe_ix ix_seq (pv 3) (pe_un un_neg pe_int) (fun _ _ => rfl)) (pa_cons (pe_op op_sub (pe_callB (call_lenU) (by rfl) T.b_len (by decide +kernel) (pa_cons (pv 3) pa_nil)) pe_int) pa_nil))))))))) (pss_one (ps_ret pe_bl)) pss_nil)
      (pss_cons (ps_set (i := 4) sc.nd rfl (Or.inl rfl) (pe_lst (pa_cons (pe_ownM (ok_Console_run T) T.k_Console hr passN (pv 2) (pa_cons pe_str pa_nil)) (pa_cons (pe_ownM (ok_Console_run T) T.k_Console hr passN (pv 2) (pa_cons pe_str pa_nil)) pa_nil))))
      (pss_cons (ps_if (pt_cmpR (op_neU (by exact hu64)) (pv 4) (pe_lst (pa_cons (pe_join pe_str (pe_callB (call_sortedD rfl) (by rfl) T.b_sorted (by decide +kernel) (pa_cons (pv 8) pa_nil))) (pa_cons (pe_callTy call_strU (by rfl) T.b_str (by decide +kernel) (pa_cons (pe_callB (call_lenU) (by rfl) T.b_len (by decide +kernel) (pa_cons (pv 9) pa_nil)) pa_nil)) pa_nil))) (nomark _)) (pss_one (ps_ret pe_bl)) pss_nil)
      (pss_one (ps_lock (ps_if (pt_cmpR (op_neU (by exact hu64)) (pe_lc (own := [("_law_title", 11)]) rfl sc.nd (pi_keys (pv 8)) (blkOk_by (by rfl)) (fun _ _ _ _ _ => (pg_name (i := 11) sc.nd rfl (Or.inl rfl))) (fun _ _ _ _ _ => (pts_one (pt_cmpR (op_neUK K (by exact hu64)) (pe_ownM (ok_Console_run T) T.k_Console hr passN (pv 2) (pa_cons (pe_op op_addU pe_str (pv 11)) pa_nil)) (pe_ownP (ok_Frame_text T) T.k_Frame hr passN (pe_own (ok_law_framed T) hr passN (pa_cons (pe_dget (by exact hu1) (pv 8) (pv 11) (fun _ _ => rfl)) pa_nil))) (nomark _)))) (fun _ _ _ _ _ => (pv 11))) (pe_lst pa_nil) (nomark _)) (pss_one (ps_ret pe_bl)) pss_nil)))))))))
      (pss_one (ps_ret pe_bl)))), ?_⟩
    walk_at "w"
    intro x dxp hx hdx hne
    refine ⟨x, dxp, rfl, upd_same, fun H1 kp ca => ⟨rfl, ?_⟩⟩
    have s1 : Same H H1 := fun b o e => kp b o (ne_of_none e hx) (at_mut (ne_of_none e hx) (at_new hdx e))
    walk_at "w"
    intro d0 hd0
    walk_at "w"
    refine ⟨by walk_at "sz", fun l0 hl0 => ?_⟩
    walk_at "w"
    refine ⟨by walk_at "sz", fun t0 ht0 => ?_⟩
    walk_at "w"
    refine ⟨by walk_at "sz", fun pl hpl => ?_⟩
    walk_at "w"
    refine ⟨by walk_at "sz", fun pr hpr => ?_⟩
    refine w_unp2 upd_same ?_
    walk_at "w"
    have s2 := same_new (o := .dK []) hd0 (Same.refl _)
    have s3 := same_new (o := .lst []) hl0 (Same.refl _)
    have s4 := same_new (o := .tup [.ref d0, .ref l0]) ht0 (Same.refl _)
    have s5 := same_new (o := .lst [.ref t0]) hpl (Same.refl _)
    have s6 := same_new (o := .tup [.ref x, .ref pl]) hpr (Same.refl _)
    have s16 := ((((s2.trans s3).trans s4).trans s5).trans s6)
    have r0 : Rt K [(Pt, lamQ)] H u x 0 [⟨[], []⟩] _ := ⟨(Same.keep (s1.trans s16)).lt.kp, hu.same (s1.trans s16), hT.ext (s1.trans s16), ca.same s16, fun p hp => by
      obtain rfl := List.mem_singleton.mp hp
      exact ⟨⟨⟨fun _ _ z => (nomatch z), List.nodup_nil, fun _ z => (nomatch z), fun _ z => (nomatch z), Nat.zero_le _, Nat.zero_le _⟩, fun _ z => (nomatch z)⟩, Nat.le_refl _, Nat.le_refl _⟩, Nat.le_refl _⟩
    have lp0 : LPs _ pl [⟨[], []⟩] := ⟨[t0], s6 _ _ upd_same, .cons ⟨d0, l0, s6 _ _ (s5 _ _ upd_same), ⟨[], s6 _ _ (s5 _ _ (s4 _ _ (s3 _ _ upd_same))), .nil⟩, ⟨[], s6 _ _ (s5 _ _ (s4 _ _ upd_same)), .nil⟩⟩ .nil⟩
    revert r0 lp0
    generalize upd (upd (upd (upd (upd H1 d0 (.dK [])) l0 (.lst [])) t0 (.tup [.ref d0, .ref l0])) pl (.lst [.ref t0])) pr (.tup [.ref x, .ref pl]) = H6
    intro r0 lp0
    clear s1 s2 s3 s4 s5 s6 s16 hpr hpl ht0 hl0 hd0 ca kp hne hdx hx
    refine w_srcR (by omega) (by omega) ?_
    refine forB_range (fun i σ H' => ∃ pl P ps v1 v4 v5 v6 v7 v8 v9 v10 v11, σ = [some (.ref u), v1, some (.ref x), some (.ref pl), v4, v5, v6, v7, v8, v9, v10, v11] ∧ Rt K [(Pt, lamQ)] H u x i (P :: ps) H' ∧ LPs H' pl (P :: ps)) ⟨pl, _, _, _, _, _, _, _, _, _, _, _, rfl, r0, lp0⟩ (fun i σ H' hi h => ?_) fun σ H' h => ?_
    · clear r0 lp0 pl
      obtain ⟨pl, P, ps, v1, v4, v5, v6, v7, v8, v9, v10, v11, rfl, r, lp⟩ := h
      walk_at "w"
      obtain ⟨as, a, epl, pas, lpg, hal⟩ := lp.split
      have lo := (r.pok P List.mem_cons_self).1
      refine w_ifJ2 (fun σ' H2 => ∃ pl' P' ps' tl du ws v6 v7 v8 v9 v10 v11, σ' = [some (.ref u), some (.int (0 + (i : Nat))), some (.ref x), some (.ref pl'), some (.ref tl), some (.ref du), v6, v7, v8, v9, v10, v11] ∧ Rt K [(Pt, lamQ)] H u x (i + 1) (P' :: ps') H2 ∧ LPs H2 pl' (P' :: ps') ∧ H2 tl = some (.lst ((ws : List Str).map V.str)) ∧ H2 du = some (.lst (ws.map V.str))) (fun H2 => Keep u H' H2 ∧ Urn H2 u) (fun q hq => ?_) (fun H2 hk Q2 hQ => ?_) (fun H2 hk Q2 hQ => ?_) fun σ2 H2 hj => ?_
      · walk_at "w"
        refine w_grab r.urn (by decide) (by decide) fun y H2 y0 y1 k1 u1 => ?_
        walk_at "w"
        exact hq _ _ ⟨k1, u1⟩
      · obtain ⟨k1, u1⟩ := hk
        have r1 := r.keep k1 u1
        have e1 := r.stay k1 _ _ nv_end epl
        have lg1 := lpg.stay (r.stay k1)
        have pa1 := Paired.imp (fun _ _ x => LPg.stay (r.stay k1) x) pas
        clear pas lpg epl lp r k1 u1
        walk_at "w"
        refine w_ifE ?_
        walk_at "w"
        refine w_lenL e1 ?_
        walk_at "w"
        rw [List.length_append, List.length_map, List.length_singleton, hal]
        cases ps with
        | nil =>
          obtain rfl : as = [] := List.length_eq_zero_iff.mp hal
          rw [if_neg (by simp)]
          walk_at "w"
          refine ⟨by walk_at "sz", fun du hdu => ?_⟩
          have s2 := same_new (o := .lst [.str "NothingToUndo"]) hdu (Same.refl _)
          have r2 := r1.same s2
          have edu : upd H2 du (.lst [.str "NothingToUndo"]) du = _ := upd_same
          have lg2 := lg1.stay (Same.stay s2)
          have e2 := s2 _ _ e1
          generalize upd H2 du (.lst [.str "NothingToUndo"]) = H3 at r2 edu lg2 e2 ⊢
          clear r1 lg1 pa1 e1 s2 hdu
          walk_at "w"
          refine w_told (fun p H4 => H4 p = some (.lst ([("NothingToUndo" : Str)].map V.str)) ∧ Rt K [(Pt, lamQ)] H u x i [P] H4 ∧ Stay H3 H4) r2.tabs (fun H4 eN T4 E4 Qb hE hB => ?_) fun p H4 ⟨ep, r4, st⟩ => ?_
          · have r4 := r2.ext eN T4
            walk_at "w"
            obtain ⟨cdx, cdk, ec, _⟩ := id r4.con
            refine w_methL ec rfl ?_
            walk_at "w"
            refine ⟨x, .undo, P, [], by rw [show cmdTx .undo = "undo" from tx1 _], r4.con, trivial, trivial, lo.ok, fun n => absurd rfl n, fun _ H5 s5 => hE _ _ _ ⟨.nothing, ⟨rfl, rfl⟩, trivial, fun p H6 s6 e6 => ⟨e6, r4.same (s5.trans s6), (ExtN.stay eN).trans (Same.stay (s5.trans s6))⟩⟩⟩
          · walk_at "w"
            have e4 := st _ _ nv_end e2
            refine w_lenL e4 ?_
            walk_at "w"
            refine ⟨_, _, rfl, ?_⟩
            walk_at "w"
            refine ⟨_, rfl, ?_⟩
            refine w_slL (SqL.of e4) fun q hq => ?_
            rw [cut_max, if_pos (show List.map V.ref [] = [] from rfl)]
            walk_at "w"
            exact hQ _ _ ⟨q, P, [], p, du, ["NothingToUndo"], _, _, _, _, _, _, rfl, (r4.same (same_new hq (Same.refl _))).more (Nat.le_succ _), ⟨[a], upd_same, .cons (lg2.stay (st.trans (Same.stay (same_new hq (Same.refl _))))) .nil⟩, at_new hq ep, at_new hq (st _ _ (nv_strs (ws := ["NothingToUndo"])) edu)⟩
        | cons P2 ps2 =>
          rw [if_pos (by simp; omega)]
          walk_at "w"
          refine ⟨by walk_at "sz", fun du hdu => ?_⟩
          have s2 := same_new (o := .lst [.str "told", .str "'ok'"]) hdu (Same.refl _)
          have r2 := r1.same s2
          have edu : upd H2 du (.lst [.str "told", .str "'ok'"]) du = _ := upd_same
          have pa2 := Paired.imp (fun _ _ x => LPg.stay (Same.stay s2) x) pa1
          have e2 := s2 _ _ e1
          generalize upd H2 du (.lst [.str "told", .str "'ok'"]) = H3 at r2 edu pa2 e2 ⊢
          clear r1 lg1 pa1 e1 s2 hdu
          walk_at "w"
          refine w_told (fun p H4 => H4 p = some (.lst ([("told" : Str), "'ok'"].map V.str)) ∧ Rt K [(Pt, lamQ)] H u x i (P2 :: ps2) H4 ∧ Stay H3 H4) r2.tabs (fun H4 eN T4 E4 Qb hE hB => ?_) fun p H4 ⟨ep, r4, st⟩ => ?_
          · have r4 := r2.ext eN T4
            walk_at "w"
            obtain ⟨cdx, cdk, ec, _⟩ := id r4.con
            refine w_methL ec rfl ?_
            walk_at "w"
            refine ⟨x, .undo, P, P2 :: ps2, by rw [show cmdTx .undo = "undo" from tx1 _], r4.con, trivial, trivial, lo.ok, fun _ H5 up ca => hB H5 fun p H6 s6 e6 => ⟨e6, (r4.upd up ca (fun p hp => r4.pok p (List.mem_cons_of_mem _ hp)) (by have := r4.len; rw [List.length_cons] at this; omega)).same s6, ((ExtN.stay eN).trans up.stay).trans (Same.stay s6)⟩, fun n => nomatch n⟩
          · walk_at "w"
            have e4 := st _ _ nv_end e2
            refine w_lenL e4 ?_
            walk_at "w"
            refine ⟨_, _, rfl, ?_⟩
            walk_at "w"
            refine ⟨_, rfl, ?_⟩
            refine w_slL (SqL.of e4) fun q hq => ?_
            have nas : ¬ List.map V.ref as = [] := fun z => by
              have := congrArg List.length z
              rw [List.length_map, hal] at this
              cases this
            rw [cut_max, if_neg nas]
            walk_at "w"
            exact hQ _ _ ⟨q, P2, ps2, p, du, ["told", "'ok'"], _, _, _, _, _, _, rfl, (r4.same (same_new hq (Same.refl _))).more (Nat.le_succ _), ⟨as, upd_same, Paired.imp (fun _ _ x => LPg.stay (st.trans (Same.stay (same_new hq (Same.refl _)))) x) pa2⟩, at_new hq ep, at_new hq (st _ _ (nv_strs (ws := ["told", "'ok'"])) edu)⟩
      · obtain ⟨k1, u1⟩ := hk
        have r1 := r.keep k1 u1
        have e1 := r.stay k1 _ _ nv_end epl
        have lg1 := lpg.stay (r.stay k1)
        have pa1 := Paired.imp (fun _ _ x => LPg.stay (r.stay k1) x) pas
        have wl := (r.pok P List.mem_cons_self).2.1
        have sl := (r.pok P List.mem_cons_self).2.2
        clear pas lpg epl lp r k1 u1
        walk_at "w"
        refine w_ixLa e1 atI_end ?_
        walk_at "w"
        refine ⟨by walk_at "sz", fun tn htn => ?_⟩
        have s2 := same_new (o := .lst [.str "a", .str "zz", .str "rank"]) htn (Same.refl _)
        refine ⟨u, a, tn, P, 600000 + (i : Int), rfl, r1.urn.same s2, lg1.stay (Same.stay s2), upd_same, lo, by omega, by omega, fun dd H3 c k3 u3 da dk => ?_⟩
        have r2 := (r1.same s2).keep k3 u3
        have st2 := (Same.stay s2).trans ((r1.same s2).stay k3)
        have e2 := st2 _ _ nv_end e1
        have lg2 := lg1.stay st2
        have pa2 := Paired.imp (fun _ _ x => LPg.stay st2 x) pa1
        clear r1 e1 lg1 pa1 s2 k3 u3 htn st2
        walk_at "w"
        refine w_ixLa e2 atI_end ?_
        walk_at "w"
        refine ⟨a, dd, P, c, _, _, rfl, lg2, da, dk, lo, fun q du la H4 s4 eq ee b1 b2 => ?_⟩
        refine w_unp2 eq ?_
        obtain ⟨bw, ebw⟩ := behErr_str P c
        have r4 := r2.same s4
        have e4 := s4 _ _ e2
        have pa4 := Paired.imp (fun _ _ x => LPg.stay (Same.stay s4) x) pa2
        have lg4 := lg2.stay (Same.stay s4)
        have da4 := da.stay (Same.stay s4)
        clear r2 e2 lg2 pa2 eq s4 da
        walk_at "w"
        refine ⟨dd, c, rfl, da4, dk.ok, fun H5 s5 => ?_⟩
        have r5 := r4.same s5
        have e5 := s5 _ _ e4
        have pa5 := Paired.imp (fun _ _ x => LPg.stay (Same.stay s5) x) pa4
        have lg5 := lg4.stay (Same.stay s5)
        have ee5 : H5 du = some (.lst (bw.map V.str)) := by rw [← ebw]; exact s5 _ _ ee
        have b15 := fun z => LPg.stay (Same.stay s5) (b1 z)
        have dd5 := da4.deed
        clear r4 e4 lg4 pa4 s5 da4 ee b1
        walk_at "w"
        refine w_told (fun p H6 => ∃ ws : List Str, H6 p = some (.lst (ws.map V.str)) ∧ Stay H5 H6 ∧ ((bw = [] ∧ ws = ([("told" : Str), "'ok'"] : List Str) ∧ Rt K [(Pt, lamQ)] H u x (i + 1) (nextPg P c :: P :: ps) H6) ∨ (bw ≠ [] ∧ ws = bw ∧ Rt K [(Pt, lamQ)] H u x (i + 1) (P :: ps) H6))) r5.tabs (fun H6 eN T6 E6 Qb hE hB => ?_) fun p H6 ⟨ws, ep, st, hh⟩ => ?_
        · have r6 := r5.ext eN T6
          obtain ⟨cdx, cdk, ec, _⟩ := id r6.con
          have run : spRun K [.ref x, .str (cmdTx c)] H6 Qb E6 := ⟨x, c, P, ps, rfl, r6.con, dk.ok, dk.fit, lo.ok, run_of lo.ok dk.ok dk.fit dd5 (fun e0 H7 up ca => hB H7 fun p H8 s8 e8 => by
              refine ⟨_, e8, ((ExtN.stay eN).trans up.stay).trans (Same.stay s8), .inl ⟨?_, rfl, ?_⟩⟩
              · rw [e0] at ebw
                exact strs_inj (bs := []) ebw.symm
              · have nx := LOk.next lo (by omega) (by omega) (by omega) dk e0
                have e1 : (600000 : Int) + ((i + 1 : Nat) : Int) = 600000 + (i : Int) + 1 := by omega
                refine ((r6.more (Nat.le_succ i)).upd up ca (fun p hp => ?_) ?_).same s8
                · rcases List.mem_cons.mp hp with rfl | hp
                  · rw [e1]
                    exact ⟨nx.1, by have := nx.2.1; omega, by have := nx.2.2; omega⟩
                  · exact (r6.more (Nat.le_succ i)).pok p hp
                · have := r6.len
                  rw [List.length_cons]; omega) (fun e ew eo cls d H7 s7 fly => hE _ _ _ ⟨e, fly, eo, fun p H8 s8 e8 => by
              rw [ebw] at ew
              have ew := strs_inj ew
              exact ⟨_, e8, (ExtN.stay eN).trans (Same.stay (s7.trans s8)), .inr ⟨fun z => e.words_ne (ew.trans z), ew, (r6.more (Nat.le_succ i)).same (s7.trans s8)⟩⟩⟩)⟩
          walk_at "w"
          refine w_ifE ?_
          walk_at "w"
          refine ite_same ?_
          walk_at "w"
          refine w_methL ec rfl ?_
          walk_at "w"
          exact run
        · have e6 := st _ _ nv_end e5
          have pa6 := Paired.imp (fun _ _ x => LPg.stay st x) pa5
          have lg6 := lg5.stay st
          have ee6 := st _ _ nv_strs ee5
          have b16 := fun z => LPg.stay st (b15 z)
          clear r5 e5 pa5 lg5 ee5 b15 st
          walk_at "w"
          refine w_ifE ?_
          walk_at "w"
          refine ⟨by walk_at "sz", fun z hz => ?_⟩
          refine w_eqLS (bs := []) (at_new hz ee6) upd_same ?_
          have sz := same_new (o := .lst []) hz (Same.refl _)
          rcases hh with ⟨hb, rfl, r6⟩ | ⟨hb, rfl, r6⟩
          · rw [decide_eq_true hb]
            subst hb
            walk_at "w"
            refine ⟨by walk_at "sz", fun y hy => ?_⟩
            have sy := same_new (o := .lst [.ref la]) hy sz
            refine w_addL (sy _ _ e6) upd_same ?_ fun pl2 hpl2 => ?_
            · rw [sizeLine_eq, List.length_append, List.length_map, hal]
              have := r6.len
              simp at this ⊢; omega
            have s7 := same_new (o := .lst (as.map V.ref ++ [.ref a] ++ [.ref la])) hpl2 sy
            have e7 : upd (upd (upd H6 z (.lst [])) y (.lst [.ref la])) pl2 (.lst (as.map V.ref ++ [.ref a] ++ [.ref la])) pl2 = _ := upd_same
            generalize upd (upd (upd H6 z (.lst [])) y (.lst [.ref la])) pl2 (.lst (as.map V.ref ++ [.ref a] ++ [.ref la])) = H7 at s7 e7 ⊢
            walk_at "w"
            refine w_ifE ?_
            walk_at "w"
            refine ⟨by walk_at "sz", fun z2 hz2 => ?_⟩
            have s8 := same_new (o := .lst []) hz2 (Same.refl _)
            refine w_neLS (bs := []) (as := []) (s8 _ _ (s7 _ _ ee6)) upd_same ?_
            rw [decide_eq_true rfl]
            walk_at "w"
            refine ⟨by walk_at "sz", fun du2 hdu2 => ?_⟩
            have s9 := same_new (o := .lst [.str "told", .str "'ok'"]) hdu2 s8
            walk_at "w"
            have st9 := Same.stay (s7.trans s9)
            exact hQ _ _ ⟨pl2, nextPg P c, P :: ps, p, du2, [("told" : Str), "'ok'"], _, _, _, _, _, _, rfl, r6.same (s7.trans s9), ⟨as ++ [a] ++ [la], by rw [s9 _ _ e7, List.map_append, List.map_append]; rfl, by
              rw [List.reverse_cons, List.reverse_cons]
              exact paired_app (paired_app (Paired.imp (fun _ _ x => LPg.stay st9 x) pa6) (.cons (lg6.stay st9) .nil)) (.cons ((b16 ebw).stay st9) .nil)⟩, (s7.trans s9) _ _ ep, upd_same⟩
          · rw [decide_eq_false hb]
            walk_at "w"
            refine ⟨by walk_at "sz", fun y hy => ?_⟩
            have sy := same_new (o := .lst []) hy sz
            refine w_addL (sy _ _ e6) upd_same ?_ fun pl2 hpl2 => ?_
            · rw [sizeLine_eq, List.length_append, List.length_map, hal]
              have := r6.len
              simp at this ⊢; omega
            rw [List.append_nil]
            have s7 := same_new (o := .lst (as.map V.ref ++ [.ref a])) hpl2 sy
            have e7 : upd (upd (upd H6 z (.lst [])) y (.lst [])) pl2 (.lst (as.map V.ref ++ [.ref a])) pl2 = _ := upd_same
            generalize upd (upd (upd H6 z (.lst [])) y (.lst [])) pl2 (.lst (as.map V.ref ++ [.ref a])) = H7 at s7 e7 ⊢
            walk_at "w"
            refine w_ifE ?_
            walk_at "w"
            refine ⟨by walk_at "sz", fun z2 hz2 => ?_⟩
            have s8 := same_new (o := .lst []) hz2 (Same.refl _)
            refine w_neLS (bs := []) (s8 _ _ (s7 _ _ ee6)) upd_same ?_
            rw [decide_eq_false hb]
            walk_at "w"
            have st9 := Same.stay (s7.trans s8)
            exact hQ _ _ ⟨pl2, P, ps, p, du, ws, _, _, _, _, _, _, rfl, r6.same (s7.trans s8), ⟨as ++ [a], by rw [s8 _ _ e7, List.map_append]; rfl, by
              rw [List.reverse_cons]
              exact paired_app (Paired.imp (fun _ _ x => LPg.stay st9 x) pa6) (.cons (lg6.stay st9) .nil)⟩, (s7.trans s8) _ _ ep, (s7.trans s8) _ _ ee6⟩
      · clear hal lpg pas epl lo a as lp r
        obtain ⟨pl, P, ps, tl, du, ws, v6, v7, v8, v9, v10, v11, rfl, r, lp, etl, edu⟩ := hj
        obtain ⟨as, a, epl, pas, lpg, hal⟩ := lp.split
        have lo := (r.pok P List.mem_cons_self).1
        obtain ⟨sd, wl, ea, hs, hw⟩ := id lpg
        walk_at "w"
        refine w_ixLa epl atI_end ?_
        refine w_unp2 ea ?_
        walk_at "w"
        refine w_ifg false (fun q hq => ?_) (fun c => nomatch c) fun _ H3 s3 => ?_
        · walk_at "w"
          refine w_neLS etl edu ?_
          rw [decide_eq_true rfl]
          walk_at "w"
          obtain ⟨cdx, cdk, ec, _⟩ := id r.con
          refine w_propL ec ⟨x, P :: ps, rfl, r.con, fun dk da => ?_⟩
          walk_at "w"
          refine w_ixLa epl atI_end ?_
          walk_at "w"
          refine w_lenL epl ?_
          walk_at "w"
          refine ⟨dk, a, _, P, ps, rfl, da, lpg, ?_, ?_, lo.ok, lo.nms, fun H4 s4 => ?_⟩
          · rw [List.length_append, List.length_map, List.length_singleton, hal]; omega
          · have := r.len
            rw [List.length_cons] at this
            have : i < 18 := hi
            omega
          · walk_at "w"
            exact hq _ s4
        · have r3 := r.same s3
          have lp3 := lp.stay (Same.stay s3)
          have hs3 := hs.sameL s3
          have hw3 := hw.same s3
          clear r lp hs hw lpg pas epl ea etl edu s3
          walk_at "w"
          obtain ⟨cdx, cdk, ec, _⟩ := id r3.con
          refine w_methL ec rfl ?_
          walk_at "w"
          refine ⟨x, .names, P, ps, by rw [show cmdTx .names = "names" from tx1 _], r3.con, trivial, trivial, lo.ok, fun ys H4 pm so s4 => ?_⟩
          walk_at "w"
          refine w_methL (s4 _ _ ec) rfl ?_
          walk_at "w"
          refine ⟨x, .claims, P, ps, by rw [show cmdTx .claims = "claims" from tx1 _], (r3.same s4).con, trivial, trivial, lo.ok, fun H5 s5 => ?_⟩
          walk_at "w"
          refine ⟨by walk_at "sz", fun tl2 htl2 => ?_⟩
          have s6 := (s4.trans s5).trans (same_new (o := .lst [.str (Txt.join (Str.ofString " ") ys), .str (nTx (P.ws.length : Nat))]) htl2 (Same.refl _))
          have r6 := r3.same s6
          have lp6 := lp3.stay (Same.stay s6)
          have hs6 := hs3.sameL s6
          have hw6 := hw3.same s6
          have e6 : upd H5 tl2 (.lst [.str (Txt.join (Str.ofString " ") ys), .str (nTx (P.ws.length : Nat))]) tl2 = _ := upd_same
          generalize upd H5 tl2 (.lst [.str (Txt.join (Str.ofString " ") ys), .str (nTx (P.ws.length : Nat))]) = H6 at s6 r6 lp6 hs6 hw6 e6 ⊢
          clear r3 lp3 hs3 hw3 ec htl2 s4 s5 s6
          obtain ⟨kvs, hk, en⟩ := id hs6
          have hkeys := Ents.keys en
          have hlen : kvs.length = P.sh.length := Paired.len en
          obtain ⟨ws2, ew, pw⟩ := id hw6
          walk_at "w"
          refine w_ifg false (fun q hq => ?_) (fun c => nomatch c) fun _ H7 s7 => ?_
          · walk_at "w"
            refine ⟨sd, kvs, P.sh.map (·.1), rfl, Rd.of hk, hkeys, by rw [List.length_map]; have := lo.ok.ls; omega, fun zs b pz sz hb => ?_⟩
            have ez : zs = ys := sorted_same (pz.trans pm.symm) sz so
            subst ez
            walk_at "w"
            refine ⟨_, b, zs, rfl, rfl, .inl (SqL.of upd_same), ?_, ?_⟩
            · have l1 : zs.length ≤ 20 := by rw [pm.length_eq, List.length_map]; exact lo.ok.ls
              have l2 : ∀ l : List Str, (∀ y ∈ l, y.length ≤ 8) → (l.map (·.length)).sum ≤ l.length * 8 := fun l => by
                induction l with
                | nil => intro _; simp
                | cons a r ih =>
                  intro h
                  have h1 := ih fun y hy => h y (List.mem_cons_of_mem _ hy)
                  have h2 := h a (List.mem_cons_self ..)
                  rw [List.map_cons, List.sum_cons, List.length_cons, Nat.succ_mul]; omega
              have l3 := l2 zs fun y hy => by
                obtain ⟨kv, hk, rfl⟩ := List.mem_map.mp ((List.Perm.mem_iff pm).mp hy)
                exact (name_ok (lo.ok.names kv hk)).2.1
              have l4 : (Str.ofString " ").length = 1 := by decide
              rw [l4]; omega
            · walk_at "w"
              refine w_lenL (at_new hb ew) ?_
              walk_at "w"
              rw [List.length_map, Paired.len pw]
              refine w_strI (num_small (by omega) (by have := lo.ok.lw; omega)).1 ?_
              walk_at "w"
              refine ⟨by walk_at "sz", fun e he => ?_⟩
              refine w_neLS (as := [_, _]) (bs := [_, _]) (at_new he (at_new hb e6)) upd_same ?_
              rw [decide_eq_true rfl]
              exact ⟨false, rfl, hq _ ((same_new hb (Same.refl _)).trans (same_new he (Same.refl _)))⟩
          · have r7 := r6.same s7
            have lp7 := lp6.stay (Same.stay s7)
            have hk7 := s7 _ _ hk
            have en7 : Ents (PlanAt H7) kvs P.sh := Paired.imp (fun _ _ r => ⟨r.1, r.2.elim fun x y => ⟨x, y.1, y.2.same s7⟩⟩) en
            clear r6 lp6 hs6 hw6 e6 hk en s7 ew pw
            walk_at "w"
            refine w_lock ⟨sd, .dK kvs, hk7, True.intro, fun od => ?_⟩
            walk_at "w"
            refine w_ifg false (fun q hq => ?_) (fun c => nomatch c) fun _ H8 s8 => ?_
            · walk_at "w"
              refine ⟨sd, od, rfl, .inl ⟨kvs, upd_same, ?_⟩⟩
              refine w_lcP (yl_keys upd_same) (fun _ => false) id (by rw [List.length_map]; have := lo.ok.ls; omega) (fun _ => rfl) (fun y hy H4 s4 q hq => ?_) (fun y hy c => nomatch c) fun p2 H4 hp2 s4 e4 => ?_
              · obtain ⟨kv, hkv, rfl⟩ := List.mem_map.mp hy
                have hm : kv.1 ∈ (P.sh.map (·.1)).map Sum.inr := by rw [← hkeys]; exact List.mem_map.mpr ⟨kv, hkv, rfl⟩
                obtain ⟨z, hz, ez⟩ := List.mem_map.mp hm
                obtain ⟨k0, v0⟩ := kv
                dsimp only at ez
                subst ez
                have ne : kvs ≠ [] := fun y => by rw [y] at hkv; cases hkv
                have ca4 : ConAt K H4 x (P :: ps) := (ConAt.lock (od := od) hk7 en7 ne r7.con).same s4
                obtain ⟨cdx, cdk, ec, _⟩ := id ca4
                have gz : shV P.sh z = some (plOf P.sh z) := by
                  have h := mem_shV hz
                  unfold plOf
                  cases e : shV P.sh z with
                  | none => rw [e] at h; cases h
                  | some x => rfl
                obtain ⟨pa, dv, pp⟩ := (Ents.get (t := z) en7).1 _ gz
                have pp4 : PlanAt H4 pa (plOf P.sh z) := (pp.nd (noD_lock (od := od) hk7)).same s4
                have zn : z ∈ names3 := by
                  obtain ⟨kv, hk, e⟩ := List.mem_map.mp hz
                  rw [← e]
                  exact lo.ok.names kv hk
                walk_at "w"
                refine w_methL ec rfl ?_
                walk_at "w"
                refine w_addS ?_ ?_
                · have h1 := name_len3 zn
                  have h2 : (Str.ofString "show ").length = 5 := by decide
                  rw [sizeLine_eq]
                  show (Str.ofString "show ").length + z.length ≤ _
                  omega
                walk_at "w"
                have gf : (shV P.sh z).isSome = true := by rw [gz]; rfl
                have etx : cmdTx (.shw z) = Str.ofString "show " ++ z := by
                  rw [show Str.ofString "show " = Str.ofString "show" ++ Str.ofString " " by decide]
                  show Txt.join _ [Str.ofString "show", z] = _
                  rw [tx2, tx1]
                refine ⟨x, .shw z, P, ps, by rw [etx], ca4, zn, gf, lo.ok, fun H5 s5 => ?_⟩
                walk_at "w"
                refine ⟨sd, _, rfl, .inl ⟨kvs, Sum.inr z, .inr ⟨od, s5 _ _ (s4 _ _ upd_same)⟩, rfl, dv.symm⟩, ?_⟩
                walk_at "w"
                refine ⟨pa, plOf P.sh z, rfl, pp4.same s5, lo.ok.sh z _ gz, fun b H6 s6 fb => ?_⟩
                obtain ⟨dx6, _, _, fb1, _⟩ := id fb
                refine w_propL fb1 ⟨b, _, _, rfl, fb, lo.ok.sh z _ gz, fun Ha sa => ?_⟩
                refine w_neS ⟨_, rfl, ?_⟩
                rw [decide_eq_true rfl]
                exact hq _ (s5.trans (s6.trans sa))
              · replace e4 : H4 p2 = some (.lst []) := by rw [e4]; simp
                walk_at "w"
                refine ⟨by walk_at "sz", fun p5 hp5 => ?_⟩
                refine w_neLS (as := []) (bs := []) (at_new hp5 e4) upd_same ?_
                rw [decide_eq_true rfl]
                exact ⟨false, rfl, hq _ (s4.trans (same_new hp5 (Same.refl _)))⟩
            · walk_at "w"
              refine ⟨s8 _ _ upd_same, ?_⟩
              exact ⟨pl, P, ps, _, _, _, _, _, _, _, _, _, rfl, r7.same (Same.unlock hk7 s8), lp7.stay (Same.stay (Same.unlock hk7 s8))⟩
    · obtain ⟨pl, P, ps, v1, v4, v5, v6, v7, v8, v9, v10, v11, rfl, r, lp⟩ := h
      walk_at "w"
      exact k _ r.kp r.tabs
end
end Bt

set_option Elab.async false
set_option linter.all false
set_option maxRecDepth 100000
set_option maxHeartbeats 4000000
/-! the law itself -/
namespace Bt
open PySem L2 LamX
set_option pp.maxSteps 900
local macro_rules | `(tactic| walk_at "lk") => `(tactic| first
  | assumption
  | exact upd_same
  | (refine at_new ?_ ?_; · assumption
     walk_at "lk")
  | (refine at_mut ?_ ?_; · assumption
     walk_at "lk")
  | (refine at_same ?_ ?_; · assumption
     walk_at "lk"))
local macro_rules | `(tactic| walk_at "w1") => `(tactic| with_reducible first
  | refine w_seq ?_ | refine w_asg ?_ | refine w_name ?_ | refine w_ret ?_ | refine w_retN ?_ | refine w_drop ?_ | refine w_next ?_
  | refine w_op ?_ | refine w_var rfl ?_ | refine w_c ?_ | refine w_un ?_ | refine w_test ?_ | refine w_tB ?_ | refine w_bl ?_ | refine w_chain ?_
  | refine w_and ?_ | refine w_or ?_ | refine w_not ?_ | refine w_andV ?_ | refine w_orV ?_ | refine w_notV ?_ | refine w_cons ?_ | refine w_nil ?_
  | refine w_par ?_ | refine w_parL ?_ | refine w_call ?_ | refine w_CB ?_ | refine w_prop ?_ | refine w_fld ?_ | refine w_meth ?_ | refine w_make ?_ | refine w_tup ?_ | refine w_lst ?_
  | refine w_I0 ?_ | refine w_U ?_ | refine w_addI ?_ | refine w_eqI ?_ | refine w_eqS ?_ | refine w_neI ?_ | refine w_neS ?_ | refine w_isN ?_ | refine w_notN ?_
  | refine w_tt ?_ | refine w_ff ?_ | refine w_nt ?_ | refine w_nf ?_ | refine w_ntt ?_ | refine w_att ?_ | refine w_js ?_ | refine w_jsN ?_ | refine w_fmtS ?_ | refine w_m1 ?_ | refine w_m1L ?_ | refine w_sfld ?_ | refine w_bm ?_ | refine w_dc ?_ | refine w_iIt ?_ | refine w_star ?_ | refine w_mkO ?_ | refine w_raise ?_ | refine w_osg ?_ | refine w_gfld ?_ | refine w_kget ?_ | refine w_dget ?_ | refine w_din ?_ | refine w_dnotin ?_ | refine w_slice ?_ | refine w_on ?_ | refine w_os ?_ | refine w_sub ?_ | refine w_bmN ?_ | refine w_intI ?_ | refine w_intB ?_ | refine w_strS ?_
  | refine w_lc ?_ | refine w_for ?_ | refine w_iL ?_ | refine w_iT ?_ | refine w_iS ?_ | refine w_iK ?_ | refine w_iR1 ?_ | refine w_iR3 ?_ | refine w_iET ?_ | refine w_srcS ?_)
local macro_rules | `(tactic| walk_at "w") => `(tactic| (repeat walk_at "w1"); try (with_reducible refine w_ifN ?_))
local macro_rules | `(tactic| walk_at "ws") => `(tactic| with_reducible first | refine w_seq ?_ | refine w_next ?_)
local macro_rules | `(tactic| walk_at "w2") => `(tactic| repeat with_reducible first | refine w_seq ?_ | refine w_asg ?_ | refine w_name ?_ | refine w_next ?_)
local macro_rules | `(tactic| walk_at "sz") => `(tactic| (rw [sizeLine_eq]; exact Nat.le_of_ble_eq_true rfl))
section
variable {P : Program} {w : World} {K : Frag} {mg : Str → Option Value} {base : Heap} {H : Hp} {Q : VK} {σ : L2.St}
def spLaw (K : Frag) (Tb : List (Addr × Str)) : Sp := fun vs H Q _ => ∃ a, ∃ ns : List Int, vs = [.ref a] ∧ SqL K H a (ns.map V.int) ∧ ns.length ≤ 63 ∧ Tabs Tb H ∧ ∀ H', Q (.bl true) H'
theorem sqL_step {a u : Addr} {xs : List V} {H H2 H3 : Hp} (s : Same H H2) (n : H u = none) (k : Kp u H2 H3) (h : SqL K H a xs) : SqL K H3 a xs := by
  rcases h with (h | ⟨o, h⟩) | h
  · exact .inl (.inl (k a _ (ne_of_none h n) (fun _ z => by cases z) (fun _ _ _ z => by cases z) (s _ _ h)))
  · exact .inl (.inr ⟨o, k a _ (ne_of_none h n) (fun _ z => by cases z) (fun _ _ _ z => by cases z) (s _ _ h)⟩)
  · exact .inr h
/-- a def's promise, of the very def -/
theorem fnG_of {x : Str} {st : Stmt} {N ps : List Str} {k : Nat} {sp : Sp} {Cd : Value → Prop} {f : Addr} {fd : FuncData} (F : FunD K x x (defArgs st) (defBody st) (defScope st) [] [] f fd) (hc : Cd fd.code) (S : FnScope N ps (defScope st)) (len : ∀ vs H Q E, sp vs H Q E → vs.length = ps.length) (body : BodyG P w K mg base N x st k sp Cd) : FnG P w K mg base (k + 1) f fd ps sp := by
  obtain ⟨oc, od, dV, kV, doc, pm, an, cdv, ct, osl, rfl, lk, hcd, _, _⟩ := F.ex
  exact ⟨len, fun A outer s H args us vs Q E hg hr e0 hb r hsp => LamX.run_ofS lk hcd S hr e0 hb r (len _ _ _ _ hsp) fun hr' => body f cdv A outer s H vs Q E hc hg hr' hsp⟩
abbrev s_law : Stmt := top 126
theorem sc_law : FnScope ["_law_cells", "_law_k"] ["_law_cells"] (defScope s_law) := ⟨rfl, rfl, rfl, by decide +kernel, rfl, by decide +kernel, by decide +kernel⟩
theorem ok_law (T : Txt w K mg) {Tb : List (Addr × Str)} (OR : OwnG P w K mg base "_law_right" 16 ["_law_urn_here"] (spRight Tb)) {f : Addr} {fd : FuncData} (F : FunD K "law" "law" (defArgs (top 126)) (defBody (top 126)) (defScope (top 126)) [] [] f fd) : FnG P w K mg base 17 f fd ["_law_cells"] (spLaw K Tb) := by
  refine fnG_of (Cd := fun _ => True) F trivial sc_law (fun vs H Q E h => ?_) (fun f cdv A outer s H vs Q E hcd hgu hr h => ?_)
  · obtain ⟨a, ns, rfl, _⟩ := h; rfl
  · have sc := sc_law
    have hu64 := hr.units
    obtain ⟨a, ns, rfl, ha, hl, hT, k⟩ := h
    refine ⟨_, (pss_cons (ps_for (passes_of rfl) rfl (pi_range1 rfl T.b_range (pa_cons (pe_callB (call_max2 rfl) (by rfl) T.b_max (by decide +kernel) (pa_cons pe_int (pa_cons (pe_callB (call_min2 rfl) (by rfl) T.b_min (by decide +kernel) (pa_cons (pe_callB (call_lenU) (by rfl) T.b_len (by decide +kernel) (pa_cons (pv 0) pa_nil)) (pa_cons pe_int pa_nil))) pa_nil))) pa_nil)) (pg_name (i := 1) sc.nd rfl (Or.inl rfl)) (pss_one (ps_if (pt_not (pt_val (pe_ownG (by exact hgu) OR hr passN (pa_cons (pe_own (ok_law_urn T) hr passN (pa_cons (pv 0) (pa_cons (pv 1) pa_nil))) pa_nil)))) (pss_one (ps_ret pe_bl)) pss_nil)))
      (pss_one (ps_ret pe_bl))), ?_⟩
    walk_at "w"
    refine .inl ⟨a, _, rfl, .inl ha, ?_⟩
    walk_at "w"
    refine ⟨_, _, rfl, ?_⟩
    walk_at "w"
    refine ⟨_, _, rfl, ?_⟩
    walk_at "w"
    have hm : ∀ n : Int, 0 ≤ n → 1 ≤ (if (if (4 : Int) < n then 4 else n) > 1 then (if (4 : Int) < n then 4 else n) else 1) ∧ (if (if (4 : Int) < n then 4 else n) > 1 then (if (4 : Int) < n then 4 else n) else 1) ≤ 4 := fun n h0 => by
      split <;> split <;> omega
    have hm := hm ((ns.map V.int).length : Nat) (by omega)
    revert hm
    generalize (if (if (4 : Int) < ((ns.map V.int).length : Nat) then 4 else ((ns.map V.int).length : Nat)) > 1 then (if (4 : Int) < ((ns.map V.int).length : Nat) then 4 else (((ns.map V.int).length : Nat) : Int)) else 1) = m
    intro ⟨m1, m4⟩
    refine w_srcR (by omega) (by omega) ?_
    refine forB_range (fun i σ H' => ∃ v, σ = [some (.ref a), v] ∧ SqL K H' a (ns.map V.int) ∧ Tabs Tb H') ⟨_, rfl, ha, hT⟩ (fun i σ H' hi h => ?_) fun σ H' h => ?_
    · obtain ⟨v, rfl, ha2, hT2⟩ := h
      walk_at "w"
      refine w_if ?_
      walk_at "w"
      refine ⟨a, ns, i, by rw [Int.zero_add], ha2, hl, by omega, fun u H2 s2 n2 hu => ?_⟩
      walk_at "w"
      refine ⟨u, rfl, hu, hT2.ext s2, fun H3 kp t3 => ?_⟩
      walk_at "w"
      exact ⟨_, rfl, sqL_step s2 n2 kp ha2, t3⟩
    · obtain ⟨v, rfl, ha2, hT2⟩ := h
      walk_at "w"
      exact k _
end
end Bt

set_option Elab.async false
set_option linter.all false
set_option maxRecDepth 100000
set_option maxHeartbeats 4000000
/-! the head: what is looked at, what it tells -/
namespace Bt
open PySem L2 LamX
theorem funA {K : Frag} {a : Addr} {d : He.DefD} (e : fnWA K a = d.val) (c : okA K a d = true) : ∃ fd, FunD K d.name d.qual d.params d.body d.scope (d.dvs K) (d.kws K) a fd := by
  obtain ⟨kp, c2⟩ := He.ba c
  unfold fnWA at e
  cases q : K.lookup a with
  | none => rw [q] at c2; cases c2
  | some o =>
    obtain ⟨oc, od, dt, osl⟩ := o
    rw [q] at c2 e
    cases dt with
    | func fd =>
      obtain ⟨n1, n2, n3, n4, n5, n6, n7, n8, n9, n10, n11, n12, n13, n14, n15⟩ := fd
      have e2 : (some (n1, n2, n3, n4, n5, n6, n7, n15) : He.FnW) = some (d.name, d.qual, d.params, .stmts d.body, d.scope, mainGlobals, [], builtinsNs) := e
      simp only [Option.some.injEq, Prod.mk.injEq] at e2
      obtain ⟨h1, h2, h3, h4, h5, h6, h7, h8⟩ := e2
      subst h1 h2 h3 h4 h5 h6 h7 h8
      obtain ⟨k1, k2⟩ := He.ba (show (PySem.W.codeIn K n13 d.qual && (He.dflB K n8 (d.dvs K) && He.kwdB K n9 (d.kws K))) = true from c2)
      obtain ⟨k3, k4⟩ := He.ba k2
      exact ⟨_, ⟨oc, od, n8, n9, n10, n11, n12, n13, n14, osl, rfl, q, k1, He.dflB_ok k3, He.kwdB_ok k4⟩, kp⟩
    | _ => cases c2
theorem prAt_of {K : Frag} {C m q : Str} {st : Stmt} (h : prB K ((C, m), dM C m q st) = true) (e : fnWA K (getA (C, m) K) = (dM C m q st).val) : PrAt K (He.ga K C) m q st := by
  obtain ⟨h1, h2⟩ := He.ba h
  obtain ⟨fd, F⟩ := funA e h2
  cases q1 : PySem.W.findIn K (.ref (He.ga K C)) m with
  | none => simp only [q1] at h1; cases h1
  | some r =>
    cases r with
    | none => simp only [q1] at h1; cases h1
    | some v =>
      cases v with
      | ref p =>
        simp only [q1] at h1
        obtain ⟨h3, h4⟩ := He.ba h1
        obtain ⟨h5, h6⟩ := He.ba h4
        cases q2 : PySem.W.recIn K p "property" with
        | none => simp only [q2] at h6; cases h6
        | some l =>
          cases l with
          | nil => simp only [q2] at h6; cases h6
          | cons a r =>
            cases a with
            | ref g =>
              have eg : getA (C, m) K = g := by unfold getA; simp only [q1, q2]
              rw [eg] at F
              exact ⟨p, g, fd, F, ⟨q1, of_decide_eq_true h3, of_decide_eq_true h5, r, q2⟩⟩
            | _ => simp only [q2] at h6; cases h6
      | _ => simp only [q1] at h1; cases h1
section
variable {K : Frag} {h : Heap} {mg : Str → Option Value}
theorem fnAt_of (X : K.In h) (G : h.Ns mainGlobals mg) {x : Str} {st : Stmt} (F : ∃ fd, FunD K (dF x st).name (dF x st).qual (dF x st).params (dF x st).body (dF x st).scope ((dF x st).dvs K) ((dF x st).kws K) (He.fAd K (dF x st).at_) fd) (g : (He.Fa.glo x).ok K = true) : FnAt K mg x st := by
  obtain ⟨fd, F⟩ := F
  exact ⟨_, fd, F, He.glo_ok X G g⟩
theorem mtAt_of {C m q : Str} {st : Stmt} (F : ∃ fd, FunD K (dM C m q st).name (dM C m q st).qual (dM C m q st).params (dM C m q st).body (dM C m q st).scope ((dM C m q st).dvs K) ((dM C m q st).kws K) (He.fAd K (dM C m q st).at_) fd) (g : (He.Fa.meth C m).ok K = true) : MtAt K (He.ga K C) m q st := by
  obtain ⟨fd, F⟩ := F
  exact ⟨_, fd, F, He.meth_ok g⟩
theorem inAt_of (X : K.In h) (G : h.Ns mainGlobals mg) {C q : Str} {st : Stmt} (F : ∃ fd, FunD K (dM C "__init__" q st).name (dM C "__init__" q st).qual (dM C "__init__" q st).params (dM C "__init__" q st).body (dM C "__init__" q st).scope ((dM C "__init__" q st).dvs K) ((dM C "__init__" q st).kws K) (He.fAd K (dM C "__init__" q st).at_) fd)
    (g : (He.Fa.mkr C).ok K = true) (g2 : (He.Fa.glo C).ok K = true) : InAt K mg C q st := by
  obtain ⟨fd, F⟩ := F
  exact ⟨_, fd, F, He.mkr_ok g, He.glo_ok X G g2⟩
theorem refsB_cons {tail : List Value} {C : Addr} {l : List Value} (h : refsB tail l = true) : refsB tail (.ref C :: l) = true := h
theorem exAt_of (X : K.In h) (G : h.Ns mainGlobals mg) {x q : Str} {st : Stmt} {B initId : String} {newId : String} {bmB : List Value} {s1 s2 : String} {fs : List Str}
    (F : ∃ fd, FunD K (dM x "__init__" q st).name (dM x "__init__" q st).qual (dM x "__init__" q st).params (dM x "__init__" q st).body (dM x "__init__" q st).scope ((dM x "__init__" q st).dvs K) ((dM x "__init__" q st).kws K) (He.fAd K (dM x "__init__" q st).at_) fd)
    (FB : PySem.ExcBaseFacts B newId initId bmB) (SF : PySem.StoreFacts B bmB s1 s2) (h1 : bmB.contains (.type "object") = true) (h2 : bmB.isEmpty = false) (hp : ∀ self : Value, PySem.refuseLoop self "__setattr__" bmB = pure ()) (hx : exB K x bmB newId = true) (g2 : (He.Fa.glo x).ok K = true)
    (hn : ∀ n ∈ fs, PySem.W.findIn K (.ref (He.ga K x)) n = some none) : ExAt K mg x q st fs := by
  obtain ⟨fd, F⟩ := F
  obtain ⟨q0, h3⟩ := He.ba hx
  obtain ⟨h4, h5⟩ := He.ba h3
  obtain ⟨h6, h7⟩ := He.ba h5
  obtain ⟨h8, h9⟩ := He.ba h7
  obtain ⟨h10, h11⟩ := He.ba h9
  obtain ⟨h12, h13⟩ := He.ba h11
  refine ⟨_, fd, F, ⟨?_, of_decide_eq_true h4, of_decide_eq_true h6, of_decide_eq_true h8, h10⟩, of_decide_eq_true h12, of_decide_eq_true h13, He.glo_ok X G g2, hn⟩
  split at q0
  · rename_i dd cd sl ho
    split at q0
    · rename_i C' bm k0 k1 k2 k3 n k5 hm hs
      simp only [Bool.and_eq_true, beq_iff_eq, Bool.not_eq_true'] at q0
      obtain ⟨e1, e2, hdel, hdd, ht⟩ := q0
      subst e1 e2
      obtain ⟨nm, bs, mro, ns, qn, hd, sn, sub, ab, col, del⟩ := cd
      dsimp only at hm hdel hdd
      subst hm hdel hdd
      have hsl : sl = #[k0, k1, k2, k3, some (.builtin n), k5] := by
        obtain ⟨l⟩ := sl
        simp only at hs
        rw [hs]
      subst hsl
      exact ⟨B, n, initId, bmB, nm, qn, ns, bs, bm, sn, sub, ab, col, dd, k0, k1, k2, k3, k5, FB, ho, fun Y => refsB_has Y bm ht, mroG_of SF h1 h2 hp _ (refsB_cons ht)⟩
    · cases q0
  · cases q0
theorem exNo_of (X : K.In h) (G : h.Ns mainGlobals mg) {x : Str} {bm : List Value} {newId : String} (hx : exnB K x bm newId = true) (g : (He.Fa.glo x).ok K = true) : ExNo K mg x bm newId := by
  obtain ⟨h1, h2⟩ := He.ba hx
  obtain ⟨h3, h4⟩ := He.ba h2
  obtain ⟨h5, h6⟩ := He.ba h4
  exact ⟨h1, He.glo_ok X G g, h3, of_decide_eq_true h5, of_decide_eq_true h6⟩
theorem neB_ok {x : Str} (hx : neB K x = true) : NeC K (He.ga K x) := by
  obtain ⟨h1, h2⟩ := He.ba hx
  exact ⟨of_decide_eq_true h1, of_decide_eq_true h2⟩
theorem insB_ok {x : Str} (c : Cls K (He.ga K x)) (hx : insB K x = true) : C8.InsC K (He.ga K x) := by
  obtain ⟨h1, h2⟩ := He.ba hx
  obtain ⟨h3, h4⟩ := He.ba h2
  obtain ⟨h5, h6⟩ := He.ba h4
  obtain ⟨h7, h8⟩ := He.ba h6
  exact ⟨c, of_decide_eq_true h1, of_decide_eq_true h3, of_decide_eq_true h5, of_decide_eq_true h7, of_decide_eq_true h8⟩
theorem ecB_ok {x : Str} (hx : ecB K x = true) : ExcC K (He.ga K x) ∧ XfC K (He.ga K x) := by
  obtain ⟨h1, h2⟩ := He.ba hx
  obtain ⟨h3, h4⟩ := He.ba h2
  obtain ⟨h5, h6⟩ := He.ba h4
  obtain ⟨h7, h8⟩ := He.ba h6
  obtain ⟨h9, h10⟩ := He.ba h8
  obtain ⟨h11, h12⟩ := He.ba h10
  obtain ⟨h13, h14⟩ := He.ba h12
  exact ⟨⟨of_decide_eq_true h1, of_decide_eq_true h3, of_decide_eq_true h5, h7, of_decide_eq_true h9, of_decide_eq_true h11, of_decide_eq_true h13, of_decide_eq_true h14⟩, ⟨of_decide_eq_true h1, of_decide_eq_true h3, of_decide_eq_true h5, h7⟩⟩
theorem kans_of {w : World} {a : Addr} (hD : ∃ es n, KDict K w a es n) {l : List (Str × Int)} (hv : He.valsB K a (l.map fun p => (p.1, He.Dv.int p.2)) = true) {k : Str} {i : Int} (hk : (k, i) ∈ l) : KAns K w a k (some (.int i)) := by
  obtain ⟨es, n, D⟩ := hD
  obtain ⟨u, e1, e2⟩ := He.valsB_ok hv (q := (k, He.Dv.int i)) (List.mem_map.mpr ⟨(k, i), hk, rfl⟩)
  exact ⟨es, n, some u, D.at_, D.lit, D.low, e1, .inr ⟨_, u, rfl, rfl, e2⟩⟩
end
end Bt

set_option Elab.async false
set_option linter.all false
set_option maxRecDepth 100000
set_option maxHeartbeats 4000000
/-! the head: the facts, from them what the walk asks -/
namespace Bt
open PySem L2 LamX
theorem hex_at {K : Frag} (h : hex K = true) (i : Nat) {f : Frag → Bool} (e : exL[i]? = some f := by rfl) : f K = true := List.all_eq_true.mp h f (List.mem_of_getElem? e)
theorem txt_of {K : Frag} {h : Heap} {mg : Str → Option Value} {w : World} (X : K.In h) (G : h.Ns mainGlobals mg) (c : He.SaysD hfa hfn K) (hD : ∃ es n, KDict K w (He.ga K "SIZES") es n) (hx : hex K = true) (hq : ∀ (i : Nat) {p : Pr}, hpr[i]? = some p → fnWA K (getA p.1 K) = p.2.val) : Txt w K mg := by
  have hp : ∀ p ∈ hpr, prB K p = true := List.all_eq_true.mp (hex_at hx 0)
  have hx_InvalidIndex := hex_at hx 1
  have hx_UnknownName := hex_at hx 2
  have hx_InUse := hex_at hx 3
  have hx_Broken := hex_at hx 4
  have hx_NothingToUndo := hex_at hx 5
  have h_ne := hex_at hx 6
  have h_ins := hex_at hx 7
  have h_cl := hex_at hx 8
  have h_sz := hex_at hx 9
  exact {
    f_is_integer := fnAt_of X G (c.def_ 0 (d := dF "is_integer" (top 31)) rfl) (c.fact 0 (f := .glo "is_integer") rfl),
    f_is_between := fnAt_of X G (c.def_ 1 (d := dF "is_between" (top 32)) rfl) (c.fact 1 (f := .glo "is_between") rfl),
    f_is_name := fnAt_of X G (c.def_ 2 (d := dF "is_name" (top 34)) rfl) (c.fact 2 (f := .glo "is_name") rfl),
    f_number_in := fnAt_of X G (c.def_ 3 (d := dF "number_in" (top 35)) rfl) (c.fact 3 (f := .glo "number_in") rfl),
    f_is_place := fnAt_of X G (c.def_ 4 (d := dF "is_place" (top 36)) rfl) (c.fact 4 (f := .glo "is_place") rfl),
    f_are_places := fnAt_of X G (c.def_ 5 (d := dF "are_places" (top 38)) rfl) (c.fact 5 (f := .glo "are_places") rfl),
    f_places_fault := fnAt_of X G (c.def_ 6 (d := dF "places_fault" (top 39)) rfl) (c.fact 6 (f := .glo "places_fault") rfl),
    f_check_places := fnAt_of X G (c.def_ 7 (d := dF "check_places" (top 40)) rfl) (c.fact 7 (f := .glo "check_places") rfl),
    f_knots_fault := fnAt_of X G (c.def_ 8 (d := dF "knots_fault" (top 45)) rfl) (c.fact 8 (f := .glo "knots_fault") rfl),
    f_check_frame := fnAt_of X G (c.def_ 9 (d := dF "check_frame" (top 47)) rfl) (c.fact 9 (f := .glo "check_frame") rfl),
    f_within := fnAt_of X G (c.def_ 10 (d := dF "within" (top 48)) rfl) (c.fact 10 (f := .glo "within") rfl),
    f_is_up := fnAt_of X G (c.def_ 11 (d := dF "is_up" (top 63)) rfl) (c.fact 11 (f := .glo "is_up") rfl),
    f_lengths_from := fnAt_of X G (c.def_ 12 (d := dF "lengths_from" (top 66)) rfl) (c.fact 12 (f := .glo "lengths_from") rfl),
    f_rank_of := fnAt_of X G (c.def_ 13 (d := dF "rank_of" (top 67)) rfl) (c.fact 13 (f := .glo "rank_of") rfl),
    f_check_both := fnAt_of X G (c.def_ 14 (d := dF "check_both" (top 68)) rfl) (c.fact 14 (f := .glo "check_both") rfl),
    f_rank := fnAt_of X G (c.def_ 15 (d := dF "rank" (top 69)) rfl) (c.fact 15 (f := .glo "rank") rfl),
    f_is_claim := fnAt_of X G (c.def_ 16 (d := dF "is_claim" (top 72)) rfl) (c.fact 16 (f := .glo "is_claim") rfl),
    f_names_in := fnAt_of X G (c.def_ 17 (d := dF "names_in" (top 73)) rfl) (c.fact 17 (f := .glo "names_in") rfl),
    f_is_kept := fnAt_of X G (c.def_ 18 (d := dF "is_kept" (top 74)) rfl) (c.fact 18 (f := .glo "is_kept") rfl),
    f_shown_by := fnAt_of X G (c.def_ 19 (d := dF "shown_by" (top 75)) rfl) (c.fact 19 (f := .glo "shown_by") rfl),
    f_check_kept := fnAt_of X G (c.def_ 20 (d := dF "check_kept" (top 78)) rfl) (c.fact 20 (f := .glo "check_kept") rfl),
    f_numbers_in := fnAt_of X G (c.def_ 21 (d := dF "numbers_in" (top 96)) rfl) (c.fact 21 (f := .glo "numbers_in") rfl),
    f_claim_in := fnAt_of X G (c.def_ 22 (d := dF "claim_in" (top 98)) rfl) (c.fact 22 (f := .glo "claim_in") rfl),
    f_put_in_words := fnAt_of X G (c.def_ 23 (d := dF "put_in_words" (top 99)) rfl) (c.fact 23 (f := .glo "put_in_words") rfl),
    f_short_in := fnAt_of X G (c.def_ 24 (d := dF "short_in" (top 101)) rfl) (c.fact 24 (f := .glo "short_in") rfl),
    f_parts_in := fnAt_of X G (c.def_ 25 (d := dF "parts_in" (top 102)) rfl) (c.fact 25 (f := .glo "parts_in") rfl),
    f_law_urn := fnAt_of X G (c.def_ 26 (d := dF "_law_urn" (top 105)) rfl) (c.fact 26 (f := .glo "_law_urn") rfl),
    f_law_grab := fnAt_of X G (c.def_ 27 (d := dF "_law_grab" (top 106)) rfl) (c.fact 27 (f := .glo "_law_grab") rfl),
    f_law_take := fnAt_of X G (c.def_ 28 (d := dF "_law_take" (top 107)) rfl) (c.fact 28 (f := .glo "_law_take") rfl),
    f_law_shape := fnAt_of X G (c.def_ 29 (d := dF "_law_shape" (top 108)) rfl) (c.fact 29 (f := .glo "_law_shape") rfl),
    f_law_many := fnAt_of X G (c.def_ 30 (d := dF "_law_many" (top 109)) rfl) (c.fact 30 (f := .glo "_law_many") rfl),
    f_law_framed := fnAt_of X G (c.def_ 31 (d := dF "_law_framed" (top 110)) rfl) (c.fact 31 (f := .glo "_law_framed") rfl),
    f_law_sites := fnAt_of X G (c.def_ 32 (d := dF "_law_sites" (top 111)) rfl) (c.fact 32 (f := .glo "_law_sites") rfl),
    f_law_is_up := fnAt_of X G (c.def_ 33 (d := dF "_law_is_up" (top 112)) rfl) (c.fact 33 (f := .glo "_law_is_up") rfl),
    f_law_free := fnAt_of X G (c.def_ 34 (d := dF "_law_free" (top 113)) rfl) (c.fact 34 (f := .glo "_law_free") rfl),
    f_law_want := fnAt_of X G (c.def_ 35 (d := dF "_law_want" (top 114)) rfl) (c.fact 35 (f := .glo "_law_want") rfl),
    f_law_shown := fnAt_of X G (c.def_ 36 (d := dF "_law_shown" (top 115)) rfl) (c.fact 36 (f := .glo "_law_shown") rfl),
    f_law_broken := fnAt_of X G (c.def_ 37 (d := dF "_law_broken" (top 116)) rfl) (c.fact 37 (f := .glo "_law_broken") rfl),
    f_law_behind := fnAt_of X G (c.def_ 38 (d := dF "_law_behind" (top 117)) rfl) (c.fact 38 (f := .glo "_law_behind") rfl),
    f_law_new_deed := fnAt_of X G (c.def_ 39 (d := dF "_law_new_deed" (top 118)) rfl) (c.fact 39 (f := .glo "_law_new_deed") rfl),
    f_law_near := fnAt_of X G (c.def_ 40 (d := dF "_law_near" (top 119)) rfl) (c.fact 40 (f := .glo "_law_near") rfl),
    f_law_desk_is := fnAt_of X G (c.def_ 41 (d := dF "_law_desk_is" (top 121)) rfl) (c.fact 41 (f := .glo "_law_desk_is") rfl),
    f_law_written := fnAt_of X G (c.def_ 42 (d := dF "_law_written" (top 122)) rfl) (c.fact 42 (f := .glo "_law_written") rfl),
    f_law_slip := fnAt_of X G (c.def_ 43 (d := dF "_law_slip" (top 123)) rfl) (c.fact 43 (f := .glo "_law_slip") rfl),
    f_law_heard := fnAt_of X G (c.def_ 44 (d := dF "_law_heard" (top 124)) rfl) (c.fact 44 (f := .glo "_law_heard") rfl),
    f_law_right := fnAt_of X G (c.def_ 45 (d := dF "_law_right" (top 125)) rfl) (c.fact 45 (f := .glo "_law_right") rfl),
    f_law := fnAt_of X G (c.def_ 46 (d := dF "law" (top 126)) rfl) (c.fact 46 (f := .glo "law") rfl),
    m_Frame_eq := mtAt_of (c.def_ 47 (d := dM "Frame" "__eq__" "Frame.__eq__" (inClass (top 46) 6)) rfl) (c.fact 111 (f := .meth "Frame" "__eq__") rfl),
    m_Desk_contains := mtAt_of (c.def_ 48 (d := dM "Desk" "__contains__" "Desk.__contains__" (inClass (top 79) 1)) rfl) (c.fact 112 (f := .meth "Desk" "__contains__") rfl),
    m_Desk_need := mtAt_of (c.def_ 49 (d := dM "Desk" "need" "Desk.need" (inClass (top 79) 5)) rfl) (c.fact 113 (f := .meth "Desk" "need") rfl),
    m_Desk_put := mtAt_of (c.def_ 50 (d := dM "Desk" "put" "Desk.put" (inClass (top 79) 6)) rfl) (c.fact 114 (f := .meth "Desk" "put") rfl),
    m_Desk_thing := mtAt_of (c.def_ 51 (d := dM "Desk" "thing" "Desk.thing" (inClass (top 79) 7)) rfl) (c.fact 115 (f := .meth "Desk" "thing") rfl),
    m_Desk_drop := mtAt_of (c.def_ 52 (d := dM "Desk" "drop" "Desk.drop" (inClass (top 79) 8)) rfl) (c.fact 116 (f := .meth "Desk" "drop") rfl),
    m_Desk_claim := mtAt_of (c.def_ 53 (d := dM "Desk" "claim" "Desk.claim" (inClass (top 79) 9)) rfl) (c.fact 117 (f := .meth "Desk" "claim") rfl),
    m_Desk_lift := mtAt_of (c.def_ 54 (d := dM "Desk" "lift" "Desk.lift" (inClass (top 79) 10)) rfl) (c.fact 118 (f := .meth "Desk" "lift") rfl),
    m_Desk_undo := mtAt_of (c.def_ 55 (d := dM "Desk" "undo" "Desk.undo" (inClass (top 79) 11)) rfl) (c.fact 119 (f := .meth "Desk" "undo") rfl),
    m_Console_run := mtAt_of (c.def_ 56 (d := dM "Console" "run" "Console.run" (inClass (top 103) 2)) rfl) (c.fact 120 (f := .meth "Console" "run") rfl),
    m_Console_change := mtAt_of (c.def_ 57 (d := dM "Console" "change" "Console.change" (inClass (top 103) 3)) rfl) (c.fact 121 (f := .meth "Console" "change") rfl),
    m_Console_answer := mtAt_of (c.def_ 58 (d := dM "Console" "answer" "Console.answer" (inClass (top 103) 4)) rfl) (c.fact 122 (f := .meth "Console" "answer") rfl),
    p_Frame_degree := prAt_of (hp _ (List.mem_of_getElem? (i := 0) rfl)) (hq 0 (p := (("Frame", "degree"), dM "Frame" "degree" "Frame.degree" (inClass (top 46) 2))) rfl),
    p_Frame_knots := prAt_of (hp _ (List.mem_of_getElem? (i := 1) rfl)) (hq 1 (p := (("Frame", "knots"), dM "Frame" "knots" "Frame.knots" (inClass (top 46) 3))) rfl),
    p_Frame_hills := prAt_of (hp _ (List.mem_of_getElem? (i := 2) rfl)) (hq 2 (p := (("Frame", "hills"), dM "Frame" "hills" "Frame.hills" (inClass (top 46) 4))) rfl),
    p_Frame_text := prAt_of (hp _ (List.mem_of_getElem? (i := 3) rfl)) (hq 3 (p := (("Frame", "text"), dM "Frame" "text" "Frame.text" (inClass (top 46) 5))) rfl),
    p_Desk_names := prAt_of (hp _ (List.mem_of_getElem? (i := 4) rfl)) (hq 4 (p := (("Desk", "names"), dM "Desk" "names" "Desk.names" (inClass (top 79) 2))) rfl),
    p_Desk_claims := prAt_of (hp _ (List.mem_of_getElem? (i := 5) rfl)) (hq 5 (p := (("Desk", "claims"), dM "Desk" "claims" "Desk.claims" (inClass (top 79) 3))) rfl),
    p_Desk_changes := prAt_of (hp _ (List.mem_of_getElem? (i := 6) rfl)) (hq 6 (p := (("Desk", "changes"), dM "Desk" "changes" "Desk.changes" (inClass (top 79) 4))) rfl),
    p_Console_desk := prAt_of (hp _ (List.mem_of_getElem? (i := 7) rfl)) (hq 7 (p := (("Console", "desk"), dM "Console" "desk" "Console.desk" (inClass (top 103) 1))) rfl),
    n_Frame := inAt_of X G (c.def_ 59 (d := dM "Frame" "__init__" "Frame.__init__" (inClass (top 46) 0)) rfl) (c.fact 95 (f := .mkr "Frame") rfl) (c.fact 47 (f := .glo "Frame") rfl),
    n_Page := inAt_of X G (c.def_ 60 (d := dM "Page" "__init__" "Page.__init__" (inClass (top 77) 0)) rfl) (c.fact 96 (f := .mkr "Page") rfl) (c.fact 48 (f := .glo "Page") rfl),
    n_Desk := inAt_of X G (c.def_ 61 (d := dM "Desk" "__init__" "Desk.__init__" (inClass (top 79) 0)) rfl) (c.fact 97 (f := .mkr "Desk") rfl) (c.fact 49 (f := .glo "Desk") rfl),
    n_Console := inAt_of X G (c.def_ 62 (d := dM "Console" "__init__" "Console.__init__" (inClass (top 103) 0)) rfl) (c.fact 98 (f := .mkr "Console") rfl) (c.fact 50 (f := .glo "Console") rfl),
    k_Frame := He.cls_ok (c.fact 91 (f := .cls "Frame") rfl),
    k_Page := He.cls_ok (c.fact 92 (f := .cls "Page") rfl),
    k_Desk := He.cls_ok (c.fact 93 (f := .cls "Desk") rfl),
    k_Console := He.cls_ok (c.fact 94 (f := .cls "Console") rfl),
    x_InvalidIndex := exAt_of X G (c.def_ 63 (d := dM "InvalidIndex" "__init__" "InvalidIndex.__init__" (inClass (top 6) 0)) rfl) PySem.F.excBase_ValueError PySem.F.store_ValueError rfl rfl PySem.F.store_ValueError.passes hx_InvalidIndex (c.fact 56 (f := .glo "InvalidIndex") rfl) (fun n hn => by simp only [List.mem_cons, List.not_mem_nil, or_false] at hn; subst hn; exact He.noat_ok (c.fact 106 (f := .noat "InvalidIndex" "given") rfl)),
    x_UnknownName := exAt_of X G (c.def_ 64 (d := dM "UnknownName" "__init__" "UnknownName.__init__" (inClass (top 16) 0)) rfl) PySem.F.excBase_LookupError PySem.F.store_LookupError rfl rfl PySem.F.store_LookupError.passes hx_UnknownName (c.fact 58 (f := .glo "UnknownName") rfl) (fun n hn => by simp only [List.mem_cons, List.not_mem_nil, or_false] at hn; subst hn; exact He.noat_ok (c.fact 107 (f := .noat "UnknownName" "given") rfl)),
    x_InUse := exAt_of X G (c.def_ 65 (d := dM "InUse" "__init__" "InUse.__init__" (inClass (top 17) 0)) rfl) PySem.F.excBase_LookupError PySem.F.store_LookupError rfl rfl PySem.F.store_LookupError.passes hx_InUse (c.fact 55 (f := .glo "InUse") rfl) (fun n hn => by simp only [List.mem_cons, List.not_mem_nil, or_false] at hn; subst hn; exact He.noat_ok (c.fact 108 (f := .noat "InUse" "index") rfl)),
    x_Broken := exAt_of X G (c.def_ 66 (d := dM "Broken" "__init__" "Broken.__init__" (inClass (top 20) 0)) rfl) PySem.F.excBase_ArithmeticError PySem.F.store_ArithmeticError rfl rfl PySem.F.store_ArithmeticError.passes hx_Broken (c.fact 54 (f := .glo "Broken") rfl) (fun n hn => by simp only [List.mem_cons, List.not_mem_nil, or_false] at hn; rcases hn with rfl | rfl; exact He.noat_ok (c.fact 109 (f := .noat "Broken" "index") rfl); exact He.noat_ok (c.fact 110 (f := .noat "Broken" "shown") rfl)),
    x_NothingToUndo := exNo_of X G hx_NothingToUndo (c.fact 57 (f := .glo "NothingToUndo") rfl),
    q_Frame := neB_ok h_ne,
    c_Frame := insB_ok (He.cls_ok (c.fact 91 (f := .cls "Frame") rfl)) h_ins,
    a_Frame_parts := He.noat_ok (c.fact 99 (f := .noat "Frame" "parts") rfl),
    a_Page_shelf := He.noat_ok (c.fact 100 (f := .noat "Page" "shelf") rfl),
    a_Page_wanted := He.noat_ok (c.fact 101 (f := .noat "Page" "wanted") rfl),
    a_Page_ahead := He.noat_ok (c.fact 102 (f := .noat "Page" "ahead") rfl),
    a_Page_depth := He.noat_ok (c.fact 103 (f := .noat "Page" "depth") rfl),
    a_Desk_page := He.noat_ok (c.fact 104 (f := .noat "Desk" "page") rfl),
    a_Console_table := He.noat_ok (c.fact 105 (f := .noat "Console" "table") rfl),
    g_Frame := He.glo_ok X G (c.fact 47 (f := .glo "Frame") rfl),
    g_Page := He.glo_ok X G (c.fact 48 (f := .glo "Page") rfl),
    g_Desk := He.glo_ok X G (c.fact 49 (f := .glo "Desk") rfl),
    g_Console := He.glo_ok X G (c.fact 50 (f := .glo "Console") rfl),
    b_len := He.free_ok X G (c.fact 61 (f := .free "len") rfl),
    b_range := He.free_ok X G (c.fact 62 (f := .free "range") rfl),
    b_isinstance := He.free_ok X G (c.fact 63 (f := .free "isinstance") rfl),
    b_int := He.free_ok X G (c.fact 64 (f := .free "int") rfl),
    b_str := He.free_ok X G (c.fact 65 (f := .free "str") rfl),
    b_bool := He.free_ok X G (c.fact 66 (f := .free "bool") rfl),
    b_tuple := He.free_ok X G (c.fact 67 (f := .free "tuple") rfl),
    b_list := He.free_ok X G (c.fact 68 (f := .free "list") rfl),
    b_dict := He.free_ok X G (c.fact 69 (f := .free "dict") rfl),
    b_set := He.free_ok X G (c.fact 70 (f := .free "set") rfl),
    b_abs := He.free_ok X G (c.fact 71 (f := .free "abs") rfl),
    b_all := He.free_ok X G (c.fact 72 (f := .free "all") rfl),
    b_max := He.free_ok X G (c.fact 73 (f := .free "max") rfl),
    b_min := He.free_ok X G (c.fact 74 (f := .free "min") rfl),
    b_sorted := He.free_ok X G (c.fact 75 (f := .free "sorted") rfl),
    b_repr := He.free_ok X G (c.fact 76 (f := .free "repr") rfl),
    b_enumerate := He.free_ok X G (c.fact 77 (f := .free "enumerate") rfl),
    b_ValueError := He.free_ok X G (c.fact 78 (f := .free "ValueError") rfl),
    b_LookupError := He.free_ok X G (c.fact 79 (f := .free "LookupError") rfl),
    b_ArithmeticError := He.free_ok X G (c.fact 80 (f := .free "ArithmeticError") rfl),
    i_MOST_DEGREE := He.int_ok X G (c.fact 81 (f := .int "MOST_DEGREE" 4) rfl),
    i_MOST_KNOT := He.int_ok X G (c.fact 82 (f := .int "MOST_KNOT" 1000000) rfl),
    i_MOST_HILLS := He.int_ok X G (c.fact 83 (f := .int "MOST_HILLS" 10) rfl),
    i_MOST_PLACES := He.int_ok X G (c.fact 84 (f := .int "MOST_PLACES" 12) rfl),
    i_MOST_HEIGHT := He.int_ok X G (c.fact 85 (f := .int "MOST_HEIGHT" 100000000000000000000) rfl),
    i_MOST_LETTERS := He.int_ok X G (c.fact 86 (f := .int "MOST_LETTERS" 8) rfl),
    i_MOST_FIGURES := He.int_ok X G (c.fact 87 (f := .int "MOST_FIGURES" 60) rfl),
    i_MOST_NUMBERS := He.int_ok X G (c.fact 88 (f := .int "MOST_NUMBERS" 15) rfl),
    s_LETTERS := He.str_ok X G (c.fact 89 (f := .str "LETTERS" "abcdefghijklmnopqrstuvwxyz") rfl),
    s_FIGURES := He.str_ok X G (c.fact 90 (f := .str "FIGURES" "0123456789") rfl),
    g_CLAIMS := He.glo_ok X G (c.fact 59 (f := .glo "CLAIMS") rfl),
    t_CLAIMS := fun H => He.tupB_ok (vs := [.str "all", .str "one"]) h_cl H,
    g_SIZES := He.glo_ok X G (c.fact 60 (f := .glo "SIZES") rfl),
    l_SIZES := by obtain ⟨es, n, D⟩ := hD; exact ⟨es, n, D.at_⟩,
    z_SIZES := fun k i hk => kans_of hD h_sz hk}

theorem tx2_of {K : Frag} {h : Heap} {mg : Str → Option Value} (X : K.In h) (G : h.Ns mainGlobals mg) (c : He.SaysD hfa hfn K) (hx : hex K = true) : Tx2 K mg := by
  have e1 := hex_at hx 10
  have e2 := hex_at hx 11
  have e3 := hex_at hx 12
  have e4 := hex_at hx 13
  refine ⟨fun x hx => ?_, fun x hx => (ecB_ok (List.all_eq_true.mp e1 x hx)).1, fun x hx => (ecB_ok (List.all_eq_true.mp e1 x hx)).2, fun p hp => ?_, fun x hx y hy => of_decide_eq_true (List.all_eq_true.mp (List.all_eq_true.mp e2 x hx) y hy), fun x hx y hy => of_decide_eq_true (List.all_eq_true.mp (List.all_eq_true.mp e3 x hx) y hy), fun x hx => of_decide_eq_true (List.all_eq_true.mp e4 x hx)⟩
  · simp only [exAll, List.mem_cons, List.not_mem_nil, or_false] at hx
    rcases hx with rfl | rfl | rfl | rfl | rfl | rfl | rfl | rfl
    · exact He.glo_ok X G (c.fact 51 (f := .glo "NotRight") rfl)
    · exact He.glo_ok X G (c.fact 52 (f := .glo "NotKnown") rfl)
    · exact He.glo_ok X G (c.fact 53 (f := .glo "NotPossible") rfl)
    · exact He.glo_ok X G (c.fact 54 (f := .glo "Broken") rfl)
    · exact He.glo_ok X G (c.fact 55 (f := .glo "InUse") rfl)
    · exact He.glo_ok X G (c.fact 56 (f := .glo "InvalidIndex") rfl)
    · exact He.glo_ok X G (c.fact 57 (f := .glo "NothingToUndo") rfl)
    · exact He.glo_ok X G (c.fact 58 (f := .glo "UnknownName") rfl)

  · simp only [List.mem_cons, List.not_mem_nil, or_false] at hp
    rcases hp with rfl | rfl | rfl | rfl | rfl
    · exact He.noat_ok (c.fact 109 (f := .noat "Broken" "index") rfl)
    · exact He.noat_ok (c.fact 110 (f := .noat "Broken" "shown") rfl)
    · exact He.noat_ok (c.fact 108 (f := .noat "InUse" "index") rfl)
    · exact He.noat_ok (c.fact 106 (f := .noat "InvalidIndex" "given") rfl)
    · exact He.noat_ok (c.fact 107 (f := .noat "UnknownName" "given") rfl)

theorem SaysP.q {w : World} {h : Heap} {K : Frag} (c : SaysP w h K) (i : Nat) {p : Pr} (e : hpr[i]? = some p) : fnWA K (getA p.1 K) = p.2.val := by
  have e2 : (hpr.map fun p => fnWA K (getA p.1 K))[i]? = (hpr.map fun p => p.2.val)[i]? := by rw [show (hpr.map fun p => fnWA K (getA p.1 K)) = hpr.map fun p => p.2.val from c.p]
  rw [List.getElem?_map, List.getElem?_map, e] at e2
  exact Option.some.inj e2
theorem SaysP.txt {w : World} {h : Heap} {K : Frag} {mg : Str → Option Value} (c : SaysP w h K) (X : K.In h) (G : h.Ns mainGlobals mg) : Txt w K mg := txt_of X G c.x.t.d (c.x.t.tab 0 (t := (fun K => He.ga K "SIZES", ["all", "one", "rank", "within"])) rfl) c.x.more fun i {p} e => c.q i e
theorem SaysP.tx2 {w : World} {h : Heap} {K : Frag} {mg : Str → Option Value} (c : SaysP w h K) (X : K.In h) (G : h.Ns mainGlobals mg) : Tx2 K mg := tx2_of X G c.x.t.d c.x.more
end Bt

set_option Elab.async false
set_option linter.all false
set_option maxRecDepth 100000
set_option maxHeartbeats 4000000
/-! the end: a law whose def asks that no repr is under way, one table of code objects -/
namespace Bt
open PySem PySem.Spec PyProof.Rows L2 LamX
section
variable {P : Program} {w : World} {K : Frag} {mg mb : Str → Option Value} {s1 : Shared} {a c T : Addr} {vs : List Value} {ns : List Int}
/-- the script's object -/
abbrev lstO (vs : List Value) : Obj := { cls := .type "list", data := .seq vs.toArray }
/-- what is tracked as the law is called: the table, the script if it is not written -/
def trkL (K : Frag) (T a : Addr) (vs : List Value) (ns : List Int) : Hp := fun b =>
  if b = T then some (.tbl #[]) else if (b == a && (K.lookup a).isNone) = true then some (.frz (lstO vs) (.lst (ns.map V.int))) else none
theorem trkL_T : trkL K T a vs ns T = some (.tbl #[]) := if_pos rfl
theorem trkL_of {b : Addr} {u : HO} (h : trkL K T a vs ns b = some u) : (b = T ∧ u = .tbl #[]) ∨ (b = a ∧ K.lookup a = none ∧ u = .frz (lstO vs) (.lst (ns.map V.int))) := by
  unfold trkL at h
  split at h
  · rename_i e
    exact .inl ⟨e, (Option.some.inj h).symm⟩
  · split at h
    · rename_i e
      rw [Bool.and_eq_true, beq_iff_eq, Option.isNone_iff_eq_none] at e
      exact .inr ⟨e.1, e.2, (Option.some.inj h).symm⟩
    · cases h
theorem trkL_free {b : Addr} {o : Obj} (hT : s1.heap.get? T = some { cls := .none, data := .fields #[] }) (ha : s1.heap.get? a = some (lstO vs)) (e : s1.heap.get? b = some o) (n1 : ∀ x n, o.data ≠ .seq x n) (n2 : o.data ≠ .fields #[]) : trkL K T a vs ns b = none := by
  cases q : trkL K T a vs ns b with
  | none => rfl
  | some u =>
    rcases trkL_of q with ⟨rfl, _⟩ | ⟨rfl, _, _⟩
    · rw [hT] at e; cases e; exact absurd rfl n2
    · rw [ha] at e; cases e; exact absurd rfl (n1 _ _)
theorem trkL_in (KX : K.In s1.heap) (nT : K.lookup T = none) : K.In (hidT s1.heap (trkL K T a vs ns)) := fun b o e => hidT_get (KX b o e) (by
  cases q : trkL K T a vs ns b with
  | none => rfl
  | some u =>
    rcases trkL_of q with ⟨rfl, _⟩ | ⟨rfl, z, _⟩
    · rw [nT] at e; cases e
    · rw [z] at e; cases e)
theorem trkL_ns (hT : s1.heap.get? T = some { cls := .none, data := .fields #[] }) (ha : s1.heap.get? a = some (lstO vs)) {b : Addr} {m : Str → Option Value} (h : s1.heap.Ns b m) : (hidT s1.heap (trkL K T a vs ns)).Ns b m := by
  obtain ⟨o, es, ep, e, d, r⟩ := h
  refine ⟨o, es, ep, hidT_get e (trkL_free hT ha e (fun x n z => ?_) fun z => ?_), d, r⟩ <;> (rw [d] at z; cases z)
theorem trkL_ok (hT : s1.heap.get? T = some { cls := .none, data := .fields #[] }) (ha : s1.heap.get? a = some (lstO vs)) (hi : IntsAre vs ns) (hl : ns.length ≤ sizeLine) : HOk P w (trkL K T a vs ns) s1.heap := fun b u e => by
  rcases trkL_of e with ⟨rfl, rfl⟩ | ⟨rfl, _, rfl⟩
  · exact hT
  · exact ⟨ha, by rw [List.length_map]; exact hl, vs, _, vals_ints hi, ha⟩
theorem trkL_sq (KX : K.In s1.heap) (hT : s1.heap.get? T = some { cls := .none, data := .fields #[] }) (ha : s1.heap.get? a = some (lstO vs)) (hi : IntsAre vs ns) (hl : ns.length ≤ sizeLine) : SqL K (trkL K T a vs ns) a (ns.map V.int) := by
  cases z : K.lookup a with
  | some o =>
    have e := KX a o z
    rw [ha] at e
    cases e
    refine .inr ⟨_, vs.toArray, _, z, rfl, rfl, rfl, ?_, by simpa using vals_ints hi⟩
    rw [List.size_toArray, hi.length]; exact hl
  | none =>
    refine .inl (.inr ⟨lstO vs, ?_⟩)
    unfold trkL
    rw [if_neg (fun y => by rw [y, hT] at ha; cases ha), if_pos (by rw [z]; simp)]
theorem trkL_tab (hns : s1.heap.Ns mainGlobals mg) (hT : s1.heap.get? T = some { cls := .none, data := .fields #[] }) (ha : s1.heap.get? a = some (lstO vs)) (C : PySem.W.CodeHd s1.heap c T)
    (hbm : ∃ (bm : Addr) (ob : Obj), mg "__builtins__" = some (.ref bm) ∧ bm ≠ builtinsNs ∧ s1.heap.get? bm = some ob ∧ ob.cls = .type "module" ∧ ob.dict = some builtinsNs ∧ ob.data = .plain) : TabB (hidT s1.heap (trkL K T a vs ns)) mg c T := by
  obtain ⟨og, eg, pg, hg, dg, _⟩ := hns
  refine ⟨?_, ?_, fun z => by rw [z, hT] at hg; cases hg; cases dg⟩
  · obtain ⟨o, us, file, tf, flags, tg, inF, text, tt, e1, r1, r2, r3, rest⟩ := C
    refine ⟨o, us, file, tf, flags, tg, inF, text, tt, hidT_get e1 (trkL_free hT ha e1 (fun x n z => by rw [r2] at z; cases z) fun z => ?_), r1, r2, r3, rest⟩
    rw [r2] at z; cases z; simp at r3
  · obtain ⟨bm, ob, b1, b2, b3, b4, b5, b6⟩ := hbm
    refine ⟨bm, ob, b1, b2, fun z => ?_, fun z => ?_, hidT_get b3 (trkL_free hT ha b3 (fun x n z => by rw [b6] at z; cases z) fun z => by rw [b6] at z; cases z), b4, b5, b6⟩
    · rw [z, hg] at b3; cases b3; rw [dg] at b6; cases b6
    · rw [z, hT] at b3; cases b3; cases b6
/-- the law is called -/
theorem law_callG {k : Nat} {fa : Addr} {fd : FuncData} {x : Str} {sp : Sp} (KX : K.In s1.heap) (hns : s1.heap.Ns mainGlobals mg) (hb : s1.heap.Ns builtinsNs mb) (hbb : ∀ x : Str, x ≠ "__name__" → mb x = bootBuiltins x) (hlim : s1.heap.NoLimit) (hg : s1.gens = #[])
    (hT : s1.heap.get? T = some { cls := .none, data := .fields #[] }) (nT : K.lookup T = none) (C : PySem.W.CodeHd s1.heap c T)
    (hbm : ∃ (bm : Addr) (ob : Obj), mg "__builtins__" = some (.ref bm) ∧ bm ≠ builtinsNs ∧ s1.heap.get? bm = some ob ∧ ob.cls = .type "module" ∧ ob.dict = some builtinsNs ∧ ob.data = .plain)
    (ha : s1.heap.get? a = some (lstO vs)) (hi : IntsAre vs ns) (hl : ns.length ≤ sizeLine) (hr : Room k callerA) (F : ∀ base : Heap, TabB base mg c T → FnG P w K mg base k fa fd [x] sp) (hbind : ∀ (s : Shared) (u : Value), BindsTo s fd ⟨[u], []⟩ [(x, u)])
    (hsp : ∀ H : Hp, H T = some (.tbl #[]) → SqL K H a (ns.map V.int) → sp [.ref a] H (fun v _ => v = .bl true) E0) (hCX : ∀ H e s', L2N.CX P w [] H s1 E0 e s' → False) :
    codeAny (model P w) callerA (.call (.ref fa) ⟨[.ref a], []⟩) (fun r s' => r = .ok (.ret (.bool true)) ∧ OldK s1.heap s'.heap ∧ s'.os = s1.os ∧ AllBare s'.gens) s1 := by
  have hM : L2.Mod K mg (hidT s1.heap (trkL K T a vs ns)) := by
    obtain ⟨mc, l1, l2⟩ := hlim
    exact ⟨trkL_in KX nT, trkL_ns hT ha hns, ⟨mb, trkL_ns hT ha hb, hbb⟩, ⟨mc, trkL_ns hT ha l1, l2⟩⟩
  have hok : HOk P w (trkL K T a vs ns) s1.heap := trkL_ok hT ha hi hl
  have e0 : Env0 P w K mg (hidT s1.heap (trkL K T a vs ns)) callerA [] s1 (trkL K T a vs ns) := { frames := rfl, mod := hM, bs := fun b o e => of_hidT e, bsz := Nat.le_of_eq (hidT_size _ _), funs := trivial, frf := fun b z => (nomatch z), hok := hok, bare := .of_eq hg }
  refine codeAny_mono ((F _ (trkL_tab hns hT ha C hbm)).run callerA [] s1 _ ⟨[.ref a], []⟩ [.ref a] [.ref a] _ E0 rfl hr e0 (hbind s1 (.ref a)) (.cons rfl .nil) (hsp _ trkL_T (trkL_sq KX hT ha hi hl))) fun r s' h => ?_
  match r, h with
  | .error e, h => exact (hCX _ e s' h).elim
  | .ok (.ret u), h =>
    obtain ⟨v, H', os, bare, un, hok', r', q⟩ := h
    obtain rfl : v = V.bl true := q
    obtain rfl : u = Value.bool true := r'
    obtain ⟨more, hm⟩ := un.tbls T #[] trkL_T
    have eT : s'.heap.get? T = some { cls := .none, data := .fields (#[] ++ more) } := hok' T _ hm
    have rest : ∀ b o, b ≠ T → s1.heap.get? b = some o → s'.heap.get? b = some o := fun b o nb e => by
      cases z : trkL K T a vs ns b with
      | none => exact un.keep b o e z (fun y => (nomatch y)) (fun y => (nomatch y))
      | some u =>
        rcases trkL_of z with ⟨y, _⟩ | ⟨rfl, _, rfl⟩
        · exact absurd y nb
        · have e2 := (hok' b _ (un.frzs b _ _ z)).1
          rw [ha] at e
          rw [← e]; exact e2
    refine ⟨rfl, ⟨fun b o e => ?_, fun b o e => ?_⟩, os, bare⟩
    · by_cases nb : b = T
      · subst nb
        rw [hT] at e
        cases e
        exact .inr (.inl ⟨(C.tab hT).isCodeTable, rfl, #[], more, rfl, eT⟩)
      · exact .inl (rest b o nb e)
    · by_cases nb : b = T
      · subst nb; exact ⟨_, eT⟩
      · exact ⟨o, rest b o nb e⟩
end
end Bt

set_option Elab.async false
set_option linter.all false
set_option maxRecDepth 1000000
set_option maxHeartbeats 4000000
/-! the law holds -/
namespace Bt
open PySem L2 LamX
theorem code_at {K : Frag} {x : Str} {st : Stmt} {f : Addr} {fd : FuncData} (F : FunD K x x (defArgs st) (defBody st) (defScope st) [] [] f fd) (e : f = He.fAd K (x, none)) : fd.code = .ref (He.codeOf K (x, none)) := by
  obtain ⟨oc, od, dV, kV, doc, pm, an, cdv, ct, osl, efd, lk, hcd, _, _⟩ := F.ex
  subst efd
  obtain ⟨c, rfl⟩ := He.codeIn_ref hcd
  rw [e] at lk
  exact congrArg Value.ref (He.codeOf_eq lk rfl).symm
theorem law_end {w : World} {mg : Str → Option Value} {fa : Addr} {h : Heap} {K : Frag} (KX : K.In h) (G : h.Ns mainGlobals mg) (hlaw : mg "law" = some (.ref fa)) (c : SaysP w h K) :
    ∃ fd : FuncData, (∀ (s : Shared) (u : Value), BindsTo s fd ⟨[u], []⟩ [("_law_cells", u)]) ∧ ∀ base : Heap, TabB base mg (He.cT K ("_law_right", none)).1 (He.cT K ("_law_right", none)).2 →
      FnG RR.prog w K mg base 17 fa fd ["_law_cells"] (spLaw K [((He.cT K ("_law_right", none)).2, lamQ)]) := by
  have T := c.txt KX G
  have T2 := c.tx2 KX G
  obtain ⟨f, fd, F, hm⟩ := id T.f_law
  rw [hlaw] at hm
  obtain rfl : fa = f := by injection hm with hm; injection hm
  refine ⟨fd, fun s u => FunD.bindsA (ps := ["_law_cells"]) F (fun _ _ _ _ _ _ us hl => match us, hl with | [_], _ => rfl) s [u] rfl, fun base TB => ?_⟩
  obtain ⟨fr, fdr, Fr, hmr⟩ := id T.f_law_right
  have er : fr = He.fAd K ("_law_right", none) := by
    have := He.glo_ok KX G (c.x.t.d.facts (f := .glo "_law_right") (by simp [hfa, hfa0, hfa1, hfa2]))
    rw [hmr] at this
    injection this with this
    injection this
  have OR := ok_law_right (P := RR.prog) (base := base) T T2 TB ⟨fr, fdr, Fr, hmr, code_at Fr er⟩
  exact ok_law T OR F
end Bt
open PySem PySem.W PySem.Calls PyProof.Rows in
theorem PySem.Challenge.cw_bentthrough_k61_whole_commands_done_holds : PySem.Challenge.rw_bentthrough_k61_whole_commands_done.Holds := by
  w_on; o_law
  refine HandSHeadRun.head_any (r := Bt.RR) (q := Bt.qV) (H := Bt.hookP) (ob := Bt.obP) (M := 11000) (loose := Bt.loose) (d := HandSHeadRun.topDef Bt.RR.prog 126) (kwd := []) Bt.obP_eq
    (by kernel_rfl) (fun s => by kernel_rfl) Bt.run_all (by kernel_rfl) (by kernel_rfl) (by kernel_rfl) (by rfl) (by first | assumption | decide +kernel) (by decide +kernel) ⟨rfl, rfl, rfl, rfl, rfl, by decide +kernel⟩ ?hw ?hc
  case hw => w_witness2
  case hc =>
    refine Att.attach_callB (l := PySem.Challenge.rw_bentthrough_k61_whole_commands_done) (n := 63) rfl (by kernel_rfl) fun w s0 s1 mg mb fa o pm cd doc a vs ns G Y ho hd hcd hmg hobj hints hlen hbits hg => ?_
    obtain ⟨K, KX, c⟩ := Y
    have hlaw : mg ("law" : PySem.Str) = some (.ref fa) := by
      have e : (HandSHeadRun.topDef Bt.RR.prog 126).name = ("law" : PySem.Str) := by kernel_rfl
      rw [← e]
      exact hmg
    obtain ⟨fd, hb, hF⟩ := Bt.law_end KX G.T.g hlaw c
    have hp : (("_law_right", none) : PySem.Str × Option PySem.Str) ∈ Bt.htf := List.mem_cons_self
    exact Bt.law_callG KX G.T.g G.T.b G.T.builtins G.T.nolimit hg (c.x.empty _ hp) (c.x.out _ hp) (PySem.W.codeHd_of_K KX (c.x.hd _ hp)) G.T.bmain hobj hints (Nat.le_trans hlen (by rw [sizeLine_eq]; decide)) ⟨rfl, by decide, by decide⟩ hF hb
      (fun H hH hS => ⟨a, ns, rfl, hS, hlen, fun p hp => by
        obtain rfl := List.mem_singleton.mp hp
        exact LamX.TabS.nil hH, fun _ => rfl⟩) fun H e s' ⟨_, _, _, _, _, _, _, _, _, _, _, _, hE⟩ => hE

