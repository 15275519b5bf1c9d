import PyProof.Rows.All
import Wide.All
import OpenK.AllK
import Wide.FinOn
import KE.KStateDown
import HandS.Head0
import HandS.Head1
import HandS.Head2
import HandS.Words
import HandS.WordsExc
import HandS.HeadHook4
import HandS.HeadWalk
import HandS.HeadEnd
import HandS.ForMost
import HandS.DeepEq
import HandS.Deep
import HandS.DictComp
import HandS.SuiteRaise
import HandS.ExcIs
import HandS.ExcField
import HandS.IsInst
import HandS.Rev
import HandS.Strs
import HandS.TryMany
import HandS.Lambda
import HandS.RaiseMore
import HandS.Conv
import HandS.Finally
import KE.IntTextLaws
import HandS.WrittenGet
import HandS.ExcInitHot
import HandS.ExcSuper
import KE.GoesComp
import KE.GoesRaise
import HandS.RevTup
import HandS.Set
import HandS.SetFor
import HandS.SetTxt0
import PySem.Challenge.RW_undotable_k03_whole_contents_read
set_option Elab.async false
set_option linter.all false
section
set_option linter.all false
set_option maxRecDepth 100000
set_option Elab.async false
/-! what is asked of the head, beside the kit's own facts -/
namespace Mi
open PySem PySem.Spec L2
open PyProof.Rows hiding St
def sx0 (t : List Nat) : Str := ⟨t.toArray⟩
def entB (e : DictEntry) (k : Str) (i : Int) : Bool := match e.key, e.val with
  | .str x _, .int j _ => decide (x = k) && decide (j = i)
  | _, _ => false
def partsB (K : PySem.W.Frag) (a : Addr) : Bool := match K.lookup a with
  | some ⟨_, _, .dict es _, _⟩ => (match es.toList with
    | [e1, e2, e3, e4] => entB e1 (sx0 [97, 100, 100]) 2 && entB e2 (sx0 [115, 117, 98]) 2 && entB e3 (sx0 [109, 117, 108]) 2 && entB e4 (sx0 [112, 105, 99, 107]) 4
    | _ => false)
  | _ => false
def noLst (K : PySem.W.Frag) : Bool := K.all fun p => match p.2.cls with
  | .type c => !decide (c = "list")
  | _ => true
/-- an error class whose exceptions isinstance may be asked of -/
def excB (K : PySem.W.Frag) (D : Addr) : Bool :=
  decide (PySem.W.findIn K (.ref D) "__getattribute__" = some (some (.builtin "BaseException.__getattribute__"))) && decide (PySem.W.findIn K (.ref D) "__getattr__" = some none) && decide (PySem.W.subIn K (.ref D) (.type "BaseException") = some true) && PySem.W.hasDictIn K D &&
    decide (PySem.W.findIn K (.ref D) "__class__" = some (some (.builtin "object.__class__"))) && decide (PySem.W.specialIn K (.builtin "object.__class__") "__get__" = some (some (.builtin "getset_descriptor.__get__"))) && decide (PySem.W.takesIn K (.builtin "object.__class__") = some true) && decide (PySem.W.mroIn K D (.type "object") = some true)
end Mi
end

section
set_option Elab.async false
set_option linter.all false
set_option maxRecDepth 100000
set_option maxHeartbeats 0
namespace Mi
open PySem PySem.Spec L2
open PyProof.Rows hiding St
def top (i : Nat) : Stmt := PySem.Challenge.pw_undotable_k03_whole_contents_read.main.body.getD i (.Pass ⟨0, 0, 0, 0⟩)
def d_need_cell : He.DefD := ⟨("need_cell", none), "need_cell", "need_cell", defArgs (top 7), defBody (top 7), defScope (top 7), [], []⟩
def d_number_of : He.DefD := ⟨("number_of", none), "number_of", "number_of", defArgs (top 13), defBody (top 13), defScope (top 13), [], []⟩
def d_rd_init : He.DefD := ⟨("Reader", some "__init__"), "__init__", "Reader.__init__", defArgs (inClass (top 14) 0), defBody (inClass (top 14) 0), defScope (inClass (top 14) 0), [], []⟩
def d_rd_word : He.DefD := ⟨("Reader", some "word"), "word", "Reader.word", defArgs (inClass (top 14) 1), defBody (inClass (top 14) 1), defScope (inClass (top 14) 1), [], []⟩
def d_rd_cell : He.DefD := ⟨("Reader", some "cell"), "cell", "Reader.cell", defArgs (inClass (top 14) 2), defBody (inClass (top 14) 2), defScope (inClass (top 14) 2), [], []⟩
def d_rd_part : He.DefD := ⟨("Reader", some "part"), "part", "Reader.part", defArgs (inClass (top 14) 3), defBody (inClass (top 14) 3), defScope (inClass (top 14) 3), [], []⟩
def d_read : He.DefD := ⟨("read", none), "read", "read", defArgs (top 15), defBody (top 15), defScope (top 15), [], []⟩
def d_l_begun : He.DefD := ⟨("_law_begun", none), "_law_begun", "_law_begun", defArgs (top 17), defBody (top 17), defScope (top 17), [], []⟩
def d_l_take : He.DefD := ⟨("_law_take", none), "_law_take", "_law_take", defArgs (top 18), defBody (top 18), defScope (top 18), [], []⟩
def d_l_alike : He.DefD := ⟨("_law_alike", none), "_law_alike", "_law_alike", defArgs (top 19), defBody (top 19), defScope (top 19), [], []⟩
def d_l_cell : He.DefD := ⟨("_law_cell", none), "_law_cell", "_law_cell", defArgs (top 20), defBody (top 20), defScope (top 20), [], []⟩
def d_l_stretch : He.DefD := ⟨("_law_stretch", none), "_law_stretch", "_law_stretch", defArgs (top 21), defBody (top 21), defScope (top 21), [], []⟩
def d_l_down : He.DefD := ⟨("_law_down", none), "_law_down", "_law_down", defArgs (top 22), defBody (top 22), defScope (top 22), [], []⟩
def d_l_part : He.DefD := ⟨("_law_part", none), "_law_part", "_law_part", defArgs (top 23), defBody (top 23), defScope (top 23), [], []⟩
def d_l_content : He.DefD := ⟨("_law_content", none), "_law_content", "_law_content", defArgs (top 24), defBody (top 24), defScope (top 24), [], []⟩
def d_l_part_text : He.DefD := ⟨("_law_part_text", none), "_law_part_text", "_law_part_text", defArgs (top 25), defBody (top 25), defScope (top 25), [], []⟩
def d_l_text : He.DefD := ⟨("_law_text", none), "_law_text", "_law_text", defArgs (top 26), defBody (top 26), defScope (top 26), [], []⟩
def d_l_reads : He.DefD := ⟨("_law_reads", none), "_law_reads", "_law_reads", defArgs (top 27), defBody (top 27), defScope (top 27), [], []⟩
def d_l_deep : He.DefD := ⟨("_law_deep", none), "_law_deep", "_law_deep", defArgs (top 28), defBody (top 28), defScope (top 28), [], []⟩
def d_l_text_of_k03 : He.DefD := ⟨("_law_text_of", none), "_law_text_of", "_law_text_of", defArgs (top 29), defBody (top 29), defScope (top 29), [], []⟩
def d_l_good_cell : He.DefD := ⟨("_law_good_cell", none), "_law_good_cell", "_law_good_cell", defArgs (top 30), defBody (top 30), defScope (top 30), [], []⟩
def d_l_good : He.DefD := ⟨("_law_good", none), "_law_good", "_law_good", defArgs (top 31), defBody (top 31), defScope (top 31), [], []⟩
def d_law_k03 : He.DefD := ⟨("law", none), "law", "law", defArgs (top 32), defBody (top 32), defScope (top 32), [], []⟩
def fnL : List He.DefD := [d_need_cell, d_number_of, d_rd_init, d_rd_word, d_rd_cell, d_rd_part, d_read, d_l_begun, d_l_take, d_l_alike, d_l_cell, d_l_stretch, d_l_down, d_l_part, d_l_content, d_l_part_text, d_l_text, d_l_reads, d_l_deep, d_l_text_of_k03, d_l_good_cell, d_l_good, d_law_k03]
def faL : List He.Fa := [.exm "TableError" "NoCell" false, .exm "NoCell" "NoCell" true, .exm "BadFormula" "NoCell" false, .exm "TableError" "TableError" true, .exm "NoCell" "TableError" true, .exm "BadFormula" "TableError" true, .cls "Reader", .noat "Reader" "at", .noat "Reader" "words", .free "ValueError", .free "abs", .free "bool", .free "int", .free "isinstance", .free "len", .free "list", .free "range", .free "sorted", .free "str", .free "tuple", .str "COLUMNS" "abcdef", .str "FIGURES" "0123456789", .int "MOST_DEEP" 5, .int "MOST_FIGURES" 6, .str "ROWS" "123456789", .glo "PARTS", .glo "BadFormula", .glo "NoCell", .glo "TableError", .exc "BadFormula"] ++ [.exc "NoCell", .glo "_law_alike", .glo "_law_begun", .glo "_law_cell", .glo "_law_content", .glo "_law_deep", .glo "_law_good", .glo "_law_good_cell", .glo "_law_part", .glo "_law_part_text", .glo "_law_reads", .glo "_law_stretch", .glo "_law_take", .glo "_law_text", .glo "_law_text_of", .glo "number_of", .glo "read", .glo "need_cell", .glo "Reader", .mkr "Reader", .meth "Reader" "cell", .meth "Reader" "part", .meth "Reader" "word", .glo "law"]
def tsL : List He.Tab := [(fun K => He.ga K "PARTS", ["add", "sub", "mul", "pick"])]
def exs_ (K : PySem.W.Frag) : List Bool := [noLst K, excB K (He.ga K "TableError"), decide (PySem.W.kitOne K (.ref (He.ga K "TableError")) (.ref (He.ga K "BadFormula")) = some false), excB K (He.ga K "NoCell"), decide (PySem.W.kitOne K (.ref (He.ga K "NoCell")) (.ref (He.ga K "BadFormula")) = some false), excB K (He.ga K "BadFormula"), decide (PySem.W.kitOne K (.ref (He.ga K "BadFormula")) (.ref (He.ga K "BadFormula")) = some true), decide (PySem.W.kitOne K (.ref (He.ga K "TableError")) (.ref (He.ga K "NoCell")) = some false), decide (PySem.W.kitOne K (.ref (He.ga K "NoCell")) (.ref (He.ga K "NoCell")) = some true), decide (PySem.W.kitOne K (.ref (He.ga K "BadFormula")) (.ref (He.ga K "NoCell")) = some false), decide (PySem.W.kitOne K (.ref (He.ga K "TableError")) (.type "ValueError") = some true), decide (PySem.W.kitOne K (.ref (He.ga K "NoCell")) (.type "ValueError") = some true), decide (PySem.W.kitOne K (.ref (He.ga K "BadFormula")) (.type "ValueError") = some true), partsB K (He.ga K "PARTS")]
def exL (K : PySem.W.Frag) : Bool := (exs_ K).all id
theorem exk {w : World} {K : PySem.W.Frag} {h : Heap} (c : He.SaysX faL fnL tsL [] exL w h K) (i : Nat) {b : Bool} (e : (exs_ K)[i]? = some b := by rfl) : b = true := List.all_eq_true.mp c.more b (List.mem_of_getElem? e)
abbrev RowL : PySem.W.OpenRow := PySem.W.OpenLaw.row PySem.Challenge.rw_undotable_k03_whole_contents_read
abbrev hkL : PySem.W.Hook := He.hookX 5 faL fnL tsL [] exL
def obL (s : PySem.W.SharedT) : hkL.α := He.obsX 5 faL fnL tsL [] exL (HandSHeadRun.getT s)
theorem obL_eq (s : PySem.W.SharedT) : obL s = hkL.obs s.abs := He.obsX_eq (HandSHeadRun.getT_eq s)
def looseL : List Str := (["TableError", "NoCell", "BadFormula", "COLUMNS", "ROWS", "need_cell", "PARTS", "FIGURES", "MOST_FIGURES", "MOST_DEEP", "number_of", "Reader", "read", "_law_begun", "_law_take", "_law_alike", "_law_cell", "_law_stretch", "_law_down", "_law_part", "_law_content", "_law_part_text", "_law_text", "_law_reads", "_law_deep", "_law_text_of", "_law_good_cell", "_law_good"] : List Str)
theorem runL_false (w : World) : HandSHeadRun.RunEq RowL (PySem.W.view RowL.prog [32]) hkL obL 10000 looseL (w.withFollow "special-get-raises" false) := by
  intro os
  kernel_rfl
theorem runL_true (w : World) : HandSHeadRun.RunEq RowL (PySem.W.view RowL.prog [32]) hkL obL 10000 looseL (w.withFollow "special-get-raises" true) := by
  intro os
  kernel_rfl
theorem runL (w : World) : HandSHeadRun.RunEq RowL (PySem.W.view RowL.prog [32]) hkL obL 10000 looseL w := PySem.W.byRow2 "special-get-raises" runL_false runL_true w
end Mi
end

section
set_option linter.all false
set_option maxRecDepth 100000
/-! Mini: a small language with slots, tuples as data, lists, dicts and instances in a store; its evaluator. -/
namespace Mi
open PySem

/-- a text: its code points -/
abbrev Tx := List Nat
/-- the kinds of refusal -/
inductive Ec where
  | table | cell | form | off | point | hand | note
  deriving DecidableEq, Repr
/-- classes with instances -/
inductive Cl where
  | reader | reckoner | point | tree
  deriving DecidableEq, Repr
/-- fields -/
inductive Fd where
  | words | at_ | contents | seen | rings | parent | hand | deed | changed | known | points | places
  deriving DecidableEq, Repr
/-- the module's constants -/
inductive Gc where
  | columns | rows | figures | mostFigures | mostDeep | widest | mostHands | ring | wide
  deriving DecidableEq, Repr

inductive D where
  | non | bl (b : Bool) | int (i : Int) | str (t : Tx) | tup (ds : List D) | ref (l : Nat)
  deriving Repr, Inhabited

/-- keys of dicts -/
inductive Ky where
  | i (n : Int) | s (t : Tx)
  deriving DecidableEq, Repr

inductive Ob where
  /-- a list; a list that is only read -/
  | lst (ds : List D) | frl (ds : List D)
  /-- a dict; a dict while it is walked -/
  | dct (kvs : List (Ky × D)) | frd (kvs : List (Ky × D))
  | ins (c : Cl) (fs : List (Fd × D))
  deriving Repr, Inhabited

/-- an exception: its class, a note's row -/
structure Exn where
  c : Ec
  row : Option Int := none
  deriving DecidableEq, Repr

abbrev Sto := List Ob

inductive Res (α : Type) where
  | ok (a : α) (S : Sto)
  | ex (x : Exn) (S : Sto)
  | bad

def Res.bind {α β : Type} (r : Res α) (f : α → Sto → Res β) : Res β :=
  match r with
  | .ok a S => f a S
  | .ex x S => .ex x S
  | .bad => .bad
@[simp] theorem Res.bind_ok {α β : Type} (a : α) (S : Sto) (f : α → Sto → Res β) : (Res.ok a S).bind f = f a S := rfl
@[simp] theorem Res.bind_ex {α β : Type} (x : Exn) (S : Sto) (f : α → Sto → Res β) : (Res.ex x S : Res α).bind f = .ex x S := rfl
@[simp] theorem Res.bind_bad {α β : Type} (f : α → Sto → Res β) : (Res.bad : Res α).bind f = .bad := rfl

/-- the longest list or text -/
def lim : Nat := 16777216

/-! ### data -/
mutual
def D.pure : D → Bool
  | .ref _ => false
  | .tup ds => D.pures ds
  | _ => true
def D.pures : List D → Bool
  | [] => true
  | d :: r => d.pure && D.pures r
end
mutual
/-- pure, its texts of small signs, nested below n -/
def D.okn : Nat → D → Bool
  | _, .ref _ => false
  | 0, .tup _ => false
  | n + 1, .tup ds => D.okns n ds
  | _, .str t => t.all (· < 128)
  | _, _ => true
def D.okns : Nat → List D → Bool
  | _, [] => true
  | n, d :: r => D.okn n d && D.okns n r
end
mutual
/-- == of data -/
def D.eqv : D → D → Bool
  | .non, .non => true
  | .bl a, .bl b => a == b
  | .bl a, .int j => (if a then 1 else 0) == j
  | .int i, .bl b => i == (if b then 1 else 0)
  | .int i, .int j => i == j
  | .str a, .str b => a == b
  | .tup a, .tup b => D.eqvs a b
  | _, _ => false
def D.eqvs : List D → List D → Bool
  | [], [] => true
  | a :: x, b :: y => a.eqv b && D.eqvs x y
  | _, _ => false
end
def D.flat : D → Bool
  | .non | .bl _ | .int _ | .str _ => true
  | _ => false
def D.key : D → Option Ky
  | .int i => some (.i i)
  | .str t => some (.s t)
  | _ => none
def Ky.d : Ky → D
  | .i n => .int n
  | .s t => .str t

/-! ### tables -/
def kget {α : Type} (kvs : List (Ky × α)) (k : Ky) : Option α := (kvs.find? fun kv => decide (kv.1 = k)).map (·.2)
def kput {α : Type} (kvs : List (Ky × α)) (k : Ky) (v : α) : List (Ky × α) :=
  if (kvs.any fun kv => decide (kv.1 = k)) = true then kvs.map (fun kv => if kv.1 = k then (kv.1, v) else kv) else kvs ++ [(k, v)]
def kdrop {α : Type} (kvs : List (Ky × α)) (k : Ky) : List (Ky × α) := kvs.filter fun kv => decide (kv.1 ≠ k)
def fget (fs : List (Fd × D)) (f : Fd) : Option D := (fs.find? fun p => decide (p.1 = f)).map (·.2)
def fput (f : Fd) (v : D) : List (Fd × D) → List (Fd × D)
  | [] => [(f, v)]
  | (g, x) :: r => if g = f then (g, v) :: r else (g, x) :: fput f v r

/-! ### the store -/
def Sto.seq (S : Sto) (l : Nat) : Option (List D) :=
  match S[l]? with
  | some (.lst ds) => some ds
  | some (.frl ds) => some ds
  | _ => none
def Sto.lst (S : Sto) (l : Nat) : Option (List D) :=
  match S[l]? with
  | some (.lst ds) => some ds
  | _ => none
def Sto.dic (S : Sto) (l : Nat) : Option (List (Ky × D)) :=
  match S[l]? with
  | some (.dct kvs) => some kvs
  | some (.frd kvs) => some kvs
  | _ => none
def Sto.dct (S : Sto) (l : Nat) : Option (List (Ky × D)) :=
  match S[l]? with
  | some (.dct kvs) => some kvs
  | _ => none
def Sto.ins (S : Sto) (l : Nat) : Option (Cl × List (Fd × D)) :=
  match S[l]? with
  | some (.ins c fs) => some (c, fs)
  | _ => none
def new (S : Sto) (o : Ob) : Res D := .ok (.ref S.length) (S ++ [o])

/-! ### == through the store -/
/-- equal lists or dicts, nested below n -/
def eqDeep (S : Sto) : Nat → D → D → Bool
  | 0, _, _ => false
  | n + 1, a, b =>
    match a, b with
    | .ref l, .ref m =>
      (match S.seq l, S.seq m with
        | some xs, some ys => decide (xs.length = ys.length) && (xs.zip ys).all fun p => eqDeep S n p.1 p.2
        | _, _ => false) ||
      (match S.dct l, S.dct m with
        | some ks, some ls => decide (ks.length = ls.length) && ks.all fun p => match kget ls p.1 with
          | some u => eqDeep S n p.2 u
          | none => false
        | _, _ => false)
    | a, b => D.okn 40 a && D.okn 40 b && D.eqv a b
def eqS (S : Sto) (a b : D) : Option Bool :=
  match a, b with
  | .ref l, .ref m =>
    match S.seq l, S.seq m with
    | some xs, some ys => if D.okns 40 xs && D.okns 40 ys then some (D.eqvs xs ys) else if eqDeep S 4 a b then some true else none
    | _, _ => if eqDeep S 4 a b then some true else none
  | .ref l, b =>
    match S.seq l with
    | some xs => if D.okns 40 xs && D.okn 40 b then some false else none
    | none => none
  | a, .ref m =>
    match S.seq m with
    | some ys => if D.okns 40 ys && D.okn 40 a then some false else none
    | none => none
  | a, b => if (a.flat && b.flat) || (D.okn 40 a && D.okn 40 b) then some (D.eqv a b) else none

/-- != -/
def neS (S : Sto) (a b : D) : Option Bool :=
  match a, b with
  | .ref l, .ref m =>
    match S.seq l, S.seq m with
    | some xs, some ys => if D.okns 40 xs && D.okns 40 ys then some (!D.eqvs xs ys) else none
    | _, _ => if (S.dct l).isSome && (S.dct m).isSome && eqDeep S 4 a b then some false else none
  | a, b => (eqS S a b).map (!·)

/-! ### operators -/
inductive Bo where
  | add | sub | mul | fdiv | mod
  deriving DecidableEq, Repr
inductive Co where
  | lt | le | gt | ge | eq | ne | isN | notN | inn | notin
  deriving DecidableEq, Repr
/-- bounds of whole numbers, asked by the number's own sign -/
def inB (m : Nat) : Int → Bool
  | .ofNat n => Nat.blt n m
  | .negSucc n => Nat.blt n m
theorem inB_iff {m : Nat} {i : Int} : inB m i = true ↔ (-(m : Int) ≤ i ∧ i < m) := by
  cases i with
  | ofNat n =>
    simp only [inB, Nat.blt_eq, Int.ofNat_eq_natCast]
    constructor
    · intro h; exact ⟨by omega, by omega⟩
    · rintro ⟨_, h⟩; omega
  | negSucc n =>
    simp only [inB, Nat.blt_eq]
    constructor
    · intro h; exact ⟨by omega, by omega⟩
    · rintro ⟨h, _⟩; omega
def divB : Int → Bool
  | .ofNat n => Nat.blt 0 n && Nat.blt n 1073741824
  | .negSucc _ => false
theorem divB_iff {j : Int} : divB j = true ↔ (0 < j ∧ j < 1073741824) := by
  cases j with
  | ofNat n =>
    simp only [divB, Bool.and_eq_true, Nat.blt_eq, Int.ofNat_eq_natCast]
    constructor
    · rintro ⟨h, h'⟩; exact ⟨by omega, by omega⟩
    · rintro ⟨h, h'⟩; exact ⟨by omega, by omega⟩
  | negSucc n =>
    simp only [divB]
    constructor
    · intro h; cases h
    · rintro ⟨h, _⟩; omega
instance (priority := 3000) decDiv (j : Int) : Decidable (0 < j ∧ j < 1073741824) := decidable_of_bool (divB j) divB_iff
instance (priority := 3000) decR1 (j : Int) : Decidable (-(2 ^ 62) ≤ j ∧ j < 2 ^ 62) := decidable_of_bool (inB (2 ^ 62) j) (by rw [inB_iff]; norm_cast)
instance (priority := 3000) decR3 (j : Int) : Decidable (-(2 ^ 63) ≤ j ∧ j < 2 ^ 63) := decidable_of_bool (inB (2 ^ 63) j) (by rw [inB_iff]; norm_cast)
instance (priority := 3000) decR2 (i j : Int) : Decidable (-(2 ^ 62) ≤ i ∧ i < 2 ^ 62 ∧ -(2 ^ 62) ≤ j ∧ j < 2 ^ 62) := decidable_of_bool (inB (2 ^ 62) i && inB (2 ^ 62) j) (by
  rw [Bool.and_eq_true, inB_iff, inB_iff]
  constructor
  · rintro ⟨⟨a, b⟩, c, d⟩; exact ⟨a, b, c, d⟩
  · rintro ⟨a, b, c, d⟩; exact ⟨⟨a, b⟩, c, d⟩)
instance (priority := 3000) decM (k : Int) (n : Nat) : Decidable (-(2 ^ 63) ≤ k ∧ k < 2 ^ 63 ∧ n * k.toNat ≤ lim) := decidable_of_bool (inB (2 ^ 63) k && Nat.ble (n * k.toNat) lim) (by
  rw [Bool.and_eq_true, inB_iff, Nat.ble_eq]
  constructor
  · rintro ⟨⟨a, b⟩, c⟩; exact ⟨a, b, c⟩
  · rintro ⟨a, b, c⟩; exact ⟨⟨a, b⟩, c⟩)
def smallI (i : Int) : Bool := inB (2 ^ 64 - 1) i
def binop (o : Bo) (a b : D) (S : Sto) : Res D :=
  match o, a, b with
  | .add, .int i, .int j => .ok (.int (i + j)) S
  | .add, .str x, .str y => if x.length + y.length ≤ lim then .ok (.str (x ++ y)) S else .bad
  | .add, .tup x, .tup y => if x ≠ [] ∧ x.length + y.length ≤ lim then .ok (.tup (x ++ y)) S else .bad
  | .add, .ref l, .ref m =>
    match S.lst l, S.lst m with
    | some x, some y => if x.length + y.length ≤ lim then new S (.lst (x ++ y)) else .bad
    | _, _ => .bad
  | .sub, .int i, .int j => .ok (.int (i - j)) S
  | .mul, .int i, .int j => if smallI i || smallI j then .ok (.int (i * j)) S else .bad
  | .mul, .ref l, .int k =>
    match S.lst l with
    | some x => if -(2 ^ 63) ≤ k ∧ k < 2 ^ 63 ∧ x.length * k.toNat ≤ lim then new S (.lst (List.replicate k.toNat x).flatten) else .bad
    | none => .bad
  | .fdiv, .int i, .int j => if 0 < j ∧ j < 1073741824 then .ok (.int (i / j)) S else .bad
  | .mod, .int i, .int j => if 0 < j then .ok (.int (i % j)) S else .bad
  | _, _, _ => .bad
/-- whether x is among these -/
def inL (x : D) (xs : List D) : Bool := xs.any fun y => y.eqv x
def isIn (a b : D) (S : Sto) : Option Bool :=
  match b with
  | .str z => match a with
    | .str [c] => some (decide (c ∈ z))
    | _ => none
  | .tup xs => if a.flat && xs.all D.flat then some (inL a xs) else none
  | .ref l =>
    match S.seq l with
    | some xs => if a.flat && xs.all D.flat then some (inL a xs) else if D.okn 40 a && D.okns 40 xs then some (inL a xs) else none
    | none =>
      match S.dic l, a.key with
      | some kvs, some k => some (kget kvs k).isSome
      | _, _ => none
  | _ => none
def cmpop (o : Co) (a b : D) (S : Sto) : Res D :=
  match o with
  | .lt => match a, b with
    | .int i, .int j => .ok (.bl (decide (i < j))) S
    | _, _ => .bad
  | .le => match a, b with
    | .int i, .int j => .ok (.bl (decide (i ≤ j))) S
    | _, _ => .bad
  | .gt => match a, b with
    | .int i, .int j => .ok (.bl (decide (j < i))) S
    | _, _ => .bad
  | .ge => match a, b with
    | .int i, .int j => .ok (.bl (decide (j ≤ i))) S
    | _, _ => .bad
  | .eq => match eqS S a b with
    | some k => .ok (.bl k) S
    | none => .bad
  | .ne => match neS S a b with
    | some k => .ok (.bl k) S
    | none => .bad
  | .isN => match a, b with
    | .non, .non => .ok (.bl true) S
    | _, .non => .ok (.bl false) S
    | _, _ => .bad
  | .notN => match a, b with
    | .non, .non => .ok (.bl false) S
    | _, .non => .ok (.bl true) S
    | _, _ => .bad
  | .inn => match isIn a b S with
    | some k => .ok (.bl k) S
    | none => .bad
  | .notin => match isIn a b S with
    | some k => .ok (.bl (!k)) S
    | none => .bad

/-! ### subscripts and slices -/
def getix (a i : D) (S : Sto) : Res D :=
  match a with
  | .str t => match i with
    | .int k => if t.length ≤ lim then (match L2.atI t k with
      | some c => .ok (.str [c]) S
      | none => .bad) else .bad
    | _ => .bad
  | .tup ds => match i with
    | .int k => (match L2.atI ds k with
      | some d => .ok d S
      | none => .bad)
    | _ => .bad
  | .ref l =>
    match S.seq l with
    | some ds => (match i with
      | .int k => (match L2.atI ds k with
        | some d => .ok d S
        | none => .bad)
      | _ => .bad)
    | none => .bad
  | _ => .bad
/-- d[k] of a dict -/
def getkey (a i : D) (S : Sto) : Res D :=
  match a with
  | .ref l =>
    match S.dic l, i.key with
    | some kvs, some k => (match kget kvs k with
      | some d => .ok d S
      | none => .bad)
    | _, _ => .bad
  | _ => .bad
def cut {α : Type} (xs : List α) (lo hi : Option Int) : List α :=
  (xs.drop (HT.sIx xs.length 0 lo)).take (HT.sIx xs.length xs.length hi - HT.sIx xs.length 0 lo)
def slice (a : D) (lo hi : Option Int) (S : Sto) : Res D :=
  match a with
  | .str t => if t.length ≤ lim then .ok (.str (cut t lo hi)) S else .bad
  | .tup ds => if HT.sIx ds.length 0 lo = 0 ∧ HT.sIx ds.length ds.length hi = ds.length then .bad else .ok (.tup (cut ds lo hi)) S
  | .ref l => match S.seq l with
    | some ds => new S (.lst (cut ds lo hi))
    | none => .bad
  | _ => .bad

/-! ### built-in functions and methods -/
inductive Ty where
  | int | bool | str | tup | lst | dct
  deriving DecidableEq, Repr
inductive B1 where
  | len | abs | int | str | lst | tup | dct | sorted | sortset | lrev | isi (t : Ty)
  deriving DecidableEq, Repr
inductive B2 where
  | min | max
  deriving DecidableEq, Repr
/-- methods of built-in types: without, with one, with two arguments -/
inductive M0 where
  | pop | lclear | dclear
  deriving DecidableEq, Repr
inductive M1 where
  | append | extend | lpop | dpop | get | find | split | join | partition | index
  deriving DecidableEq, Repr
inductive M2 where
  | pop | get
  deriving DecidableEq, Repr
def txtsOf : List D → Option (List Tx)
  | [] => some []
  | .str t :: r => (txtsOf r).map (t :: ·)
  | _ => none
def numsOf : List D → Option (List Int)
  | [] => some []
  | .int t :: r => (numsOf r).map (t :: ·)
  | _ => none
/-- texts in order -/
def txLe : Tx → Tx → Bool
  | [], _ => true
  | _ :: _, [] => false
  | a :: x, b :: y => if a = b then txLe x y else decide (a < b)
def insT (t : Tx) : List Tx → List Tx
  | [] => [t]
  | u :: r => if txLe t u then t :: u :: r else u :: insT t r
def sortT : List Tx → List Tx
  | [] => []
  | t :: r => insT t (sortT r)
def insI (t : Int) : List Int → List Int
  | [] => [t]
  | u :: r => if t ≤ u then t :: u :: r else u :: insI t r
def sortI : List Int → List Int
  | [] => []
  | t :: r => insI t (sortI r)
def dedup {α : Type} [DecidableEq α] : List α → List α
  | [] => []
  | a :: r => if a ∈ r then dedup r else a :: dedup r
def ofT (l : List Tx) : List D := l.map D.str
def ofI (l : List Int) : List D := l.map D.int
/-- the number's digits -/
def digits (n : Nat) : Tx := TL.numL n
def strI (i : Int) : Tx := if i < 0 then 45 :: digits i.natAbs else digits i.natAbs
/-- the number that a text of digits writes, with a sign ahead or without -/
def allDig (t : Tx) : Bool := !t.isEmpty && t.all fun c => decide (48 ≤ c) && decide (c ≤ 57)
def valDig (t : Tx) : Nat := t.foldl (fun acc c => acc * 10 + (c - 48)) 0
def intT (t : Tx) : Option Int :=
  match t with
  | 45 :: r => if allDig r then some (-(valDig r : Int)) else none
  | t => if allDig t then some (valDig t) else none
def sortD (ds : List D) : Option (List D) :=
  if ds.length < 64 then
    match txtsOf ds with
    | some ts => some (ofT (sortT ts))
    | none => (numsOf ds).map fun ns => ofI (sortI ns)
  else none
def sortSetD (ds : List D) : Option (List D) :=
  match numsOf ds with
  | some ns => if ds.length ≤ 1000 ∧ (dedup ns).length < 64 then some (ofI (sortI (dedup ns))) else none
  | none =>
    match txtsOf ds with
    | some ts => if ds.length ≤ 1000 ∧ (dedup ts).length < 64 then some (ofT (sortT (dedup ts))) else none
    | none => none
def isTy (t : Ty) (a : D) (S : Sto) : Option Bool :=
  match a with
  | .non => some false
  | .bl _ => some (decide (t = .bool) || decide (t = .int))
  | .int _ => some (decide (t = .int))
  | .str _ => some (decide (t = .str))
  | .tup _ => some (decide (t = .tup))
  | .ref l =>
    match S[l]? with
    | some (.lst _) => some (decide (t = .lst))
    | some (.dct _) => some (decide (t = .dct))
    | _ => none
def b1 (f : B1) (a : D) (S : Sto) : Res D :=
  match f with
  | .len => match a with
    | .str t => if t.length ≤ lim then .ok (.int t.length) S else .bad
    | .tup ds => .ok (.int ds.length) S
    | .ref l => (match S.seq l with
      | some ds => .ok (.int ds.length) S
      | none => match S.dic l with
        | some kvs => .ok (.int kvs.length) S
        | none => .bad)
    | _ => .bad
  | .abs => match a with
    | .int i => .ok (.int (if i < 0 then -i else i)) S
    | _ => .bad
  | .int => match a with
    | .bl k => .ok (.int (if k then 1 else 0)) S
    | .str t => (match intT t with
      | some n => if t.length ≤ 640 then .ok (.int n) S else .bad
      | none => .bad)
    | _ => .bad
  | .str => match a with
    | .int i => if i.natAbs < 10 ^ 500 then .ok (.str (strI i)) S else .bad
    | .str t => .ok (.str t) S
    | _ => .bad
  | .lst => match a with
    | .tup ds => new S (.lst ds)
    | .ref l => (match S.seq l with
      | some ds => new S (.lst ds)
      | none => match S.dct l with
        | some kvs => new S (.lst (kvs.map fun kv => kv.1.d))
        | none => .bad)
    | _ => .bad
  | .tup => match a with
    | .ref l => (match S.seq l with
      | some ds => .ok (.tup ds) S
      | none => .bad)
    | _ => .bad
  | .dct => match a with
    | .ref l => (match S.dic l with
      | some kvs => new S (.dct kvs)
      | none => .bad)
    | _ => .bad
  | .sorted => match a with
    | .ref l => (match S.seq l with
      | some ds => (match sortD ds with
        | some es => new S (.lst es)
        | none => .bad)
      | none => match S.dct l with
        | some kvs => (match sortD (kvs.map fun kv => kv.1.d) with
          | some es => new S (.lst es)
          | none => .bad)
        | none => .bad)
    | _ => .bad
  | .sortset => match a with
    | .ref l => (match S.seq l with
      | some ds => (match sortSetD ds with
        | some es => new S (.lst es)
        | none => .bad)
      | none => .bad)
    | _ => .bad
  | .lrev => match a with
    | .ref l => (match S.seq l with
      | some ds => new S (.lst ds.reverse)
      | none => .bad)
    | _ => .bad
  | .isi t => match isTy t a S with
    | some k => .ok (.bl k) S
    | none => .bad
def b2 (f : B2) (a b : D) (S : Sto) : Res D :=
  match f, a, b with
  | .max, .int i, .int j => .ok (.int (if j > i then j else i)) S
  | .min, .int i, .int j => .ok (.int (if j < i then j else i)) S
  | _, _, _ => .bad
def m0 (m : M0) (o : D) (S : Sto) : Res D :=
  match o with
  | .ref l =>
    match m with
    | .pop => (match S.lst l with
      | some ds => (match ds[ds.length - 1]? with
        | some d => .ok d (S.set l (.lst ds.dropLast))
        | none => .bad)
      | none => .bad)
    | .lclear => (match S.lst l with
      | some _ => .ok .non (S.set l (.lst []))
      | none => .bad)
    | .dclear => (match S.dct l with
      | some _ => .ok .non (S.set l (.dct []))
      | none => .bad)
  | _ => .bad
/-- the first place of a text of one sign, -1 for none -/
def findC (c : Nat) (t : Tx) : Int := match t.findIdx? (· == c) with
  | some k => k
  | none => -1
def idxOf (x : D) (ds : List D) : Option Nat := ds.findIdx? fun y => y.eqv x
def m1 (m : M1) (o a : D) (S : Sto) : Res D :=
  match o with
  | .str t =>
    match m with
    | .find => (match a with
      | .str [c] => .ok (.int (findC c t)) S
      | _ => .bad)
    | .split => (match a with
      | .str s => if s ≠ [] ∧ s.all (· < 256) ∧ t.length + 2 ≤ lim then new S (.lst (ofT (TL.spl s 0 [] t))) else .bad
      | _ => .bad)
    | .partition => (match a with
      | .str s => if s ≠ [] ∧ s.all (· < 256) ∧ t.length ≤ lim then (match TL.par s [] t with
        | some (x, y) => .ok (.tup [.str x, .str s, .str y]) S
        | none => .ok (.tup [.str t, .str [], .str []]) S) else .bad
      | _ => .bad)
    | .join => (match a with
      | .ref l => (match S.seq l with
        | some ds => (match txtsOf ds with
          | some ts => if (TL.joinL t ts).length + t.length ≤ lim then .ok (.str (TL.joinL t ts)) S else .bad
          | none => .bad)
        | none => .bad)
      | _ => .bad)
    | _ => .bad
  | .ref l =>
    match m with
    | .append => (match S.lst l with
      | some ds => if ds.length < lim then .ok .non (S.set l (.lst (ds ++ [a]))) else .bad
      | none => .bad)
    | .extend => (match a with
      | .ref r => (match S.lst l, S.lst r with
        | some ds, some es => if ds.length + es.length ≤ lim then .ok .non (S.set l (.lst (ds ++ es))) else .bad
        | _, _ => .bad)
      | _ => .bad)
    | .lpop => (match S.lst l with
      | some ds => (match a with
        | .int i => if -(2 ^ 63) ≤ i ∧ i < 2 ^ 63 then (match L2.ixN ds.length i with
          | some k => (match ds[k]? with
            | some d => .ok d (S.set l (.lst (ds.eraseIdx k)))
            | none => .bad)
          | none => .bad) else .bad
        | _ => .bad)
      | none => .bad)
    | .dpop => (match S.dct l, a.key with
        | some kvs, some k => (match kget kvs k with
          | some d => .ok d (S.set l (.dct (kdrop kvs k)))
          | none => .bad)
        | _, _ => .bad)
    | .get => (match S.dic l, a.key with
      | some kvs, some k => .ok ((kget kvs k).getD .non) S
      | _, _ => .bad)
    | .index => (match S.seq l with
      | some ds => if a.flat && ds.all D.flat then (match idxOf a ds with
        | some k => .ok (.int k) S
        | none => .bad) else .bad
      | none => .bad)
    | _ => .bad
  | _ => .bad
def m2 (m : M2) (o a b : D) (S : Sto) : Res D :=
  match o with
  | .ref l =>
    match m with
    | .get => (match S.dic l, a.key with
      | some kvs, some k => .ok ((kget kvs k).getD b) S
      | _, _ => .bad)
    | .pop => (match S.dct l, a.key with
      | some kvs, some k => (match kget kvs k with
        | some d => .ok d (S.set l (.dct (kdrop kvs k)))
        | none => .ok b S)
      | _, _ => .bad)
  | _ => .bad
/-- o[i] = v of a list, of a dict -/
def setlx (o i v : D) (S : Sto) : Option Sto :=
  match o, i with
  | .ref l, .int k =>
    match S.lst l with
    | some ds => (match L2.ixN ds.length k with
      | some j => some (S.set l (.lst (ds.set j v)))
      | none => none)
    | none => none
  | _, _ => none
def setkx (o i v : D) (S : Sto) : Option Sto :=
  match o with
  | .ref l =>
    match S.dct l, i.key with
    | some kvs, some k => if kvs.length < lim then some (S.set l (.dct (kput kvs k v))) else none
    | _, _ => none
  | _ => none
def getfd (o : D) (c : Cl) (f : Fd) (S : Sto) : Res D :=
  match o with
  | .ref l => (match S.ins l with
    | some (c', fs) => if c' = c then (match fget fs f with
      | some d => .ok d S
      | none => .bad) else .bad
    | none => .bad)
  | _ => .bad
def setfd (o : D) (c : Cl) (f : Fd) (v : D) (S : Sto) : Option Sto :=
  match o with
  | .ref l => (match S.ins l with
    | some (c', fs) => if c' = c ∧ fs.length < 1000 then some (S.set l (.ins c (fput f v fs))) else none
    | none => none)
  | _ => none
/-- an instance of the class -/
def isIns (o : D) (c : Cl) (S : Sto) : Bool :=
  match o with
  | .ref l => (match S.ins l with
    | some (c', _) => decide (c' = c)
    | none => false)
  | _ => false
/-- the first kind is the second one or below it -/
def Ec.sub (a b : Ec) : Bool := decide (a = b) || decide (b = .table)
def gval : Gc → D
  | .columns => .str [97, 98, 99, 100, 101, 102]
  | .rows => .str [49, 50, 51, 52, 53, 54, 55, 56, 57]
  | .figures => .str [48, 49, 50, 51, 52, 53, 54, 55, 56, 57]
  | .mostFigures => .int 6
  | .mostDeep => .int 5
  | .widest => .int 999999999
  | .mostHands => .int 4
  | .ring => .tup [.str [111, 100, 100], .str [114, 105, 110, 103]]
  | .wide => .tup [.str [111, 100, 100], .str [119, 105, 100, 101]]
end Mi
end

section
set_option linter.all false
set_option maxRecDepth 100000
namespace Mi
open PySem

/-- the defs of all laws' texts -/
inductive Fn where
  | need_cell | place_of | cell_at | stretch | shifted | l_begun | l_take | l_alike | l_cell | l_stretch | l_down | l_told | law_k01 | number_of | rd_init | rd_word | rd_cell | rd_part | read | part_text | text_of | read_cells | l_part | l_content | l_part_text | l_text | l_reads | law_k02 | l_deep | l_text_of_k03 | l_good_cell | l_good | law_k03 | is_odd | leaning | come_to | rk_init | rk_value | rk_worth | rk_added | rk_joined | rk_picked | rk_every | values | l_led | l_two | l_value | l_worth | l_values | l_contents | l_same | law_k04 | touched | renewed | law_k05 | moved | uses | made | changes | done | l_deed | l_uses | l_moved | l_changes | l_with | l_told_k06 | law_k06 | need_deed | pt_init | tr_init | tr_need_hand | tr_need_point | tr_grow | tr_do | tr_here | tr_told | tr_many | tr_table | tr_worths | tr_trail | tr_fork | tr_road | tr_go | l_done | l_is_told | law_k07 | tr_stepped | last_change | leans | fallen | without | l_many | l_grown | l_trail | l_last | l_leans | l_fallen | l_regrown | l_far | law_k08 | reads | clashing | joined | l_refusal | l_at_points | l_at_hands | l_at_first | l_bad_deed | law_k09 | l_led_k10 | l_read_points | law_k10 | l_taken | l_table | l_is_done | law_k11 | l_content_of | law_k12 | l_joined | law_k13 | law_k14 | deed_text | written | count_of | deed_of | put_row | read_notes | l_deed_text | l_rows | l_is_same | law_k15 | l_none | l_spoilt | l_text_of | law_k16 | l_number | l_places | l_told_k17 | law_k17
  deriving DecidableEq, Repr

mutual
inductive Ex where
  | v (i : Nat) | int (i : Int) | str (t : Tx) | bl (b : Bool) | non
  | g (c : Gc) | parts (e : Ex) | inParts (e : Ex)
  | bin (o : Bo) (a b : Ex) | neg (a : Ex)
  | cmp (o : Co) (a b : Ex) | chn (o p : Co) (a b c : Ex)
  | and (a b : Ex) | or (a b : Ex) | not (a : Ex) | ife (c a b : Ex)
  | tup (es : Exs) | lst (es : Exs) | dct (es : Exs)
  | ix (a i : Ex) | dget (a i : Ex) | sl (a : Ex) (lo hi : Exs)
  | call (f : Fn) (es : Exs) | mk (c : Cl) (es : Exs) | meth (f : Fn) (o : Ex) (es : Exs)
  | fld (o : Ex) (c : Cl) (f : Fd)
  | b1 (f : B1) (a : Ex) | b2 (f : B2) (a b : Ex)
  | m0 (m : M0) (o : Ex) | m1 (m : M1) (o a : Ex) | m2 (m : M2) (o a b : Ex)
  | lc (slot : Nat) (src : Src) (cond : Exs) (elt : Ex)
  | isE (c : Ec) | isVE | eRow
inductive Exs where
  | nil
  | cons (e : Ex) (r : Exs)
/-- what a loop walks -/
inductive Src where
  | seq (e : Ex) | dic (e : Ex) | rng1 (e : Ex) | rng2 (a b : Ex) | rev (e : Ex) | enm (e : Ex)
end

inductive Tg where
  | one (i : Nat) | tup (is : List Nat)
  deriving Repr

mutual
inductive Sm where
  | set (i : Nat) (e : Ex) | unp (is : List Nat) (e : Ex) | setf (o : Ex) (c : Cl) (f : Fd) (e : Ex) | seti (o i e : Ex) | setk (o i e : Ex)
  | ex (e : Ex) | ret (e : Ex) | retN
  | iff (c : Ex) (a b : Sms) | whl (c : Ex) (b : Sms) | for_ (t : Tg) (s : Src) (b : Sms)
  | rse (hot : Bool) (c : Ec) | rseN (hot : Bool) (e : Ex)
  | try_ (b : Sms) (c : Ec) (as : Option Nat) (h : Sms)
  /-- its suite may raise -/
  | tryX (b : Sms) (c : Ec) (h : Sms)
  | exInit (e : Ex) | exRow (e : Ex)
  | pass
inductive Sms where
  | nil
  | cons (s : Sm) (r : Sms)
end

structure Env where
  sl : List (Option D)
  cur : Option Exn := none

/-- how calls are run: by defs, by the making of an instance; whether a raise within an except suite is run -/
structure Cf where
  hot : Bool
  cf : Fn → List D → Sto → Res D
  ci : Fn → List D → Sto → Res D

/-- more than any loop's turns -/
def FU : Nat := 1000000

/-- what is walked -/
inductive It where
  | live (l : Nat) | items (ds : List D) | rev (l n : Nat) | dic (l : Nat) (kvs : List (Ky × D)) | enm (l : Nat)

/-! ### comprehensions: acc is the list so far -/
def accd (acc : List D) (r : Option D) : Option (List D) :=
  match r with
  | none => some acc
  | some d => if acc.length < lim then some (acc ++ [d]) else none
def compX (step : D → Sto → Res (Option D)) : List D → List D → Sto → Res (List D)
  | [], acc, S => .ok acc S
  | d :: r, acc, S => (step d S).bind fun y S1 => match accd acc y with
    | some acc' => compX step r acc' S1
    | none => .bad
def compL (step : D → Sto → Res (Option D)) (l : Nat) : Nat → Nat → List D → Sto → Res (List D)
  | 0, _, _, _ => .bad
  | n + 1, i, acc, S => match S.seq l with
    | none => .bad
    | some ds => match ds[i]? with
      | none => .ok acc S
      | some d => (step d S).bind fun y S1 => match accd acc y with
        | some acc' => compL step l n (i + 1) acc' S1
        | none => .bad
def compR (step : D → Sto → Res (Option D)) (l : Nat) : Nat → List D → Sto → Res (List D)
  | 0, acc, S => .ok acc S
  | n + 1, acc, S => match S.seq l with
    | none => .bad
    | some ds => match ds[n]? with
      | none => .bad
      | some d => (step d S).bind fun y S1 => match accd acc y with
        | some acc' => compR step l n acc' S1
        | none => .bad
def compI (step : D → Sto → Res (Option D)) (J : It) (S : Sto) : Res (List D) :=
  match J with
  | .live l => compL step l FU 0 [] S
  | .items ds => compX step ds [] S
  | .rev l n => compR step l n [] S
  | .dic l kvs => match compX step (kvs.map fun kv => kv.1.d) [] (S.set l (.frd kvs)) with
    | .ok acc S' => .ok acc (S'.set l (.dct kvs))
    | _ => .bad
  | .enm _ => .bad
def toIt (k : Src) (a : List D) (S : Sto) : Option It :=
  match k, a with
  | .seq _, [.ref l] => if (S.seq l).isSome then some (.live l) else none
  | .seq _, [.tup ds] => some (.items ds)
  | .seq _, [.str t] => some (.items (t.map fun c => .str [c]))
  | .dic _, [.ref l] => (S.dct l).map fun kvs => .dic l kvs
  | .rng1 _, [.int j] => if -(2 ^ 62) ≤ j ∧ j < 2 ^ 62 then some (.items ((List.range j.toNat).map fun i : Nat => .int i)) else none
  | .rng2 _ _, [.int i, .int j] => if -(2 ^ 62) ≤ i ∧ i < 2 ^ 62 ∧ -(2 ^ 62) ≤ j ∧ j < 2 ^ 62 then some (.items ((List.range (j - i).toNat).map fun k : Nat => .int (i + k))) else none
  | .rev _, [.ref l] => (S.seq l).map fun ds => .rev l ds.length
  | .enm _, [.ref l] => if (S.seq l).isSome then some (.enm l) else none
  | _, _ => none

def pairUp : List D → Option (List (Ky × D))
  | [] => some []
  | k :: v :: r => match k.key, pairUp r with
    | some k, some r => some ((k, v) :: r)
    | _, _ => none
  | _ => none
def initOf : Cl → Fn
  | .reader => .rd_init
  | .reckoner => .rk_init
  | .point => .pt_init
  | .tree => .tr_init
/-- the receiver is a dict -/
def isDic (o : D) (S : Sto) : Bool := match o with
  | .ref l => (S.dic l).isSome
  | _ => false
def isSeq (o : D) (S : Sto) : Bool := match o with
  | .ref l => (S.seq l).isSome
  | _ => false
def isTxt (o : D) : Bool := match o with
  | .str _ => true
  | _ => false
/-- the receiver is of the method's type -/
def recv1 (m : M1) (o : D) (S : Sto) : Bool :=
  match m with
  | .append | .extend | .lpop | .index => isSeq o S
  | .dpop | .get => isDic o S
  | .find | .split | .join | .partition => isTxt o
/-- a slice's part -/
def partOf : List D → Option (Option Int)
  | [] => some none
  | [.int i] => some (some i)
  | _ => none
/-- the class of a method -/
def clsOf : Fn → Cl
  | .rd_init | .rd_word | .rd_cell | .rd_part => .reader
  | .rk_init | .rk_value | .rk_worth | .rk_added | .rk_joined | .rk_picked | .rk_every => .reckoner
  | .pt_init => .point
  | _ => .tree
def partsOf (t : Tx) : Option Int :=
  if t = [97, 100, 100] then some 2 else if t = [115, 117, 98] then some 2 else if t = [109, 117, 108] then some 2 else if t = [112, 105, 99, 107] then some 4 else none
def Env.get (ε : Env) (i : Nat) : Option D := match ε.sl[i]? with
  | some (some d) => some d
  | _ => none
def Env.put (ε : Env) (i : Nat) (d : D) : Env := { ε with sl := ε.sl.set i (some d) }
def Env.wipe (ε : Env) (i : Nat) : Env := { ε with sl := ε.sl.set i none }

mutual
def ev (C : Cf) : Ex → Env → Sto → Res D
  | .v i, ε, S => match ε.get i with
    | some d => .ok d S
    | none => .bad
  | .int i, _, S => .ok (.int i) S
  | .str t, _, S => .ok (.str t) S
  | .bl b, _, S => .ok (.bl b) S
  | .non, _, S => .ok .non S
  | .g c, _, S => .ok (gval c) S
  | .parts e, ε, S => (ev C e ε S).bind fun a S1 => match a with
    | .str t => (match partsOf t with
      | some n => .ok (.int n) S1
      | none => .bad)
    | _ => .bad
  | .inParts e, ε, S => (ev C e ε S).bind fun a S1 => match a with
    | .str t => .ok (.bl (partsOf t).isSome) S1
    | _ => .bad
  | .bin o a b, ε, S => (ev C a ε S).bind fun x S1 => (ev C b ε S1).bind fun y S2 => binop o x y S2
  | .neg a, ε, S => (ev C a ε S).bind fun x S1 => match x with
    | .int i => .ok (.int (-i)) S1
    | _ => .bad
  | .cmp o a b, ε, S => (ev C a ε S).bind fun x S1 => (ev C b ε S1).bind fun y S2 => cmpop o x y S2
  | .chn o p a b c, ε, S => (ev C a ε S).bind fun x S1 => (ev C b ε S1).bind fun y S2 => (cmpop o x y S2).bind fun r S3 => match r with
    | .bl true => (ev C c ε S3).bind fun z S4 => cmpop p y z S4
    | .bl false => .ok (.bl false) S3
    | _ => .bad
  | .and a b, ε, S => (ev C a ε S).bind fun x S1 => match x with
    | .bl true => ev C b ε S1
    | .bl false => .ok (.bl false) S1
    | _ => .bad
  | .or a b, ε, S => (ev C a ε S).bind fun x S1 => match x with
    | .bl true => .ok (.bl true) S1
    | .bl false => ev C b ε S1
    | _ => .bad
  | .not a, ε, S => (ev C a ε S).bind fun x S1 => match x with
    | .bl k => .ok (.bl (!k)) S1
    | _ => .bad
  | .ife c a b, ε, S => (ev C c ε S).bind fun x S1 => match x with
    | .bl true => ev C a ε S1
    | .bl false => ev C b ε S1
    | _ => .bad
  | .tup es, ε, S => (evs C es ε S).bind fun ds S1 => .ok (.tup ds) S1
  | .lst es, ε, S => (evs C es ε S).bind fun ds S1 => new S1 (.lst ds)
  | .dct es, ε, S => (evs C es ε S).bind fun ds S1 => match pairUp ds with
    | some kvs => new S1 (.dct (kvs.foldl (fun acc kv => kput acc kv.1 kv.2) []))
    | none => .bad
  | .ix a i, ε, S => (ev C a ε S).bind fun x S1 => (ev C i ε S1).bind fun y S2 => getix x y S2
  | .dget a i, ε, S => (ev C a ε S).bind fun x S1 => (ev C i ε S1).bind fun y S2 => getkey x y S2
  | .sl a lo hi, ε, S => (ev C a ε S).bind fun x S1 => (evs C lo ε S1).bind fun l S2 => match partOf l with
    | none => .bad
    | some l => (evs C hi ε S2).bind fun h S3 => match partOf h with
      | none => .bad
      | some h => slice x l h S3
  | .call f es, ε, S => (evs C es ε S).bind fun ds S1 => C.cf f ds S1
  | .mk c es, ε, S => (evs C es ε S).bind fun ds S1 => (C.ci (initOf c) (.ref S1.length :: ds) (S1 ++ [.ins c []])).bind fun r S2 => match r with
    | .non => .ok (.ref S1.length) S2
    | _ => .bad
  | .meth f o es, ε, S => (ev C o ε S).bind fun x S1 => if isIns x (clsOf f) S1 then (evs C es ε S1).bind fun ds S2 => C.cf f (x :: ds) S2 else .bad
  | .fld o c f, ε, S => (ev C o ε S).bind fun x S1 => getfd x c f S1
  | .b1 f a, ε, S => (ev C a ε S).bind fun x S1 => b1 f x S1
  | .b2 f a b, ε, S => (ev C a ε S).bind fun x S1 => (ev C b ε S1).bind fun y S2 => b2 f x y S2
  | .m0 m o, ε, S => (ev C o ε S).bind fun x S1 => m0 m x S1
  | .m1 m o a, ε, S => (ev C o ε S).bind fun x S1 => if recv1 m x S1 then (ev C a ε S1).bind fun y S2 => m1 m x y S2 else .bad
  | .m2 m o a b, ε, S => (ev C o ε S).bind fun x S1 => if isDic x S1 then (ev C a ε S1).bind fun y S2 => (ev C b ε S2).bind fun z S3 => m2 m x y z S3 else .bad
  | .lc i src cond elt, ε, S => (evI C src ε S).bind fun J S1 =>
    (compI (fun d S' => (evs C cond (ε.put i d) S').bind fun ks S2 => match ks with
      | [] => (ev C elt (ε.put i d) S2).bind fun y S3 => .ok (some y) S3
      | [.bl true] => (ev C elt (ε.put i d) S2).bind fun y S3 => .ok (some y) S3
      | [.bl false] => .ok none S2
      | _ => .bad) J S1).bind fun acc S2 => new S2 (.lst acc)
  | .isE c, ε, S => match ε.cur with
    | some ⟨k, none⟩ => if k = .note then .bad else .ok (.bl (k.sub c)) S
    | some ⟨k, some _⟩ => if C.hot then .ok (.bl (k.sub c)) S else .bad
    | none => .bad
  | .isVE, ε, S => match ε.cur with
    | some ⟨k, none⟩ => if k = .note then .bad else .ok (.bl true) S
    | some ⟨k, some _⟩ => if C.hot then .ok (.bl true) S else .bad
    | none => .bad
  | .eRow, ε, S => match ε.cur with
    | some ⟨_, some r⟩ => .ok (.int r) S
    | _ => .bad
def evs (C : Cf) : Exs → Env → Sto → Res (List D)
  | .nil, _, S => .ok [] S
  | .cons e r, ε, S => (ev C e ε S).bind fun d S1 => (evs C r ε S1).bind fun ds S2 => .ok (d :: ds) S2
/-- what is walked, once the walked expression has come -/
def evI (C : Cf) : Src → Env → Sto → Res It
  | .seq e, ε, S => (ev C e ε S).bind fun a S1 => match toIt (.seq .non) [a] S1 with
    | some J => .ok J S1
    | none => .bad
  | .dic e, ε, S => (ev C e ε S).bind fun a S1 => match toIt (.dic .non) [a] S1 with
    | some J => .ok J S1
    | none => .bad
  | .rng1 e, ε, S => (ev C e ε S).bind fun a S1 => match toIt (.rng1 .non) [a] S1 with
    | some J => .ok J S1
    | none => .bad
  | .rng2 e f, ε, S => (ev C e ε S).bind fun a S1 => (ev C f ε S1).bind fun b S2 => match toIt (.rng2 .non .non) [a, b] S2 with
    | some J => .ok J S2
    | none => .bad
  | .rev e, ε, S => (ev C e ε S).bind fun a S1 => match toIt (.rev .non) [a] S1 with
    | some J => .ok J S1
    | none => .bad
  | .enm e, ε, S => (ev C e ε S).bind fun a S1 => match toIt (.enm .non) [a] S1 with
    | some J => .ok J S1
    | none => .bad
end

/-! ### statements -/
inductive SR where
  | nx (ε : Env) (S : Sto)
  | rt (d : D) (S : Sto)
  | ex (x : Exn) (ε : Env) (S : Sto)
  | bad
def Res.toS {α : Type} (r : Res α) (ε : Env) (f : α → Sto → SR) : SR :=
  match r with
  | .ok a S => f a S
  | .ex x S => .ex x ε S
  | .bad => .bad
@[simp] theorem Res.toS_ok {α : Type} (a : α) (S : Sto) (ε : Env) (f : α → Sto → SR) : (Res.ok a S).toS ε f = f a S := rfl
@[simp] theorem Res.toS_ex {α : Type} (x : Exn) (S : Sto) (ε : Env) (f : α → Sto → SR) : (Res.ex x S : Res α).toS ε f = .ex x ε S := rfl
@[simp] theorem Res.toS_bad {α : Type} (ε : Env) (f : α → Sto → SR) : (Res.bad : Res α).toS ε f = .bad := rfl
def SR.then_ (r : SR) (f : Env → Sto → SR) : SR :=
  match r with
  | .nx ε S => f ε S
  | r => r
@[simp] theorem SR.then_nx (ε : Env) (S : Sto) (f : Env → Sto → SR) : (SR.nx ε S).then_ f = f ε S := rfl
@[simp] theorem SR.then_rt (d : D) (S : Sto) (f : Env → Sto → SR) : (SR.rt d S).then_ f = .rt d S := rfl
@[simp] theorem SR.then_ex (x : Exn) (ε : Env) (S : Sto) (f : Env → Sto → SR) : (SR.ex x ε S).then_ f = .ex x ε S := rfl
@[simp] theorem SR.then_bad (f : Env → Sto → SR) : (SR.bad).then_ f = .bad := rfl

def putAll : List Nat → List D → Env → Option Env
  | [], [], ε => some ε
  | i :: is, d :: ds, ε => putAll is ds (ε.put i d)
  | _, _, _ => none
def Tg.bind (t : Tg) (d : D) (ε : Env) : Option Env :=
  match t with
  | .one i => some (ε.put i d)
  | .tup is => match d with
    | .tup ds => putAll is ds ε
    | _ => none
def loopX (body : D → Env → Sto → SR) : List D → Env → Sto → SR
  | [], ε, S => .nx ε S
  | d :: r, ε, S => (body d ε S).then_ fun ε' S' => loopX body r ε' S'
def loopL (body : D → Env → Sto → SR) (l : Nat) : Nat → Nat → Env → Sto → SR
  | 0, _, _, _ => .bad
  | n + 1, i, ε, S => match S.seq l with
    | none => .bad
    | some ds => match ds[i]? with
      | none => .nx ε S
      | some d => (body d ε S).then_ fun ε' S' => loopL body l n (i + 1) ε' S'
def loopE (body : D → Env → Sto → SR) (l : Nat) : Nat → Nat → Env → Sto → SR
  | 0, _, _, _ => .bad
  | n + 1, i, ε, S => match S.seq l with
    | none => .bad
    | some ds => match ds[i]? with
      | none => .nx ε S
      | some d => (body (.tup [.int i, d]) ε S).then_ fun ε' S' => loopE body l n (i + 1) ε' S'
def loopR (body : D → Env → Sto → SR) (l : Nat) : Nat → Env → Sto → SR
  | 0, ε, S => .nx ε S
  | n + 1, ε, S => match S.seq l with
    | none => .bad
    | some ds => match ds[n]? with
      | none => .bad
      | some d => (body d ε S).then_ fun ε' S' => loopR body l n ε' S'
def loopI (body : D → Env → Sto → SR) (J : It) (ε : Env) (S : Sto) : SR :=
  match J with
  | .live l => loopL body l FU 0 ε S
  | .items ds => loopX body ds ε S
  | .rev l n => loopR body l n ε S
  | .dic l kvs => match loopX body (kvs.map fun kv => kv.1.d) ε (S.set l (.frd kvs)) with
    | .nx ε' S' => .nx ε' (S'.set l (.dct kvs))
    | _ => .bad
  | .enm l => loopE body l FU 0 ε S
def whileW (c : Env → Sto → Res D) (body : Env → Sto → SR) : Nat → Env → Sto → SR
  | 0, _, _ => .bad
  | n + 1, ε, S => (c ε S).toS ε fun k S1 => match k with
    | .bl true => (body ε S1).then_ fun ε' S' => whileW c body n ε' S'
    | .bl false => .nx ε S1
    | _ => .bad

mutual
def ex (C : Cf) : Sm → Env → Sto → SR
  | .set i e, ε, S => (ev C e ε S).toS ε fun d S1 => .nx (ε.put i d) S1
  | .unp is e, ε, S => (ev C e ε S).toS ε fun d S1 => match d with
    | .tup ds => (match putAll is ds ε with
      | some ε' => .nx ε' S1
      | none => .bad)
    | _ => .bad
  | .setf o c f e, ε, S => (ev C e ε S).toS ε fun d S1 => (ev C o ε S1).toS ε fun x S2 => match setfd x c f d S2 with
    | some S3 => .nx ε S3
    | none => .bad
  | .seti o i e, ε, S => (ev C e ε S).toS ε fun d S1 => (ev C o ε S1).toS ε fun x S2 => (ev C i ε S2).toS ε fun y S3 => match setlx x y d S3 with
    | some S4 => .nx ε S4
    | none => .bad
  | .setk o i e, ε, S => (ev C e ε S).toS ε fun d S1 => (ev C o ε S1).toS ε fun x S2 => (ev C i ε S2).toS ε fun y S3 => match setkx x y d S3 with
    | some S4 => .nx ε S4
    | none => .bad
  | .ex e, ε, S => (ev C e ε S).toS ε fun _ S1 => .nx ε S1
  | .ret e, ε, S => (ev C e ε S).toS ε fun d S1 => .rt d S1
  | .retN, _, S => .rt .non S
  | .iff c a b, ε, S => (ev C c ε S).toS ε fun k S1 => match k with
    | .bl true => exs C a ε S1
    | .bl false => exs C b ε S1
    | _ => .bad
  | .whl c b, ε, S => whileW (fun ε S => ev C c ε S) (fun ε S => exs C b ε S) FU ε S
  | .for_ t s b, ε, S => (evI C s ε S).toS ε fun J S1 => loopI (fun d ε S => match t.bind d ε with
    | some ε' => exs C b ε' S
    | none => .bad) J ε S1
  | .rse h c, ε, S => if h && !C.hot then .bad else .ex ⟨c, none⟩ ε S
  | .rseN h e, ε, S => if h && !C.hot then .bad else (ev C e ε S).toS ε fun d S1 => match d with
    | .int r => .ex ⟨.note, some r⟩ ε S1
    | _ => .bad
  | .try_ b c as h, ε, S => match exs C b ε S with
    | .ex x ε' S' => if x.c.sub c then
        (match as with
          | none => (match exs C h { ε' with cur := some x } S' with
            | .nx ε2 S2 => .nx { ε2 with cur := ε.cur } S2
            | .ex x2 ε2 S2 => if C.hot then .ex x2 { ε2 with cur := ε.cur } S2 else .bad
            | r => r)
          | some i => if i < ε'.sl.length then (match exs C h { ε'.wipe i with cur := some x } S' with
            | .nx ε2 S2 => .nx { ε2.wipe i with cur := ε.cur } S2
            | .ex x2 ε2 S2 => if C.hot then .ex x2 { ε2.wipe i with cur := ε.cur } S2 else .bad
            | r => r) else .bad)
      else .ex x ε' S'
    | r => r
  | .tryX b c h, ε, S => match exs C b ε S with
    | .ex x ε' S' => if x.c.sub c then
        (match exs C h { ε' with cur := some x } S' with
          | .nx ε2 S2 => .nx { ε2 with cur := ε.cur } S2
          | .ex x2 ε2 S2 => .ex x2 { ε2 with cur := ε.cur } S2
          | r => r)
      else .ex x ε' S'
    | r => r
  | .exInit _, _, _ => .bad
  | .exRow _, _, _ => .bad
  | .pass, ε, S => .nx ε S
def exs (C : Cf) : Sms → Env → Sto → SR
  | .nil, ε, S => .nx ε S
  | .cons s r, ε, S => (ex C s ε S).then_ fun ε' S' => exs C r ε' S'
end

/-- a def: its parameters' count, its slots' count, its body -/
structure FD where
  np : Nat
  nl : Nat
  body : Sms
def runF (bodyOf : Fn → FD) (C : Cf) (f : Fn) (args : List D) (S : Sto) : Res D :=
  if args.length = (bodyOf f).np then
    match exs C (bodyOf f).body ⟨args.map some ++ List.replicate ((bodyOf f).nl - (bodyOf f).np) none, none⟩ S with
    | .nx _ S' => .ok .non S'
    | .rt d S' => .ok d S'
    | .ex x _ S' => .ex x S'
    | .bad => .bad
  else .bad
def levF (bodyOf : Fn → FD) (hot : Bool) : Nat → (Fn → List D → Sto → Res D) × (Fn → List D → Sto → Res D)
  | 0 => (fun _ _ _ => .bad, fun _ _ _ => .bad)
  | 1 => (fun _ _ _ => .bad, fun _ _ _ => .bad)
  | k + 2 => (runF bodyOf ⟨hot, (levF bodyOf hot (k + 1)).1, (levF bodyOf hot (k + 1)).2⟩, (levF bodyOf hot (k + 1)).1)
theorem levF_snd (bodyOf : Fn → FD) (hot : Bool) : ∀ k, (levF bodyOf hot (k + 1)).2 = (levF bodyOf hot k).1
  | 0 => rfl
  | _ + 1 => rfl
end Mi
end

section
set_option linter.all false
set_option maxRecDepth 100000
namespace Mi
def b_need_cell : Sms := (.cons (.iff (.or (.cmp .ne (.b1 .len (.v 0)) (.int 2)) (.or (.cmp .notin (.ix (.v 0) (.int 0)) (.g .columns)) (.cmp .notin (.ix (.v 0) (.int 1)) (.g .rows)))) (.cons (.rse false .cell) .nil) .nil) .nil)
def b_place_of : Sms := (.cons (.ex (.call .need_cell (.cons (.v 0) .nil))) (.cons (.ret (.tup (.cons (.m1 .find (.g .columns) (.ix (.v 0) (.int 0))) (.cons (.m1 .find (.g .rows) (.ix (.v 0) (.int 1))) .nil)))) .nil))
def b_cell_at : Sms := (.cons (.ret (.bin .add (.ix (.g .columns) (.v 0)) (.ix (.g .rows) (.v 1)))) .nil)
def b_stretch : Sms := (.cons (.set 2 (.call .place_of (.cons (.v 0) .nil))) (.cons (.set 3 (.call .place_of (.cons (.v 1) .nil))) (.cons (.set 4 (.lst .nil)) (.cons (.for_ (.one 5) (.rng2 (.b2 .min (.ix (.v 2) (.int 1)) (.ix (.v 3) (.int 1))) (.bin .add (.b2 .max (.ix (.v 2) (.int 1)) (.ix (.v 3) (.int 1))) (.int 1))) (.cons (.for_ (.one 6) (.rng2 (.b2 .min (.ix (.v 2) (.int 0)) (.ix (.v 3) (.int 0))) (.bin .add (.b2 .max (.ix (.v 2) (.int 0)) (.ix (.v 3) (.int 0))) (.int 1))) (.cons (.ex (.m1 .append (.v 4) (.call .cell_at (.cons (.v 6) (.cons (.v 5) .nil))))) .nil)) .nil)) (.cons (.ret (.v 4)) .nil)))))
def b_shifted : Sms := (.cons (.unp [2, 3] (.call .place_of (.cons (.v 0) .nil))) (.cons (.iff (.not (.chn .le .lt (.int 0) (.bin .add (.v 3) (.v 1)) (.b1 .len (.g .rows)))) (.cons (.ret (.str [])) .nil) .nil) (.cons (.ret (.call .cell_at (.cons (.v 2) (.cons (.bin .add (.v 3) (.v 1)) .nil)))) .nil)))
def b_l_begun : Sms := (.cons (.set 1 (.int 0)) (.cons (.for_ (.one 2) (.seq (.v 0)) (.cons (.set 1 (.bin .mod (.bin .add (.bin .add (.bin .mul (.v 1) (.int 48271)) (.bin .mul (.v 2) (.int 69621))) (.int 11)) (.int 2147483647))) .nil)) (.cons (.ret (.lst (.cons (.b1 .lst (.v 0)) (.cons (.bin .mul (.v 1) (.b1 .int (.cmp .gt (.b1 .len (.v 0)) (.int 2)))) .nil)))) .nil)))
def b_l_take : Sms := (.cons (.iff (.cmp .eq (.ix (.v 0) (.int 0)) (.lst .nil)) (.cons (.seti (.v 0) (.int 1) (.bin .mod (.bin .mul (.ix (.v 0) (.int 1)) (.int 48271)) (.int 2147483647))) (.cons (.ret (.bin .mod (.bin .fdiv (.ix (.v 0) (.int 1)) (.int 7)) (.v 1))) .nil)) .nil) (.cons (.set 2 (.ix (.ix (.v 0) (.int 0)) (.int 0))) (.cons (.seti (.ix (.v 0) (.int 0)) (.int 0) (.bin .fdiv (.v 2) (.v 1))) (.cons (.iff (.or (.cmp .eq (.ix (.ix (.v 0) (.int 0)) (.int 0)) (.int 0)) (.cmp .eq (.ix (.ix (.v 0) (.int 0)) (.int 0)) (.neg (.int 1)))) (.cons (.ex (.m1 .lpop (.ix (.v 0) (.int 0)) (.int 0))) .nil) .nil) (.cons (.ret (.bin .mod (.v 2) (.v 1))) .nil)))))
def b_l_alike : Sms := (.cons (.iff (.cmp .isN (.v 1) .non) (.cons (.ret (.cmp .isN (.v 0) .non)) .nil) .nil) (.cons (.iff (.b1 (.isi .bool) (.v 1)) (.cons (.ret (.and (.b1 (.isi .bool) (.v 0)) (.cmp .eq (.v 0) (.v 1)))) .nil) .nil) (.cons (.iff (.b1 (.isi .int) (.v 1)) (.cons (.ret (.and (.b1 (.isi .int) (.v 0)) (.and (.not (.b1 (.isi .bool) (.v 0))) (.cmp .eq (.v 0) (.v 1))))) .nil) .nil) (.cons (.iff (.b1 (.isi .str) (.v 1)) (.cons (.ret (.and (.b1 (.isi .str) (.v 0)) (.cmp .eq (.v 0) (.v 1)))) .nil) .nil) (.cons (.iff (.or (.cmp .ne (.b1 (.isi .tup) (.v 1)) (.b1 (.isi .tup) (.v 0))) (.cmp .ne (.b1 (.isi .lst) (.v 1)) (.b1 (.isi .lst) (.v 0)))) (.cons (.ret (.bl false)) .nil) .nil) (.cons (.iff (.cmp .ne (.b1 .len (.v 0)) (.b1 .len (.v 1))) (.cons (.ret (.bl false)) .nil) .nil) (.cons (.for_ (.one 2) (.rng1 (.b1 .len (.v 1))) (.cons (.iff (.not (.call .l_alike (.cons (.ix (.v 0) (.v 2)) (.cons (.ix (.v 1) (.v 2)) .nil)))) (.cons (.ret (.bl false)) .nil) .nil) .nil)) (.cons (.ret (.bl true)) .nil))))))))
def b_l_cell : Sms := (.cons (.iff (.cmp .eq (.call .l_take (.cons (.v 0) (.cons (.int 4) .nil))) (.int 1)) (.cons (.ret (.bin .add (.ix (.str [97, 98, 99, 100, 101, 102]) (.call .l_take (.cons (.v 0) (.cons (.int 6) .nil)))) (.ix (.str [49, 50, 51, 52, 53, 54, 55, 56, 57]) (.call .l_take (.cons (.v 0) (.cons (.int 9) .nil)))))) .nil) .nil) (.cons (.ret (.bin .add (.ix (.str [97, 98, 99]) (.call .l_take (.cons (.v 0) (.cons (.int 3) .nil)))) (.ix (.str [49, 50, 51]) (.call .l_take (.cons (.v 0) (.cons (.int 3) .nil)))))) .nil))
def b_l_stretch : Sms := (.cons (.set 2 (.b1 .sorted (.lst (.cons (.m1 .find (.str [97, 98, 99, 100, 101, 102]) (.ix (.v 0) (.int 0))) (.cons (.m1 .find (.str [97, 98, 99, 100, 101, 102]) (.ix (.v 1) (.int 0))) .nil))))) (.cons (.set 3 (.b1 .sorted (.lst (.cons (.b1 .int (.ix (.v 0) (.int 1))) (.cons (.b1 .int (.ix (.v 1) (.int 1))) .nil))))) (.cons (.set 4 (.lst .nil)) (.cons (.for_ (.one 5) (.rng2 (.ix (.v 3) (.int 0)) (.bin .add (.ix (.v 3) (.int 1)) (.int 1))) (.cons (.set 4 (.bin .add (.v 4) (.lc 6 (.rng2 (.ix (.v 2) (.int 0)) (.bin .add (.ix (.v 2) (.int 1)) (.int 1))) .nil (.bin .add (.ix (.str [97, 98, 99, 100, 101, 102]) (.v 6)) (.b1 .str (.v 5)))))) .nil)) (.cons (.ret (.v 4)) .nil)))))
def b_l_down : Sms := (.cons (.set 2 (.bin .add (.b1 .int (.ix (.v 0) (.int 1))) (.v 1))) (.cons (.ret (.ife (.chn .lt .lt (.int 0) (.v 2) (.int 10)) (.bin .add (.ix (.v 0) (.int 0)) (.b1 .str (.v 2))) (.str []))) .nil))
def b_number_of : Sms := (.cons (.set 1 (.ife (.cmp .eq (.sl (.v 0) .nil (.cons (.int 1) .nil)) (.str [45])) (.sl (.v 0) (.cons (.int 1) .nil) .nil) (.v 0))) (.cons (.iff (.or (.not (.chn .le .le (.int 1) (.b1 .len (.v 1)) (.g .mostFigures))) (.and (.cmp .eq (.ix (.v 1) (.int 0)) (.str [48])) (.cmp .ne (.v 0) (.str [48])))) (.cons (.ret .non) .nil) .nil) (.cons (.for_ (.one 2) (.seq (.v 1)) (.cons (.iff (.cmp .notin (.v 2) (.g .figures)) (.cons (.ret .non) .nil) .nil) .nil)) (.cons (.ret (.b1 .int (.v 0))) .nil))))
def b_rd_init : Sms := (.cons (.setf (.v 0) .reader .words (.v 1)) (.cons (.setf (.v 0) .reader .at_ (.int 0)) .nil))
def b_rd_word : Sms := (.cons (.iff (.cmp .eq (.fld (.v 0) .reader .at_) (.b1 .len (.fld (.v 0) .reader .words))) (.cons (.rse false .form) .nil) .nil) (.cons (.setf (.v 0) .reader .at_ (.bin .add (.fld (.v 0) .reader .at_) (.int 1))) (.cons (.ret (.ix (.fld (.v 0) .reader .words) (.bin .sub (.fld (.v 0) .reader .at_) (.int 1)))) .nil)))
def b_rd_cell : Sms := (.cons (.set 1 (.meth .rd_word (.v 0) .nil)) (.cons (.tryX (.cons (.ex (.call .need_cell (.cons (.v 1) .nil))) .nil) .cell (.cons (.rse false .form) .nil)) (.cons (.ret (.v 1)) .nil)))
def b_rd_part : Sms := (.cons (.iff (.cmp .gt (.v 1) (.g .mostDeep)) (.cons (.rse false .form) .nil) .nil) (.cons (.set 2 (.meth .rd_word (.v 0) .nil)) (.cons (.iff (.inParts (.v 2)) (.cons (.ret (.bin .add (.tup (.cons (.v 2) .nil)) (.b1 .tup (.lc 3 (.rng1 (.parts (.v 2))) .nil (.meth .rd_part (.v 0) (.cons (.bin .add (.v 1) (.int 1)) .nil)))))) .nil) .nil) (.cons (.iff (.cmp .eq (.v 2) (.str [115, 117, 109])) (.cons (.set 4 (.meth .rd_cell (.v 0) .nil)) (.cons (.ret (.tup (.cons (.str [115, 117, 109]) (.cons (.v 4) (.cons (.meth .rd_cell (.v 0) .nil) .nil))))) .nil)) .nil) (.cons (.set 5 (.call .number_of (.cons (.v 2) .nil))) (.cons (.iff (.cmp .notN (.v 5) .non) (.cons (.ret (.tup (.cons (.str [110, 117, 109]) (.cons (.v 5) .nil)))) .nil) .nil) (.cons (.setf (.v 0) .reader .at_ (.bin .sub (.fld (.v 0) .reader .at_) (.int 1))) (.cons (.ret (.tup (.cons (.str [99, 101, 108, 108]) (.cons (.meth .rd_cell (.v 0) .nil) .nil)))) .nil))))))))
def b_read : Sms := (.cons (.iff (.cmp .eq (.v 0) (.str [])) (.cons (.ret .non) .nil) .nil) (.cons (.iff (.cmp .ne (.ix (.v 0) (.int 0)) (.str [61])) (.cons (.set 1 (.call .number_of (.cons (.v 0) .nil))) (.cons (.iff (.cmp .isN (.v 1) .non) (.cons (.rse false .form) .nil) .nil) (.cons (.ret (.tup (.cons (.str [110, 117, 109]) (.cons (.v 1) .nil)))) .nil))) .nil) (.cons (.set 2 (.m1 .split (.v 0) (.str [32]))) (.cons (.set 3 (.mk .reader (.cons (.sl (.v 2) (.cons (.int 1) .nil) .nil) .nil))) (.cons (.set 4 (.meth .rd_part (.v 3) (.cons (.int 1) .nil))) (.cons (.iff (.or (.cmp .ne (.ix (.v 2) (.int 0)) (.str [61])) (.or (.cmp .ne (.fld (.v 3) .reader .at_) (.bin .sub (.b1 .len (.v 2)) (.int 1))) (.cmp .eq (.ix (.v 4) (.int 0)) (.str [110, 117, 109])))) (.cons (.rse false .form) .nil) .nil) (.cons (.ret (.v 4)) .nil)))))))
def b_part_text : Sms := (.cons (.set 1 (.lst .nil)) (.cons (.for_ (.one 2) (.seq (.v 0)) (.cons (.iff (.b1 (.isi .tup) (.v 2)) (.cons (.ex (.m1 .append (.v 1) (.call .part_text (.cons (.v 2) .nil)))) .nil) (.cons (.iff (.cmp .notin (.v 2) (.tup (.cons (.str [110, 117, 109]) (.cons (.str [99, 101, 108, 108]) .nil)))) (.cons (.ex (.m1 .append (.v 1) (.b1 .str (.v 2)))) .nil) .nil) .nil)) .nil)) (.cons (.ret (.m1 .join (.str [32]) (.v 1))) .nil)))
def b_text_of : Sms := (.cons (.iff (.cmp .isN (.v 0) .non) (.cons (.ret (.str [])) .nil) .nil) (.cons (.iff (.cmp .eq (.ix (.v 0) (.int 0)) (.str [110, 117, 109])) (.cons (.ret (.b1 .str (.ix (.v 0) (.int 1)))) .nil) .nil) (.cons (.ret (.bin .add (.str [61, 32]) (.call .part_text (.cons (.v 0) .nil)))) .nil)))
def b_read_cells : Sms := (.cons (.iff (.or (.cmp .isN (.v 0) .non) (.cmp .eq (.ix (.v 0) (.int 0)) (.str [110, 117, 109]))) (.cons (.ret (.lst .nil)) .nil) .nil) (.cons (.iff (.cmp .eq (.ix (.v 0) (.int 0)) (.str [99, 101, 108, 108])) (.cons (.ret (.lst (.cons (.ix (.v 0) (.int 1)) .nil))) .nil) .nil) (.cons (.iff (.cmp .eq (.ix (.v 0) (.int 0)) (.str [115, 117, 109])) (.cons (.ret (.call .stretch (.cons (.ix (.v 0) (.int 1)) (.cons (.ix (.v 0) (.int 2)) .nil)))) .nil) .nil) (.cons (.set 1 (.lst .nil)) (.cons (.for_ (.one 2) (.seq (.sl (.v 0) (.cons (.int 1) .nil) .nil)) (.cons (.ex (.m1 .extend (.v 1) (.lc 3 (.seq (.call .read_cells (.cons (.v 2) .nil))) (.cons (.cmp .notin (.v 3) (.v 1)) .nil) (.v 3)))) .nil)) (.cons (.ret (.v 1)) .nil))))))
def b_l_part : Sms := (.cons (.set 2 (.call .l_take (.cons (.v 0) (.cons (.int 9) .nil)))) (.cons (.iff (.or (.cmp .eq (.v 1) (.int 0)) (.cmp .lt (.v 2) (.int 3))) (.cons (.iff (.cmp .eq (.v 2) (.int 1)) (.cons (.ret (.tup (.cons (.str [110, 117, 109]) (.cons (.ix (.lst (.cons (.bin .sub (.call .l_take (.cons (.v 0) (.cons (.int 9) .nil))) (.int 3)) (.cons (.bin .sub (.call .l_take (.cons (.v 0) (.cons (.int 1999999) .nil))) (.int 999999)) .nil))) (.call .l_take (.cons (.v 0) (.cons (.int 2) .nil)))) .nil)))) .nil) .nil) (.cons (.ret (.tup (.cons (.str [99, 101, 108, 108]) (.cons (.call .l_cell (.cons (.v 0) .nil)) .nil)))) .nil)) .nil) (.cons (.iff (.cmp .eq (.v 2) (.int 3)) (.cons (.set 3 (.call .l_cell (.cons (.v 0) .nil))) (.cons (.ret (.tup (.cons (.str [115, 117, 109]) (.cons (.v 3) (.cons (.call .l_cell (.cons (.v 0) .nil)) .nil))))) .nil)) .nil) (.cons (.set 3 (.call .l_part (.cons (.v 0) (.cons (.bin .sub (.v 1) (.int 1)) .nil)))) (.cons (.set 4 (.call .l_part (.cons (.v 0) (.cons (.bin .sub (.v 1) (.int 1)) .nil)))) (.cons (.iff (.cmp .eq (.v 2) (.int 4)) (.cons (.set 5 (.call .l_part (.cons (.v 0) (.cons (.bin .sub (.v 1) (.int 1)) .nil)))) (.cons (.ret (.tup (.cons (.str [112, 105, 99, 107]) (.cons (.v 3) (.cons (.v 4) (.cons (.v 5) (.cons (.call .l_part (.cons (.v 0) (.cons (.bin .sub (.v 1) (.int 1)) .nil))) .nil))))))) .nil)) .nil) (.cons (.ret (.tup (.cons (.ix (.lst (.cons (.str [97, 100, 100]) (.cons (.str [115, 117, 98]) (.cons (.str [109, 117, 108]) (.cons (.str [97, 100, 100]) .nil))))) (.bin .sub (.v 2) (.int 5))) (.cons (.v 3) (.cons (.v 4) .nil))))) .nil)))))))
def b_l_content : Sms := (.cons (.set 2 (.call .l_take (.cons (.v 0) (.cons (.int 5) .nil)))) (.cons (.iff (.cmp .eq (.v 2) (.int 0)) (.cons (.ret .non) .nil) .nil) (.cons (.iff (.cmp .eq (.v 2) (.int 1)) (.cons (.ret (.tup (.cons (.str [110, 117, 109]) (.cons (.ix (.lst (.cons (.bin .sub (.call .l_take (.cons (.v 0) (.cons (.int 9) .nil))) (.int 3)) (.cons (.bin .sub (.call .l_take (.cons (.v 0) (.cons (.int 1999999) .nil))) (.int 999999)) .nil))) (.call .l_take (.cons (.v 0) (.cons (.int 2) .nil)))) .nil)))) .nil) .nil) (.cons (.set 3 (.call .l_part (.cons (.v 0) (.cons (.v 1) .nil)))) (.cons (.ret (.ife (.cmp .eq (.ix (.v 3) (.int 0)) (.str [110, 117, 109])) (.tup (.cons (.str [99, 101, 108, 108]) (.cons (.str [97, 49]) .nil))) (.v 3))) .nil)))))
def b_l_part_text : Sms := (.cons (.iff (.cmp .inn (.ix (.v 0) (.int 0)) (.tup (.cons (.str [110, 117, 109]) (.cons (.str [99, 101, 108, 108]) .nil)))) (.cons (.ret (.b1 .str (.ix (.v 0) (.int 1)))) .nil) .nil) (.cons (.iff (.cmp .eq (.ix (.v 0) (.int 0)) (.str [115, 117, 109])) (.cons (.ret (.bin .add (.bin .add (.bin .add (.str [115, 117, 109, 32]) (.ix (.v 0) (.int 1))) (.str [32])) (.ix (.v 0) (.int 2)))) .nil) .nil) (.cons (.ret (.bin .add (.bin .add (.ix (.v 0) (.int 0)) (.str [32])) (.m1 .join (.str [32]) (.lc 1 (.seq (.sl (.v 0) (.cons (.int 1) .nil) .nil)) .nil (.call .l_part_text (.cons (.v 1) .nil)))))) .nil)))
def b_l_text : Sms := (.cons (.iff (.cmp .isN (.v 0) .non) (.cons (.ret (.str [])) .nil) .nil) (.cons (.ret (.ife (.cmp .eq (.ix (.v 0) (.int 0)) (.str [110, 117, 109])) (.call .l_part_text (.cons (.v 0) .nil)) (.bin .add (.str [61, 32]) (.call .l_part_text (.cons (.v 0) .nil))))) .nil))
def b_l_reads : Sms := (.cons (.iff (.or (.cmp .isN (.v 0) .non) (.cmp .eq (.ix (.v 0) (.int 0)) (.str [110, 117, 109]))) (.cons (.ret (.lst .nil)) .nil) .nil) (.cons (.iff (.cmp .eq (.ix (.v 0) (.int 0)) (.str [99, 101, 108, 108])) (.cons (.ret (.lst (.cons (.ix (.v 0) (.int 1)) .nil))) .nil) .nil) (.cons (.iff (.cmp .eq (.ix (.v 0) (.int 0)) (.str [115, 117, 109])) (.cons (.ret (.call .l_stretch (.cons (.ix (.v 0) (.int 1)) (.cons (.ix (.v 0) (.int 2)) .nil)))) .nil) .nil) (.cons (.set 1 (.lst .nil)) (.cons (.for_ (.one 2) (.seq (.sl (.v 0) (.cons (.int 1) .nil) .nil)) (.cons (.for_ (.one 3) (.seq (.call .l_reads (.cons (.v 2) .nil))) (.cons (.iff (.cmp .notin (.v 3) (.v 1)) (.cons (.ex (.m1 .append (.v 1) (.v 3))) .nil) .nil) .nil)) .nil)) (.cons (.ret (.v 1)) .nil))))))
def b_law_k02 : Sms := (.cons (.set 1 (.call .l_begun (.cons (.v 0) .nil))) (.cons (.set 2 (.call .l_content (.cons (.v 1) (.cons (.ix (.lst (.cons (.int 2) (.cons (.int 4) .nil))) (.call .l_take (.cons (.v 1) (.cons (.int 2) .nil)))) .nil)))) (.cons (.set 3 (.call .l_content (.cons (.v 1) (.cons (.int 2) .nil)))) (.cons (.for_ (.one 4) (.seq (.lst (.cons (.v 2) (.cons (.v 3) (.cons (.v 2) .nil))))) (.cons (.set 5 (.call .l_text (.cons (.v 4) .nil))) (.cons (.iff (.not (.call .l_alike (.cons (.call .text_of (.cons (.v 4) .nil)) (.cons (.v 5) .nil)))) (.cons (.ret (.bl false)) .nil) .nil) (.cons (.set 6 (.call .read (.cons (.v 5) .nil))) (.cons (.iff (.or (.cmp .ne (.cmp .isN (.v 4) .non) (.cmp .isN (.v 6) .non)) (.and (.cmp .notN (.v 4) .non) (.not (.call .l_alike (.cons (.v 6) (.cons (.v 4) .nil)))))) (.cons (.ret (.bl false)) .nil) .nil) (.cons (.set 7 (.call .read_cells (.cons (.v 4) .nil))) (.cons (.iff (.not (.call .l_alike (.cons (.v 7) (.cons (.call .l_reads (.cons (.v 4) .nil)) .nil)))) (.cons (.ret (.bl false)) .nil) .nil) (.cons (.ex (.m0 .lclear (.v 7))) .nil)))))))) (.cons (.ret (.call .l_alike (.cons (.call .read_cells (.cons (.v 2) .nil)) (.cons (.call .l_reads (.cons (.v 2) .nil)) .nil)))) .nil)))))
def b_l_deep : Sms := (.cons (.iff (.cmp .eq (.v 1) (.int 0)) (.cons (.ret (.tup (.cons (.str [99, 101, 108, 108]) (.cons (.str [97, 49]) .nil)))) .nil) .nil) (.cons (.set 2 (.call .l_deep (.cons (.v 0) (.cons (.bin .sub (.v 1) (.int 1)) .nil)))) (.cons (.set 3 (.tup (.cons (.str [110, 117, 109]) (.cons (.call .l_take (.cons (.v 0) (.cons (.int 9) .nil))) .nil)))) (.cons (.ret (.ix (.lst (.cons (.tup (.cons (.str [97, 100, 100]) (.cons (.v 2) (.cons (.v 3) .nil)))) (.cons (.tup (.cons (.str [109, 117, 108]) (.cons (.v 3) (.cons (.v 2) .nil)))) (.cons (.tup (.cons (.str [112, 105, 99, 107]) (.cons (.v 3) (.cons (.v 2) (.cons (.v 3) (.cons (.v 3) .nil)))))) .nil)))) (.call .l_take (.cons (.v 0) (.cons (.int 3) .nil))))) .nil))))
def b_l_text_of_k03 : Sms := (.cons (.iff (.cmp .eq (.call .l_take (.cons (.v 0) (.cons (.int 8) .nil))) (.int 1)) (.cons (.ret (.call .l_text (.cons (.call .l_deep (.cons (.v 0) (.cons (.bin .add (.int 4) (.call .l_take (.cons (.v 0) (.cons (.int 3) .nil)))) .nil))) .nil))) .nil) .nil) (.cons (.iff (.cmp .eq (.call .l_take (.cons (.v 0) (.cons (.int 6) .nil))) (.int 1)) (.cons (.set 1 (.lst (.cons (.str [97, 100, 100]) (.cons (.str [115, 117, 98]) (.cons (.str [109, 117, 108]) (.cons (.str [115, 117, 109]) (.cons (.str [112, 105, 99, 107]) (.cons (.str [97, 49]) (.cons (.str [102, 57]) (.cons (.str [51]) (.cons (.str [45, 50]) (.cons (.str [61]) (.cons (.str [48]) (.cons (.str [48, 48, 55]) (.cons (.str [103, 49]) (.cons (.str []) .nil)))))))))))))))) (.cons (.ret (.m1 .join (.str [32]) (.bin .add (.lst (.cons (.str [61]) .nil)) (.lc 2 (.rng1 (.call .l_take (.cons (.v 0) (.cons (.int 8) .nil)))) .nil (.ix (.v 1) (.call .l_take (.cons (.v 0) (.cons (.int 14) .nil)))))))) .nil)) .nil) (.cons (.set 3 (.call .l_text (.cons (.call .l_content (.cons (.v 0) (.cons (.ix (.lst (.cons (.int 2) (.cons (.int 4) .nil))) (.call .l_take (.cons (.v 0) (.cons (.int 2) .nil)))) .nil))) .nil))) (.cons (.iff (.cmp .eq (.call .l_take (.cons (.v 0) (.cons (.int 6) .nil))) (.int 1)) (.cons (.ret (.v 3)) .nil) .nil) (.cons (.for_ (.one 4) (.rng1 (.bin .add (.int 1) (.call .l_take (.cons (.v 0) (.cons (.int 3) .nil))))) (.cons (.set 5 (.call .l_take (.cons (.v 0) (.cons (.bin .add (.b1 .len (.v 3)) (.int 1)) .nil)))) (.cons (.set 6 (.ix (.str [61, 32, 48, 49, 50, 57, 45, 97, 98, 103, 100, 109, 43, 115, 117, 112]) (.call .l_take (.cons (.v 0) (.cons (.int 16) .nil))))) (.cons (.set 7 (.call .l_take (.cons (.v 0) (.cons (.int 3) .nil)))) (.cons (.set 3 (.bin .add (.bin .add (.sl (.v 3) .nil (.cons (.v 5) .nil)) (.ix (.lst (.cons (.str []) (.cons (.v 6) (.cons (.v 6) .nil)))) (.v 7))) (.sl (.v 3) (.cons (.bin .add (.v 5) (.ix (.lst (.cons (.int 1) (.cons (.int 0) (.cons (.int 1) .nil)))) (.v 7))) .nil) .nil))) .nil))))) (.cons (.ret (.v 3)) .nil))))))
def b_l_good_cell : Sms := (.cons (.ret (.and (.b1 (.isi .str) (.v 0)) (.and (.cmp .eq (.b1 .len (.v 0)) (.int 2)) (.and (.cmp .inn (.ix (.v 0) (.int 0)) (.str [97, 98, 99, 100, 101, 102])) (.cmp .inn (.ix (.v 0) (.int 1)) (.str [49, 50, 51, 52, 53, 54, 55, 56, 57])))))) .nil)
def b_l_good : Sms := (.cons (.iff (.or (.not (.b1 (.isi .tup) (.v 0))) (.or (.cmp .eq (.b1 .len (.v 0)) (.int 0)) (.or (.cmp .gt (.v 1) (.int 5)) (.not (.b1 (.isi .str) (.ix (.v 0) (.int 0))))))) (.cons (.ret (.bl false)) .nil) .nil) (.cons (.iff (.cmp .eq (.ix (.v 0) (.int 0)) (.str [110, 117, 109])) (.cons (.set 2 (.and (.cmp .eq (.b1 .len (.v 0)) (.int 2)) (.and (.b1 (.isi .int) (.ix (.v 0) (.int 1))) (.not (.b1 (.isi .bool) (.ix (.v 0) (.int 1))))))) (.cons (.ret (.and (.v 2) (.cmp .lt (.b1 .abs (.ix (.v 0) (.int 1))) (.int 1000000)))) .nil)) .nil) (.cons (.iff (.cmp .inn (.ix (.v 0) (.int 0)) (.tup (.cons (.str [99, 101, 108, 108]) (.cons (.str [115, 117, 109]) .nil)))) (.cons (.ret (.and (.cmp .eq (.b1 .len (.v 0)) (.ix (.lst (.cons (.int 2) (.cons (.int 3) .nil))) (.b1 .int (.cmp .eq (.ix (.v 0) (.int 0)) (.str [115, 117, 109]))))) (.cmp .eq (.lc 3 (.seq (.sl (.v 0) (.cons (.int 1) .nil) .nil)) (.cons (.not (.call .l_good_cell (.cons (.v 3) .nil))) .nil) (.v 3)) (.lst .nil)))) .nil) .nil) (.cons (.set 4 (.m2 .get (.dct (.cons (.str [97, 100, 100]) (.cons (.int 3) (.cons (.str [115, 117, 98]) (.cons (.int 3) (.cons (.str [109, 117, 108]) (.cons (.int 3) (.cons (.str [112, 105, 99, 107]) (.cons (.int 5) .nil))))))))) (.ix (.v 0) (.int 0)) (.int 0))) (.cons (.ret (.and (.cmp .eq (.b1 .len (.v 0)) (.v 4)) (.cmp .eq (.lc 5 (.seq (.sl (.v 0) (.cons (.int 1) .nil) .nil)) (.cons (.not (.call .l_good (.cons (.v 5) (.cons (.bin .add (.v 1) (.int 1)) .nil)))) .nil) (.v 5)) (.lst .nil)))) .nil)))))
def b_law_k03 : Sms := (.cons (.set 1 (.call .l_begun (.cons (.v 0) .nil))) (.cons (.set 2 (.call .l_text_of_k03 (.cons (.v 1) .nil))) (.cons (.try_ (.cons (.set 3 (.call .read (.cons (.v 2) .nil))) .nil) .table (some 4) (.cons (.ret (.and (.isE .form) (.and .isVE (.not (.isE .cell))))) .nil)) (.cons (.iff (.and (.cmp .notN (.v 3) .non) (.not (.call .l_good (.cons (.v 3) (.cons (.int 1) .nil))))) (.cons (.ret (.bl false)) .nil) .nil) (.cons (.ret (.cmp .eq (.call .l_text (.cons (.v 3) .nil)) (.v 2))) .nil)))))
def b_is_odd : Sms := (.cons (.ret (.b1 (.isi .tup) (.v 0))) .nil)
def b_leaning : Sms := (.cons (.set 1 (.dct .nil)) (.cons (.for_ (.one 2) (.dic (.v 0)) (.cons (.setk (.v 1) (.v 2) (.call .read_cells (.cons (.dget (.v 0) (.v 2)) .nil))) .nil)) (.cons (.ret (.v 1)) .nil)))
def b_come_to : Sms := (.cons (.set 2 (.dct .nil)) (.cons (.set 3 (.b1 .lst (.m2 .get (.v 0) (.v 1) (.lst .nil)))) (.cons (.whl (.cmp .ne (.v 3) (.lst .nil)) (.cons (.set 4 (.m0 .pop (.v 3))) (.cons (.iff (.cmp .notin (.v 4) (.v 2)) (.cons (.setk (.v 2) (.v 4) (.bl true)) (.cons (.ex (.m1 .extend (.v 3) (.m2 .get (.v 0) (.v 4) (.lst .nil)))) .nil)) .nil) .nil))) (.cons (.ret (.v 2)) .nil))))
def b_rk_init : Sms := (.cons (.setf (.v 0) .reckoner .contents (.v 1)) (.cons (.setf (.v 0) .reckoner .seen (.b1 .dct (.v 2))) (.cons (.set 3 (.call .leaning (.cons (.v 1) .nil))) (.cons (.setf (.v 0) .reckoner .rings (.lc 4 (.dic (.v 1)) (.cons (.cmp .inn (.v 4) (.call .come_to (.cons (.v 3) (.cons (.v 4) .nil)))) .nil) (.v 4))) .nil))))
def b_rk_value : Sms := (.cons (.iff (.cmp .notin (.v 1) (.fld (.v 0) .reckoner .contents)) (.cons (.ret (.int 0)) .nil) .nil) (.cons (.iff (.cmp .inn (.v 1) (.fld (.v 0) .reckoner .rings)) (.cons (.ret (.g .ring)) .nil) .nil) (.cons (.iff (.cmp .notin (.v 1) (.fld (.v 0) .reckoner .seen)) (.cons (.setk (.fld (.v 0) .reckoner .seen) (.v 1) (.meth .rk_worth (.v 0) (.cons (.dget (.fld (.v 0) .reckoner .contents) (.v 1)) .nil))) .nil) .nil) (.cons (.ret (.dget (.fld (.v 0) .reckoner .seen) (.v 1))) .nil))))
def b_rk_worth : Sms := (.cons (.iff (.cmp .eq (.ix (.v 1) (.int 0)) (.str [110, 117, 109])) (.cons (.ret (.ix (.v 1) (.int 1))) .nil) .nil) (.cons (.iff (.cmp .eq (.ix (.v 1) (.int 0)) (.str [99, 101, 108, 108])) (.cons (.ret (.meth .rk_value (.v 0) (.cons (.ix (.v 1) (.int 1)) .nil))) .nil) .nil) (.cons (.iff (.cmp .eq (.ix (.v 1) (.int 0)) (.str [115, 117, 109])) (.cons (.ret (.meth .rk_added (.v 0) (.cons (.lc 2 (.seq (.call .stretch (.cons (.ix (.v 1) (.int 1)) (.cons (.ix (.v 1) (.int 2)) .nil)))) .nil (.meth .rk_value (.v 0) (.cons (.v 2) .nil))) .nil))) .nil) .nil) (.cons (.iff (.cmp .eq (.ix (.v 1) (.int 0)) (.str [112, 105, 99, 107])) (.cons (.ret (.meth .rk_picked (.v 0) (.cons (.v 1) .nil))) .nil) .nil) (.cons (.ret (.meth .rk_joined (.v 0) (.cons (.ix (.v 1) (.int 0)) (.cons (.meth .rk_worth (.v 0) (.cons (.ix (.v 1) (.int 1)) .nil)) (.cons (.meth .rk_worth (.v 0) (.cons (.ix (.v 1) (.int 2)) .nil)) .nil))))) .nil)))))
def b_rk_added : Sms := (.cons (.set 2 (.int 0)) (.cons (.for_ (.one 3) (.seq (.v 1)) (.cons (.set 2 (.meth .rk_joined (.v 0) (.cons (.str [97, 100, 100]) (.cons (.v 2) (.cons (.v 3) .nil))))) .nil)) (.cons (.ret (.v 2)) .nil)))
def b_rk_joined : Sms := (.cons (.iff (.call .is_odd (.cons (.v 2) .nil)) (.cons (.ret (.v 2)) .nil) .nil) (.cons (.iff (.call .is_odd (.cons (.v 3) .nil)) (.cons (.ret (.v 3)) .nil) .nil) (.cons (.iff (.cmp .eq (.v 1) (.str [97, 100, 100])) (.cons (.set 4 (.bin .add (.v 2) (.v 3))) .nil) (.cons (.iff (.cmp .eq (.v 1) (.str [115, 117, 98])) (.cons (.set 4 (.bin .sub (.v 2) (.v 3))) .nil) (.cons (.set 4 (.bin .mul (.v 2) (.v 3))) .nil)) .nil)) (.cons (.ret (.ife (.cmp .gt (.b1 .abs (.v 4)) (.g .widest)) (.g .wide) (.v 4))) .nil))))
def b_rk_picked : Sms := (.cons (.set 2 (.meth .rk_worth (.v 0) (.cons (.ix (.v 1) (.int 1)) .nil))) (.cons (.set 3 (.meth .rk_worth (.v 0) (.cons (.ix (.v 1) (.int 2)) .nil))) (.cons (.iff (.call .is_odd (.cons (.v 2) .nil)) (.cons (.ret (.v 2)) .nil) .nil) (.cons (.iff (.call .is_odd (.cons (.v 3) .nil)) (.cons (.ret (.v 3)) .nil) .nil) (.cons (.ret (.ife (.cmp .lt (.v 2) (.v 3)) (.meth .rk_worth (.v 0) (.cons (.ix (.v 1) (.int 3)) .nil)) (.meth .rk_worth (.v 0) (.cons (.ix (.v 1) (.int 4)) .nil)))) .nil)))))
def b_rk_every : Sms := (.cons (.set 1 (.dct .nil)) (.cons (.for_ (.one 2) (.seq (.b1 .sorted (.b1 .lst (.fld (.v 0) .reckoner .contents)))) (.cons (.setk (.v 1) (.v 2) (.meth .rk_value (.v 0) (.cons (.v 2) .nil))) .nil)) (.cons (.ret (.v 1)) .nil)))
def b_values : Sms := (.cons (.ret (.meth .rk_every (.mk .reckoner (.cons (.v 0) (.cons (.dct .nil) .nil))) .nil)) .nil)
def b_l_led : Sms := (.cons (.set 2 (.lst .nil)) (.cons (.set 3 (.call .l_reads (.cons (.m1 .get (.v 0) (.v 1)) .nil))) (.cons (.whl (.cmp .ne (.v 3) (.lst .nil)) (.cons (.set 4 (.ix (.v 3) (.int 0))) (.cons (.set 3 (.sl (.v 3) (.cons (.int 1) .nil) .nil)) (.cons (.iff (.cmp .notin (.v 4) (.v 2)) (.cons (.ex (.m1 .append (.v 2) (.v 4))) (.cons (.set 3 (.bin .add (.v 3) (.call .l_reads (.cons (.m1 .get (.v 0) (.v 4)) .nil)))) .nil)) .nil) .nil)))) (.cons (.ret (.v 2)) .nil))))
def b_l_two : Sms := (.cons (.for_ (.one 3) (.seq (.lst (.cons (.v 1) (.cons (.v 2) .nil)))) (.cons (.iff (.b1 (.isi .tup) (.v 3)) (.cons (.ret (.v 3)) .nil) .nil) .nil)) (.cons (.set 4 (.dget (.dct (.cons (.str [97, 100, 100]) (.cons (.bin .add (.v 1) (.v 2)) (.cons (.str [115, 117, 98]) (.cons (.bin .sub (.v 1) (.v 2)) (.cons (.str [109, 117, 108]) (.cons (.bin .mul (.v 1) (.v 2)) .nil))))))) (.v 0))) (.cons (.ret (.ife (.or (.cmp .gt (.v 4) (.int 999999999)) (.cmp .lt (.v 4) (.neg (.int 999999999)))) (.tup (.cons (.str [111, 100, 100]) (.cons (.str [119, 105, 100, 101]) .nil))) (.v 4))) .nil)))
def b_l_value : Sms := (.cons (.iff (.cmp .eq (.ix (.v 1) (.int 0)) (.str [110, 117, 109])) (.cons (.ret (.ix (.v 1) (.int 1))) .nil) .nil) (.cons (.iff (.cmp .eq (.ix (.v 1) (.int 0)) (.str [99, 101, 108, 108])) (.cons (.ret (.call .l_worth (.cons (.v 0) (.cons (.ix (.v 1) (.int 1)) (.cons (.v 2) .nil))))) .nil) .nil) (.cons (.iff (.cmp .eq (.ix (.v 1) (.int 0)) (.str [115, 117, 109])) (.cons (.set 3 (.int 0)) (.cons (.for_ (.one 4) (.seq (.call .l_stretch (.cons (.ix (.v 1) (.int 1)) (.cons (.ix (.v 1) (.int 2)) .nil)))) (.cons (.set 3 (.call .l_two (.cons (.str [97, 100, 100]) (.cons (.v 3) (.cons (.call .l_worth (.cons (.v 0) (.cons (.v 4) (.cons (.v 2) .nil)))) .nil))))) .nil)) (.cons (.ret (.v 3)) .nil))) .nil) (.cons (.set 5 (.call .l_value (.cons (.v 0) (.cons (.ix (.v 1) (.int 1)) (.cons (.v 2) .nil))))) (.cons (.set 6 (.call .l_value (.cons (.v 0) (.cons (.ix (.v 1) (.int 2)) (.cons (.v 2) .nil))))) (.cons (.iff (.cmp .ne (.ix (.v 1) (.int 0)) (.str [112, 105, 99, 107])) (.cons (.ret (.call .l_two (.cons (.ix (.v 1) (.int 0)) (.cons (.v 5) (.cons (.v 6) .nil))))) .nil) .nil) (.cons (.iff (.or (.b1 (.isi .tup) (.v 5)) (.b1 (.isi .tup) (.v 6))) (.cons (.ret (.ife (.b1 (.isi .tup) (.v 5)) (.v 5) (.v 6))) .nil) .nil) (.cons (.ret (.call .l_value (.cons (.v 0) (.cons (.ix (.v 1) (.bin .add (.int 3) (.b1 .int (.cmp .ge (.v 5) (.v 6))))) (.cons (.v 2) .nil))))) .nil))))))))
def b_l_worth : Sms := (.cons (.iff (.cmp .notin (.v 1) (.v 0)) (.cons (.ret (.int 0)) .nil) .nil) (.cons (.iff (.cmp .notin (.v 1) (.v 2)) (.cons (.iff (.cmp .inn (.v 1) (.call .l_led (.cons (.v 0) (.cons (.v 1) .nil)))) (.cons (.setk (.v 2) (.v 1) (.tup (.cons (.str [111, 100, 100]) (.cons (.str [114, 105, 110, 103]) .nil)))) .nil) (.cons (.setk (.v 2) (.v 1) (.call .l_value (.cons (.v 0) (.cons (.dget (.v 0) (.v 1)) (.cons (.v 2) .nil))))) .nil)) .nil) .nil) (.cons (.ret (.dget (.v 2) (.v 1))) .nil)))
def b_l_values : Sms := (.cons (.set 1 (.dct .nil)) (.cons (.set 2 (.dct .nil)) (.cons (.for_ (.one 3) (.dic (.v 0)) (.cons (.setk (.v 2) (.v 3) (.call .l_worth (.cons (.v 0) (.cons (.v 3) (.cons (.v 1) .nil))))) .nil)) (.cons (.ret (.v 2)) .nil))))
def b_l_contents : Sms := (.cons (.set 1 (.dct .nil)) (.cons (.for_ (.one 2) (.rng1 (.ix (.lst (.cons (.call .l_take (.cons (.v 0) (.cons (.int 6) .nil))) (.cons (.call .l_take (.cons (.v 0) (.cons (.int 13) .nil))) .nil))) (.b1 .int (.cmp .eq (.call .l_take (.cons (.v 0) (.cons (.int 4) .nil))) (.int 1))))) (.cons (.set 3 (.call .l_content (.cons (.v 0) (.cons (.int 2) .nil)))) (.cons (.iff (.cmp .notN (.v 3) .non) (.cons (.setk (.v 1) (.call .l_cell (.cons (.v 0) .nil)) (.v 3)) .nil) .nil) .nil))) (.cons (.ret (.v 1)) .nil)))
def b_l_same : Sms := (.cons (.iff (.or (.not (.b1 (.isi .dct) (.v 0))) (.cmp .ne (.b1 .len (.v 0)) (.b1 .len (.v 1)))) (.cons (.ret (.bl false)) .nil) .nil) (.cons (.ret (.cmp .eq (.lc 2 (.dic (.v 1)) (.cons (.or (.cmp .notin (.v 2) (.v 0)) (.not (.call .l_alike (.cons (.dget (.v 0) (.v 2)) (.cons (.dget (.v 1) (.v 2)) .nil))))) .nil) (.v 2)) (.lst .nil))) .nil))
def b_law_k04 : Sms := (.cons (.set 1 (.call .l_begun (.cons (.v 0) .nil))) (.cons (.set 2 (.call .l_contents (.cons (.v 1) .nil))) (.cons (.set 3 (.b1 .dct (.v 2))) (.cons (.set 4 (.call .l_values (.cons (.v 2) .nil))) (.cons (.set 5 (.call .values (.cons (.v 2) .nil))) (.cons (.iff (.or (.not (.call .l_same (.cons (.v 5) (.cons (.v 4) .nil)))) (.cmp .ne (.v 2) (.v 3))) (.cons (.ret (.bl false)) .nil) .nil) (.cons (.ex (.m0 .dclear (.v 5))) (.cons (.ret (.call .l_same (.cons (.call .values (.cons (.v 2) .nil)) (.cons (.v 4) .nil)))) .nil))))))))
def b_touched : Sms := (.cons (.set 2 (.call .leaning (.cons (.v 0) .nil))) (.cons (.set 3 (.lst .nil)) (.cons (.for_ (.one 4) (.seq (.b1 .sorted (.b1 .lst (.v 0)))) (.cons (.iff (.or (.cmp .inn (.v 4) (.v 1)) (.cmp .ne (.lc 5 (.dic (.call .come_to (.cons (.v 2) (.cons (.v 4) .nil)))) (.cons (.cmp .inn (.v 5) (.v 1)) .nil) (.v 5)) (.lst .nil))) (.cons (.ex (.m1 .append (.v 3) (.v 4))) .nil) .nil) .nil)) (.cons (.ret (.v 3)) .nil))))
def b_renewed : Sms := (.cons (.set 3 (.call .touched (.cons (.v 0) (.cons (.v 2) .nil)))) (.cons (.set 4 (.dct .nil)) (.cons (.for_ (.one 5) (.dic (.v 0)) (.cons (.iff (.and (.cmp .notin (.v 5) (.v 3)) (.cmp .inn (.v 5) (.v 1))) (.cons (.setk (.v 4) (.v 5) (.dget (.v 1) (.v 5))) .nil) .nil) .nil)) (.cons (.ret (.meth .rk_every (.mk .reckoner (.cons (.v 0) (.cons (.v 4) .nil))) .nil)) .nil))))
def b_law_k05 : Sms := (.cons (.set 1 (.call .l_begun (.cons (.v 0) .nil))) (.cons (.set 2 (.call .l_contents (.cons (.v 1) .nil))) (.cons (.set 3 (.b1 .dct (.v 2))) (.cons (.set 4 (.lst .nil)) (.cons (.for_ (.one 5) (.rng1 (.call .l_take (.cons (.v 1) (.cons (.int 5) .nil)))) (.cons (.set 6 (.ix (.bin .add (.b1 .sorted (.v 2)) (.lst (.cons (.call .l_cell (.cons (.v 1) .nil)) .nil))) (.call .l_take (.cons (.v 1) (.cons (.bin .add (.b1 .len (.v 2)) (.int 1)) .nil))))) (.cons (.set 7 (.call .l_content (.cons (.v 1) (.cons (.int 2) .nil)))) (.cons (.ex (.m1 .append (.v 4) (.v 6))) (.cons (.ex (.m2 .pop (.v 3) (.v 6) .non)) (.cons (.iff (.cmp .notN (.v 7) .non) (.cons (.setk (.v 3) (.v 6) (.v 7)) .nil) .nil) .nil)))))) (.cons (.set 8 (.lst .nil)) (.cons (.for_ (.one 6) (.seq (.b1 .sorted (.v 3))) (.cons (.iff (.or (.cmp .inn (.v 6) (.v 4)) (.cmp .ne (.lc 9 (.seq (.call .l_led (.cons (.v 3) (.cons (.v 6) .nil)))) (.cons (.cmp .inn (.v 9) (.v 4)) .nil) (.v 9)) (.lst .nil))) (.cons (.ex (.m1 .append (.v 8) (.v 6))) .nil) .nil) .nil)) (.cons (.iff (.not (.call .l_alike (.cons (.call .touched (.cons (.v 3) (.cons (.b1 .lst (.v 4)) .nil))) (.cons (.v 8) .nil)))) (.cons (.ret (.bl false)) .nil) .nil) (.cons (.set 10 (.call .l_values (.cons (.v 2) .nil))) (.cons (.set 11 (.b1 .dct (.v 10))) (.cons (.ex (.m0 .dclear (.call .renewed (.cons (.v 3) (.cons (.v 11) (.cons (.b1 .lst (.v 4)) .nil)))))) (.cons (.iff (.cmp .ne (.v 11) (.v 10)) (.cons (.ret (.bl false)) .nil) .nil) (.cons (.set 12 (.call .renewed (.cons (.v 3) (.cons (.v 11) (.cons (.b1 .lst (.v 4)) .nil))))) (.cons (.set 13 (.call .l_values (.cons (.v 3) .nil))) (.cons (.iff (.or (.not (.b1 (.isi .dct) (.v 12))) (.cmp .ne (.b1 .len (.v 12)) (.b1 .len (.v 13)))) (.cons (.ret (.bl false)) .nil) .nil) (.cons (.ret (.cmp .eq (.lc 6 (.dic (.v 13)) (.cons (.or (.cmp .notin (.v 6) (.v 12)) (.not (.call .l_alike (.cons (.dget (.v 12) (.v 6)) (.cons (.dget (.v 13) (.v 6)) .nil))))) .nil) (.v 6)) (.lst .nil))) .nil))))))))))))))))
def b_moved : Sms := (.cons (.iff (.or (.cmp .isN (.v 0) .non) (.cmp .eq (.ix (.v 0) (.int 0)) (.str [110, 117, 109]))) (.cons (.ret (.v 0)) .nil) .nil) (.cons (.iff (.cmp .inn (.ix (.v 0) (.int 0)) (.tup (.cons (.str [99, 101, 108, 108]) (.cons (.str [115, 117, 109]) .nil)))) (.cons (.set 2 (.lc 3 (.seq (.sl (.v 0) (.cons (.int 1) .nil) .nil)) .nil (.call .shifted (.cons (.v 3) (.cons (.v 1) .nil))))) (.cons (.iff (.cmp .inn (.str []) (.v 2)) (.cons (.rse false .off) .nil) .nil) (.cons (.ret (.bin .add (.tup (.cons (.ix (.v 0) (.int 0)) .nil)) (.b1 .tup (.v 2)))) .nil))) .nil) (.cons (.ret (.bin .add (.tup (.cons (.ix (.v 0) (.int 0)) .nil)) (.b1 .tup (.lc 4 (.seq (.sl (.v 0) (.cons (.int 1) .nil) .nil)) .nil (.call .moved (.cons (.v 4) (.cons (.v 1) .nil))))))) .nil)))
def b_uses : Sms := (.cons (.iff (.cmp .eq (.ix (.v 0) (.int 0)) (.str [115, 101, 116])) (.cons (.ret (.lst (.cons (.ix (.v 0) (.int 1)) .nil))) .nil) .nil) (.cons (.iff (.cmp .eq (.ix (.v 0) (.int 0)) (.str [115, 119, 97, 112])) (.cons (.ret (.lst (.cons (.ix (.v 0) (.int 1)) (.cons (.ix (.v 0) (.int 2)) .nil)))) .nil) .nil) (.cons (.ret (.lc 1 (.rng1 (.bin .add (.ix (.v 0) (.int 2)) (.int 1))) .nil (.call .shifted (.cons (.ix (.v 0) (.int 1)) (.cons (.v 1) .nil))))) .nil)))
def b_made : Sms := (.cons (.iff (.cmp .eq (.ix (.v 1) (.int 0)) (.str [115, 101, 116])) (.cons (.ret (.dct (.cons (.ix (.v 1) (.int 1)) (.cons (.call .read (.cons (.ix (.v 1) (.int 2)) .nil)) .nil)))) .nil) .nil) (.cons (.iff (.cmp .eq (.ix (.v 1) (.int 0)) (.str [115, 119, 97, 112])) (.cons (.ret (.dct (.cons (.ix (.v 1) (.int 1)) (.cons (.m1 .get (.v 0) (.ix (.v 1) (.int 2))) (.cons (.ix (.v 1) (.int 2)) (.cons (.m1 .get (.v 0) (.ix (.v 1) (.int 1))) .nil)))))) .nil) .nil) (.cons (.set 2 (.dct .nil)) (.cons (.for_ (.one 3) (.rng2 (.int 1) (.bin .add (.ix (.v 1) (.int 2)) (.int 1))) (.cons (.setk (.v 2) (.call .shifted (.cons (.ix (.v 1) (.int 1)) (.cons (.v 3) .nil))) (.call .moved (.cons (.m1 .get (.v 0) (.ix (.v 1) (.int 1))) (.cons (.v 3) .nil)))) .nil)) (.cons (.ret (.v 2)) .nil)))))
def b_changes : Sms := (.cons (.set 2 (.call .made (.cons (.v 0) (.cons (.v 1) .nil)))) (.cons (.set 3 (.lst .nil)) (.cons (.for_ (.one 4) (.seq (.b1 .sorted (.b1 .lst (.v 2)))) (.cons (.iff (.cmp .ne (.m1 .get (.v 0) (.v 4)) (.dget (.v 2) (.v 4))) (.cons (.ex (.m1 .append (.v 3) (.tup (.cons (.v 4) (.cons (.m1 .get (.v 0) (.v 4)) (.cons (.dget (.v 2) (.v 4)) .nil)))))) .nil) .nil) .nil)) (.cons (.ret (.v 3)) .nil))))
def b_done : Sms := (.cons (.set 2 (.b1 .dct (.v 0))) (.cons (.for_ (.tup [3, 4, 5]) (.seq (.call .changes (.cons (.v 0) (.cons (.v 1) .nil)))) (.cons (.iff (.cmp .isN (.v 5) .non) (.cons (.ex (.m1 .dpop (.v 2) (.v 3))) .nil) (.cons (.setk (.v 2) (.v 3) (.v 5)) .nil)) .nil)) (.cons (.ret (.v 2)) .nil)))
def b_l_deed : Sms := (.cons (.set 1 (.call .l_take (.cons (.v 0) (.cons (.int 6) .nil)))) (.cons (.set 2 (.call .l_cell (.cons (.v 0) .nil))) (.cons (.iff (.cmp .lt (.v 1) (.int 4)) (.cons (.set 3 (.call .l_content (.cons (.v 0) (.cons (.int 2) .nil)))) (.cons (.ret (.tup (.cons (.tup (.cons (.str [115, 101, 116]) (.cons (.v 2) (.cons (.call .l_text (.cons (.v 3) .nil)) .nil)))) (.cons (.v 3) .nil)))) .nil)) .nil) (.cons (.iff (.cmp .eq (.v 1) (.int 4)) (.cons (.ret (.tup (.cons (.tup (.cons (.str [115, 119, 97, 112]) (.cons (.v 2) (.cons (.call .l_cell (.cons (.v 0) .nil)) .nil)))) (.cons .non .nil)))) .nil) .nil) (.cons (.ret (.tup (.cons (.tup (.cons (.str [102, 105, 108, 108]) (.cons (.v 2) (.cons (.bin .add (.int 1) (.call .l_take (.cons (.v 0) (.cons (.ix (.lst (.cons (.int 3) (.cons (.int 9) .nil))) (.call .l_take (.cons (.v 0) (.cons (.int 2) .nil)))) .nil)))) .nil)))) (.cons .non .nil)))) .nil)))))
def b_l_uses : Sms := (.cons (.iff (.cmp .eq (.ix (.v 0) (.int 0)) (.str [115, 101, 116])) (.cons (.ret (.lst (.cons (.ix (.v 0) (.int 1)) .nil))) .nil) .nil) (.cons (.iff (.cmp .eq (.ix (.v 0) (.int 0)) (.str [115, 119, 97, 112])) (.cons (.ret (.lst (.cons (.ix (.v 0) (.int 1)) (.cons (.ix (.v 0) (.int 2)) .nil)))) .nil) .nil) (.cons (.ret (.lc 1 (.rng1 (.bin .add (.ix (.v 0) (.int 2)) (.int 1))) .nil (.call .l_down (.cons (.ix (.v 0) (.int 1)) (.cons (.v 1) .nil))))) .nil)))
def b_l_moved : Sms := (.cons (.iff (.or (.cmp .isN (.v 0) .non) (.cmp .eq (.ix (.v 0) (.int 0)) (.str [110, 117, 109]))) (.cons (.ret (.v 0)) .nil) .nil) (.cons (.iff (.cmp .inn (.ix (.v 0) (.int 0)) (.tup (.cons (.str [99, 101, 108, 108]) (.cons (.str [115, 117, 109]) .nil)))) (.cons (.set 2 (.lc 3 (.seq (.sl (.v 0) (.cons (.int 1) .nil) .nil)) .nil (.call .l_down (.cons (.v 3) (.cons (.v 1) .nil))))) (.cons (.ret (.ife (.cmp .inn (.str []) (.v 2)) (.str [111, 102, 102]) (.bin .add (.tup (.cons (.ix (.v 0) (.int 0)) .nil)) (.b1 .tup (.v 2))))) .nil)) .nil) (.cons (.set 4 (.lc 5 (.seq (.sl (.v 0) (.cons (.int 1) .nil) .nil)) .nil (.call .l_moved (.cons (.v 5) (.cons (.v 1) .nil))))) (.cons (.ret (.ife (.cmp .inn (.str [111, 102, 102]) (.v 4)) (.str [111, 102, 102]) (.bin .add (.tup (.cons (.ix (.v 0) (.int 0)) .nil)) (.b1 .tup (.v 4))))) .nil))))
def b_l_changes : Sms := (.cons (.set 3 (.dct (.cons (.ix (.v 1) (.int 1)) (.cons (.v 2) .nil)))) (.cons (.iff (.cmp .eq (.ix (.v 1) (.int 0)) (.str [115, 119, 97, 112])) (.cons (.set 3 (.dct (.cons (.ix (.v 1) (.int 1)) (.cons (.m1 .get (.v 0) (.ix (.v 1) (.int 2))) (.cons (.ix (.v 1) (.int 2)) (.cons (.m1 .get (.v 0) (.ix (.v 1) (.int 1))) .nil)))))) .nil) .nil) (.cons (.iff (.cmp .eq (.ix (.v 1) (.int 0)) (.str [102, 105, 108, 108])) (.cons (.iff (.cmp .inn (.str []) (.call .l_uses (.cons (.v 1) .nil))) (.cons (.ret (.str [111, 102, 102])) .nil) .nil) (.cons (.set 3 (.dct .nil)) (.cons (.for_ (.one 4) (.rng2 (.int 1) (.bin .add (.ix (.v 1) (.int 2)) (.int 1))) (.cons (.setk (.v 3) (.call .l_down (.cons (.ix (.v 1) (.int 1)) (.cons (.v 4) .nil))) (.call .l_moved (.cons (.m1 .get (.v 0) (.ix (.v 1) (.int 1))) (.cons (.v 4) .nil)))) (.cons (.iff (.cmp .eq (.dget (.v 3) (.call .l_down (.cons (.ix (.v 1) (.int 1)) (.cons (.v 4) .nil)))) (.str [111, 102, 102])) (.cons (.ret (.str [111, 102, 102])) .nil) .nil) .nil))) .nil))) .nil) (.cons (.ret (.lc 5 (.seq (.b1 .sorted (.v 3))) (.cons (.cmp .ne (.m1 .get (.v 0) (.v 5)) (.dget (.v 3) (.v 5))) .nil) (.tup (.cons (.v 5) (.cons (.m1 .get (.v 0) (.v 5)) (.cons (.dget (.v 3) (.v 5)) .nil)))))) .nil))))
def b_l_with : Sms := (.cons (.set 2 (.b1 .dct (.v 0))) (.cons (.for_ (.tup [3, 4, 5]) (.seq (.v 1)) (.cons (.ex (.m2 .pop (.v 2) (.v 3) .non)) (.cons (.iff (.cmp .notN (.v 5) .non) (.cons (.setk (.v 2) (.v 3) (.v 5)) .nil) .nil) .nil))) (.cons (.ret (.v 2)) .nil)))
def b_need_deed : Sms := (.cons (.ex (.call .need_cell (.cons (.ix (.v 0) (.int 1)) .nil))) (.cons (.iff (.cmp .eq (.ix (.v 0) (.int 0)) (.str [115, 101, 116])) (.cons (.ex (.call .read (.cons (.ix (.v 0) (.int 2)) .nil))) .nil) (.cons (.iff (.cmp .eq (.ix (.v 0) (.int 0)) (.str [115, 119, 97, 112])) (.cons (.ex (.call .need_cell (.cons (.ix (.v 0) (.int 2)) .nil))) .nil) (.cons (.iff (.not (.chn .le .lt (.int 1) (.ix (.v 0) (.int 2)) (.bin .sub (.int 9) (.ix (.call .place_of (.cons (.ix (.v 0) (.int 1)) .nil)) (.int 1))))) (.cons (.rse false .off) .nil) .nil) .nil)) .nil)) .nil))
def b_pt_init : Sms := (.cons (.setf (.v 0) .point .parent (.v 1)) (.cons (.setf (.v 0) .point .hand (.v 2)) (.cons (.setf (.v 0) .point .deed (.v 3)) (.cons (.setf (.v 0) .point .changed (.lst .nil)) (.cons (.setf (.v 0) .point .contents (.v 4)) (.cons (.setf (.v 0) .point .known (.dct .nil)) .nil))))))
def b_tr_init : Sms := (.cons (.iff (.not (.chn .le .le (.int 1) (.v 1) (.g .mostHands))) (.cons (.rse false .hand) .nil) .nil) (.cons (.setf (.v 0) .tree .points (.lst (.cons (.mk .point (.cons (.neg (.int 1)) (.cons (.neg (.int 1)) (.cons (.tup .nil) (.cons (.dct .nil) .nil))))) .nil))) (.cons (.setf (.v 0) .tree .places (.lc 2 (.rng1 (.v 1)) .nil (.int 0))) .nil)))
def b_tr_need_hand : Sms := (.cons (.iff (.not (.chn .le .lt (.int 0) (.v 1) (.b1 .len (.fld (.v 0) .tree .places)))) (.cons (.rse false .hand) .nil) .nil) .nil)
def b_tr_need_point : Sms := (.cons (.iff (.not (.chn .le .lt (.int 0) (.v 1) (.b1 .len (.fld (.v 0) .tree .points)))) (.cons (.rse false .point) .nil) .nil) .nil)
def b_tr_grow : Sms := (.cons (.set 4 (.ix (.fld (.v 0) .tree .points) (.v 1))) (.cons (.set 5 (.call .changes (.cons (.fld (.v 4) .point .contents) (.cons (.v 3) .nil)))) (.cons (.set 6 (.mk .point (.cons (.v 1) (.cons (.v 2) (.cons (.v 3) (.cons (.call .done (.cons (.fld (.v 4) .point .contents) (.cons (.v 3) .nil))) .nil)))))) (.cons (.setf (.v 6) .point .changed (.v 5)) (.cons (.setf (.v 6) .point .known (.call .renewed (.cons (.fld (.v 6) .point .contents) (.cons (.fld (.v 4) .point .known) (.cons (.lc 7 (.seq (.v 5)) .nil (.ix (.v 7) (.int 0))) .nil))))) (.cons (.ex (.m1 .append (.fld (.v 0) .tree .points) (.v 6))) (.cons (.ret (.bin .sub (.b1 .len (.fld (.v 0) .tree .points)) (.int 1))) .nil)))))))
def b_tr_do : Sms := (.cons (.ex (.meth .tr_need_hand (.v 0) (.cons (.v 1) .nil))) (.cons (.ex (.call .need_deed (.cons (.v 2) .nil))) (.cons (.seti (.fld (.v 0) .tree .places) (.v 1) (.meth .tr_grow (.v 0) (.cons (.ix (.fld (.v 0) .tree .places) (.v 1)) (.cons (.v 1) (.cons (.v 2) .nil))))) (.cons (.ret (.ix (.fld (.v 0) .tree .places) (.v 1))) .nil))))
def b_tr_here : Sms := (.cons (.ex (.meth .tr_need_hand (.v 0) (.cons (.v 1) .nil))) (.cons (.ret (.ix (.fld (.v 0) .tree .places) (.v 1))) .nil))
def b_tr_told : Sms := (.cons (.ex (.meth .tr_need_point (.v 0) (.cons (.v 1) .nil))) (.cons (.iff (.cmp .eq (.v 1) (.int 0)) (.cons (.rse false .point) .nil) .nil) (.cons (.set 2 (.ix (.fld (.v 0) .tree .points) (.v 1))) (.cons (.ret (.tup (.cons (.fld (.v 2) .point .parent) (.cons (.fld (.v 2) .point .hand) (.cons (.fld (.v 2) .point .deed) .nil))))) .nil))))
def b_tr_many : Sms := (.cons (.ret (.b1 .len (.fld (.v 0) .tree .points))) .nil)
def b_tr_table : Sms := (.cons (.ex (.meth .tr_need_point (.v 0) (.cons (.v 1) .nil))) (.cons (.ret (.b1 .dct (.fld (.ix (.fld (.v 0) .tree .points) (.v 1)) .point .contents))) .nil))
def b_tr_worths : Sms := (.cons (.ex (.meth .tr_need_point (.v 0) (.cons (.v 1) .nil))) (.cons (.ret (.b1 .dct (.fld (.ix (.fld (.v 0) .tree .points) (.v 1)) .point .known))) .nil))
def b_tr_trail : Sms := (.cons (.ex (.meth .tr_need_point (.v 0) (.cons (.v 1) .nil))) (.cons (.set 2 (.lst (.cons (.v 1) .nil))) (.cons (.whl (.cmp .ne (.ix (.v 2) (.neg (.int 1))) (.int 0)) (.cons (.ex (.m1 .append (.v 2) (.fld (.ix (.fld (.v 0) .tree .points) (.ix (.v 2) (.neg (.int 1)))) .point .parent))) .nil)) (.cons (.ret (.b1 .lrev (.v 2))) .nil))))
def b_tr_fork : Sms := (.cons (.set 3 (.meth .tr_trail (.v 0) (.cons (.v 1) .nil))) (.cons (.set 4 (.meth .tr_trail (.v 0) (.cons (.v 2) .nil))) (.cons (.set 5 (.int 0)) (.cons (.whl (.and (.cmp .lt (.v 5) (.b2 .min (.b1 .len (.v 3)) (.b1 .len (.v 4)))) (.cmp .eq (.ix (.v 3) (.v 5)) (.ix (.v 4) (.v 5)))) (.cons (.set 5 (.bin .add (.v 5) (.int 1))) .nil)) (.cons (.ret (.ix (.v 3) (.bin .sub (.v 5) (.int 1)))) .nil)))))
def b_tr_road : Sms := (.cons (.set 3 (.meth .tr_fork (.v 0) (.cons (.v 1) (.cons (.v 2) .nil)))) (.cons (.set 4 (.meth .tr_trail (.v 0) (.cons (.v 1) .nil))) (.cons (.set 5 (.meth .tr_trail (.v 0) (.cons (.v 2) .nil))) (.cons (.set 6 (.lc 7 (.rev (.sl (.v 4) (.cons (.bin .add (.m1 .index (.v 4) (.v 3)) (.int 1)) .nil) .nil)) .nil (.tup (.cons (.str [98, 97, 99, 107]) (.cons (.v 7) .nil))))) (.cons (.ret (.bin .add (.v 6) (.lc 7 (.seq (.sl (.v 5) (.cons (.bin .add (.m1 .index (.v 5) (.v 3)) (.int 1)) .nil) .nil)) .nil (.tup (.cons (.str [102, 111, 114, 116, 104]) (.cons (.v 7) .nil)))))) .nil)))))
def b_tr_go : Sms := (.cons (.ex (.meth .tr_need_hand (.v 0) (.cons (.v 1) .nil))) (.cons (.set 3 (.meth .tr_road (.v 0) (.cons (.ix (.fld (.v 0) .tree .places) (.v 1)) (.cons (.v 2) .nil)))) (.cons (.seti (.fld (.v 0) .tree .places) (.v 1) (.v 2)) (.cons (.ret (.v 3)) .nil))))
def b_l_done : Sms := (.cons (.try_ (.cons (.ret (.meth .tr_do (.v 0) (.cons (.v 1) (.cons (.v 2) .nil)))) .nil) .off none (.cons (.ret (.neg (.int 1))) .nil)) .nil)
def b_l_is_told : Sms := (.cons (.iff (.cmp .ne (.meth .tr_many (.v 0) .nil) (.b1 .len (.v 1))) (.cons (.ret (.bl false)) .nil) .nil) (.cons (.for_ (.one 2) (.rng1 (.b1 .len (.v 1))) (.cons (.unp [3, 4, 5, 6] (.ix (.v 1) (.v 2))) (.cons (.iff (.and (.cmp .gt (.v 2) (.int 0)) (.not (.call .l_alike (.cons (.meth .tr_told (.v 0) (.cons (.v 2) .nil)) (.cons (.tup (.cons (.v 3) (.cons (.v 4) (.cons (.v 5) .nil)))) .nil))))) (.cons (.ret (.bl false)) .nil) .nil) (.cons (.iff (.or (.cmp .ne (.meth .tr_table (.v 0) (.cons (.v 2) .nil)) (.v 6)) (.cmp .ne (.meth .tr_worths (.v 0) (.cons (.v 2) .nil)) (.call .l_values (.cons (.v 6) .nil)))) (.cons (.ret (.bl false)) .nil) .nil) (.cons (.ex (.m0 .dclear (.meth .tr_table (.v 0) (.cons (.v 2) .nil)))) (.cons (.ex (.m0 .dclear (.meth .tr_worths (.v 0) (.cons (.v 2) .nil)))) .nil)))))) (.cons (.ret (.bl true)) .nil)))
def b_law_k07 : Sms := (.cons (.set 1 (.call .l_begun (.cons (.v 0) .nil))) (.cons (.set 2 (.bin .add (.int 1) (.call .l_take (.cons (.v 1) (.cons (.int 4) .nil))))) (.cons (.set 3 (.mk .tree (.cons (.v 2) .nil))) (.cons (.set 4 (.lst (.cons (.tup (.cons (.neg (.int 1)) (.cons (.neg (.int 1)) (.cons .non (.cons (.dct .nil) .nil))))) .nil))) (.cons (.set 5 (.bin .mul (.lst (.cons (.int 0) .nil)) (.v 2))) (.cons (.for_ (.one 6) (.rng1 (.ix (.lst (.cons (.call .l_take (.cons (.v 1) (.cons (.int 13) .nil))) (.cons (.call .l_take (.cons (.v 1) (.cons (.int 31) .nil))) .nil))) (.b1 .int (.cmp .eq (.call .l_take (.cons (.v 1) (.cons (.int 8) .nil))) (.int 1))))) (.cons (.set 7 (.call .l_take (.cons (.v 1) (.cons (.v 2) .nil)))) (.cons (.iff (.cmp .eq (.call .l_take (.cons (.v 1) (.cons (.int 4) .nil))) (.int 1)) (.cons (.seti (.v 5) (.v 7) (.call .l_take (.cons (.v 1) (.cons (.b1 .len (.v 4)) .nil)))) (.cons (.ex (.meth .tr_go (.v 3) (.cons (.v 7) (.cons (.ix (.v 5) (.v 7)) .nil)))) .nil)) .nil) (.cons (.unp [8, 9] (.call .l_deed (.cons (.v 1) .nil))) (.cons (.set 10 (.call .l_changes (.cons (.ix (.ix (.v 4) (.ix (.v 5) (.v 7))) (.int 3)) (.cons (.v 8) (.cons (.v 9) .nil))))) (.cons (.set 11 (.ife (.cmp .eq (.v 10) (.str [111, 102, 102])) (.neg (.int 1)) (.b1 .len (.v 4)))) (.cons (.iff (.not (.call .l_alike (.cons (.call .l_done (.cons (.v 3) (.cons (.v 7) (.cons (.v 8) .nil)))) (.cons (.v 11) .nil)))) (.cons (.ret (.bl false)) .nil) .nil) (.cons (.iff (.cmp .ne (.v 10) (.str [111, 102, 102])) (.cons (.ex (.m1 .append (.v 4) (.tup (.cons (.ix (.v 5) (.v 7)) (.cons (.v 7) (.cons (.v 8) (.cons (.call .l_with (.cons (.ix (.ix (.v 4) (.ix (.v 5) (.v 7))) (.int 3)) (.cons (.v 10) .nil))) .nil))))))) (.cons (.seti (.v 5) (.v 7) (.v 11)) .nil)) .nil) (.cons (.iff (.cmp .ne (.lc 12 (.rng1 (.v 2)) .nil (.meth .tr_here (.v 3) (.cons (.v 12) .nil))) (.v 5)) (.cons (.ret (.bl false)) .nil) .nil) .nil))))))))) (.cons (.ret (.and (.call .l_is_told (.cons (.v 3) (.cons (.v 4) .nil))) (.call .l_is_told (.cons (.v 3) (.cons (.v 4) .nil))))) .nil)))))))
def b_tr_stepped : Sms := (.cons (.set 3 (.b1 .dct (.v 1))) (.cons (.for_ (.tup [4, 5, 6]) (.seq (.fld (.ix (.fld (.v 0) .tree .points) (.ix (.v 2) (.int 1))) .point .changed)) (.cons (.set 7 (.ife (.cmp .eq (.ix (.v 2) (.int 0)) (.str [98, 97, 99, 107])) (.v 5) (.v 6))) (.cons (.iff (.cmp .isN (.v 7) .non) (.cons (.ex (.m1 .dpop (.v 3) (.v 4))) .nil) (.cons (.setk (.v 3) (.v 4) (.v 7)) .nil)) .nil))) (.cons (.ret (.v 3)) .nil)))
def b_last_change : Sms := (.cons (.for_ (.one 3) (.rev (.v 1)) (.cons (.iff (.cmp .inn (.v 2) (.lc 4 (.seq (.fld (.ix (.fld (.v 0) .tree .points) (.v 3)) .point .changed)) .nil (.ix (.v 4) (.int 0)))) (.cons (.ret (.v 3)) .nil) .nil) .nil)) (.cons (.ret (.int 0)) .nil))
def b_leans : Sms := (.cons (.set 2 (.meth .tr_trail (.v 0) (.cons (.ix (.meth .tr_told (.v 0) (.cons (.v 1) .nil)) (.int 0)) .nil))) (.cons (.set 3 (.lc 4 (.seq (.call .uses (.cons (.ix (.meth .tr_told (.v 0) (.cons (.v 1) .nil)) (.int 2)) .nil))) .nil (.call .last_change (.cons (.v 0) (.cons (.v 2) (.cons (.v 4) .nil)))))) (.cons (.ret (.b1 .sortset (.lc 5 (.seq (.v 3)) (.cons (.cmp .ne (.v 5) (.int 0)) .nil) (.v 5)))) .nil)))
def b_fallen : Sms := (.cons (.set 3 (.lst (.cons (.v 1) .nil))) (.cons (.for_ (.one 4) (.seq (.v 2)) (.cons (.iff (.cmp .ne (.lc 5 (.seq (.call .leans (.cons (.v 0) (.cons (.v 4) .nil)))) (.cons (.cmp .inn (.v 5) (.v 3)) .nil) (.v 5)) (.lst .nil)) (.cons (.ex (.m1 .append (.v 3) (.v 4))) .nil) .nil) .nil)) (.cons (.ret (.sl (.v 3) (.cons (.int 1) .nil) .nil)) .nil)))
def b_without : Sms := (.cons (.ex (.meth .tr_need_hand (.v 0) (.cons (.v 1) .nil))) (.cons (.set 5 (.meth .tr_trail (.v 0) (.cons (.v 3) .nil))) (.cons (.iff (.or (.cmp .notin (.v 2) (.v 5)) (.cmp .eq (.v 2) (.int 0))) (.cons (.rse false .point) .nil) .nil) (.cons (.set 6 (.sl (.v 5) (.cons (.bin .add (.m1 .index (.v 5) (.v 2)) (.int 1)) .nil) .nil)) (.cons (.set 7 (.ife (.v 4) (.call .fallen (.cons (.v 0) (.cons (.v 2) (.cons (.v 6) .nil)))) (.lst .nil))) (.cons (.set 8 (.ix (.meth .tr_told (.v 0) (.cons (.v 2) .nil)) (.int 0))) (.cons (.set 9 (.lst .nil)) (.cons (.for_ (.one 10) (.seq (.v 6)) (.cons (.iff (.cmp .notin (.v 10) (.v 7)) (.cons (.try_ (.cons (.set 8 (.meth .tr_grow (.v 0) (.cons (.v 8) (.cons (.v 1) (.cons (.ix (.meth .tr_told (.v 0) (.cons (.v 10) .nil)) (.int 2)) .nil))))) (.cons (.ex (.m1 .append (.v 9) (.tup (.cons (.v 10) (.cons (.v 8) .nil))))) .nil)) .off none (.cons (.ex (.m1 .append (.v 7) (.v 10))) .nil)) .nil) .nil) .nil)) (.cons (.seti (.fld (.v 0) .tree .places) (.v 1) (.v 8)) (.cons (.ret (.tup (.cons (.v 8) (.cons (.b1 .sorted (.v 7)) (.cons (.v 9) .nil))))) .nil))))))))))
def b_l_many : Sms := (.cons (.ret (.ix (.lst (.cons (.call .l_take (.cons (.v 0) (.cons (.int 9) .nil))) (.cons (.call .l_take (.cons (.v 0) (.cons (.int 31) .nil))) .nil))) (.b1 .int (.cmp .eq (.call .l_take (.cons (.v 0) (.cons (.int 8) .nil))) (.int 1))))) .nil)
def b_l_grown : Sms := (.cons (.set 3 (.mk .tree (.cons (.v 2) .nil))) (.cons (.set 4 (.lst (.cons (.tup (.cons (.neg (.int 1)) (.cons (.dct .nil) (.cons (.lst .nil) (.cons .non .nil))))) .nil))) (.cons (.set 5 (.bin .mul (.lst (.cons (.int 0) .nil)) (.v 2))) (.cons (.for_ (.one 6) (.rng1 (.v 1)) (.cons (.set 7 (.call .l_take (.cons (.v 0) (.cons (.v 2) .nil)))) (.cons (.iff (.cmp .eq (.call .l_take (.cons (.v 0) (.cons (.int 4) .nil))) (.int 1)) (.cons (.seti (.v 5) (.v 7) (.call .l_take (.cons (.v 0) (.cons (.b1 .len (.v 4)) .nil)))) (.cons (.ex (.meth .tr_go (.v 3) (.cons (.v 7) (.cons (.ix (.v 5) (.v 7)) .nil)))) .nil)) .nil) (.cons (.unp [8, 9] (.call .l_deed (.cons (.v 0) .nil))) (.cons (.set 10 (.call .l_changes (.cons (.ix (.ix (.v 4) (.ix (.v 5) (.v 7))) (.int 1)) (.cons (.v 8) (.cons (.v 9) .nil))))) (.cons (.iff (.cmp .ne (.v 10) (.str [111, 102, 102])) (.cons (.ex (.meth .tr_do (.v 3) (.cons (.v 7) (.cons (.v 8) .nil)))) (.cons (.ex (.m1 .append (.v 4) (.tup (.cons (.ix (.v 5) (.v 7)) (.cons (.call .l_with (.cons (.ix (.ix (.v 4) (.ix (.v 5) (.v 7))) (.int 1)) (.cons (.v 10) .nil))) (.cons (.v 10) (.cons (.v 8) .nil))))))) (.cons (.seti (.v 5) (.v 7) (.bin .sub (.b1 .len (.v 4)) (.int 1))) .nil))) .nil) .nil)))))) (.cons (.ret (.tup (.cons (.v 3) (.cons (.v 4) (.cons (.v 5) .nil))))) .nil)))))
def b_l_trail : Sms := (.cons (.set 2 (.lst (.cons (.v 1) .nil))) (.cons (.whl (.cmp .ne (.ix (.v 2) (.int 0)) (.int 0)) (.cons (.set 2 (.bin .add (.lst (.cons (.ix (.ix (.v 0) (.ix (.v 2) (.int 0))) (.int 0)) .nil)) (.v 2))) .nil)) (.cons (.ret (.v 2)) .nil)))
def b_l_last : Sms := (.cons (.set 3 (.bin .add (.lst (.cons (.int 0) .nil)) (.lc 4 (.seq (.v 1)) (.cons (.cmp .inn (.v 2) (.lc 5 (.seq (.ix (.ix (.v 0) (.v 4)) (.int 2))) .nil (.ix (.v 5) (.int 0)))) .nil) (.v 4)))) (.cons (.ret (.ix (.v 3) (.neg (.int 1)))) .nil))
def b_l_leans : Sms := (.cons (.set 2 (.sl (.call .l_trail (.cons (.v 0) (.cons (.v 1) .nil))) .nil (.cons (.neg (.int 1)) .nil))) (.cons (.set 3 (.lc 4 (.seq (.call .l_uses (.cons (.ix (.ix (.v 0) (.v 1)) (.int 3)) .nil))) .nil (.call .l_last (.cons (.v 0) (.cons (.v 2) (.cons (.v 4) .nil)))))) (.cons (.ret (.b1 .sortset (.lc 5 (.seq (.v 3)) (.cons (.cmp .gt (.v 5) (.int 0)) .nil) (.v 5)))) .nil)))
def b_l_fallen : Sms := (.cons (.set 3 (.lst (.cons (.v 1) .nil))) (.cons (.for_ (.one 4) (.seq (.v 2)) (.cons (.iff (.cmp .ne (.lc 5 (.seq (.call .l_leans (.cons (.v 0) (.cons (.v 4) .nil)))) (.cons (.cmp .inn (.v 5) (.v 3)) .nil) (.v 5)) (.lst .nil)) (.cons (.ex (.m1 .append (.v 3) (.v 4))) .nil) .nil) .nil)) (.cons (.ret (.v 3)) .nil)))
def b_l_regrown : Sms := (.cons (.set 4 (.call .l_take (.cons (.v 0) (.cons (.b1 .len (.v 3)) .nil)))) (.cons (.set 5 (.call .l_trail (.cons (.v 2) (.cons (.call .l_take (.cons (.v 0) (.cons (.b1 .len (.v 2)) .nil))) .nil)))) (.cons (.iff (.or (.cmp .eq (.b1 .len (.v 5)) (.int 1)) (.cmp .eq (.call .l_take (.cons (.v 0) (.cons (.int 2) .nil))) (.int 0))) (.cons .retN .nil) .nil) (.cons (.set 6 (.bin .add (.int 1) (.call .l_take (.cons (.v 0) (.cons (.bin .sub (.b1 .len (.v 5)) (.int 1)) .nil))))) (.cons (.ex (.call .without (.cons (.v 1) (.cons (.v 4) (.cons (.ix (.v 5) (.v 6)) (.cons (.ix (.v 5) (.neg (.int 1))) (.cons (.bl true) .nil))))))) (.cons (.set 7 (.call .l_fallen (.cons (.v 2) (.cons (.ix (.v 5) (.v 6)) (.cons (.sl (.v 5) (.cons (.bin .add (.v 6) (.int 1)) .nil) .nil) .nil))))) (.cons (.set 8 (.ix (.v 5) (.bin .sub (.v 6) (.int 1)))) (.cons (.for_ (.one 9) (.seq (.sl (.v 5) (.cons (.bin .add (.v 6) (.int 1)) .nil) .nil)) (.cons (.iff (.cmp .notin (.v 9) (.v 7)) (.cons (.set 10 (.ix (.ix (.v 2) (.v 9)) (.int 2))) (.cons (.ex (.m1 .append (.v 2) (.tup (.cons (.v 8) (.cons (.call .l_with (.cons (.ix (.ix (.v 2) (.v 8)) (.int 1)) (.cons (.v 10) .nil))) (.cons (.v 10) (.cons (.ix (.ix (.v 2) (.v 9)) (.int 3)) .nil))))))) (.cons (.set 8 (.bin .sub (.b1 .len (.v 2)) (.int 1))) .nil))) .nil) .nil)) (.cons (.seti (.v 3) (.v 4) (.v 8)) .nil)))))))))
def b_l_far : Sms := (.cons (.set 3 (.lst (.cons (.v 1) .nil))) (.cons (.set 4 (.dct (.cons (.v 1) (.cons (.int 0) .nil)))) (.cons (.whl (.cmp .ne (.v 3) (.lst .nil)) (.cons (.set 5 (.ix (.v 3) (.int 0))) (.cons (.set 3 (.sl (.v 3) (.cons (.int 1) .nil) .nil)) (.cons (.for_ (.one 6) (.rng1 (.b1 .len (.v 0))) (.cons (.iff (.and (.cmp .notin (.v 6) (.v 4)) (.or (.cmp .eq (.ix (.ix (.v 0) (.v 6)) (.int 0)) (.v 5)) (.cmp .eq (.ix (.ix (.v 0) (.v 5)) (.int 0)) (.v 6)))) (.cons (.setk (.v 4) (.v 6) (.bin .add (.dget (.v 4) (.v 5)) (.int 1))) (.cons (.ex (.m1 .append (.v 3) (.v 6))) .nil)) .nil) .nil)) .nil)))) (.cons (.ret (.dget (.v 4) (.v 2))) .nil))))
def b_law_k08 : Sms := (.cons (.set 1 (.call .l_begun (.cons (.v 0) .nil))) (.cons (.set 2 (.bin .add (.int 1) (.call .l_take (.cons (.v 1) (.cons (.int 4) .nil))))) (.cons (.unp [3, 4, 5] (.call .l_grown (.cons (.v 1) (.cons (.call .l_many (.cons (.v 1) .nil)) (.cons (.v 2) .nil))))) (.cons (.ex (.call .l_regrown (.cons (.v 1) (.cons (.v 3) (.cons (.v 4) (.cons (.v 5) .nil)))))) (.cons (.set 6 (.call .l_take (.cons (.v 1) (.cons (.b1 .len (.v 4)) .nil)))) (.cons (.set 7 (.call .l_take (.cons (.v 1) (.cons (.b1 .len (.v 4)) .nil)))) (.cons (.ex (.m0 .lclear (.meth .tr_road (.v 3) (.cons (.v 6) (.cons (.v 7) .nil))))) (.cons (.ex (.m0 .lclear (.meth .tr_trail (.v 3) (.cons (.v 6) .nil)))) (.cons (.set 8 (.meth .tr_road (.v 3) (.cons (.v 6) (.cons (.v 7) .nil)))) (.cons (.iff (.or (.not (.call .l_alike (.cons (.meth .tr_trail (.v 3) (.cons (.v 6) .nil)) (.cons (.call .l_trail (.cons (.v 4) (.cons (.v 6) .nil))) .nil)))) (.not (.b1 (.isi .lst) (.v 8)))) (.cons (.ret (.bl false)) .nil) .nil) (.cons (.iff (.cmp .ne (.b1 .len (.v 8)) (.call .l_far (.cons (.v 4) (.cons (.v 6) (.cons (.v 7) .nil))))) (.cons (.ret (.bl false)) .nil) .nil) (.cons (.set 9 (.v 6)) (.cons (.set 10 (.meth .tr_table (.v 3) (.cons (.v 6) .nil))) (.cons (.for_ (.one 11) (.seq (.v 8)) (.cons (.iff (.or (.not (.b1 (.isi .tup) (.v 11))) (.or (.cmp .ne (.b1 .len (.v 11)) (.int 2)) (.cmp .notin (.ix (.v 11) (.int 0)) (.tup (.cons (.str [98, 97, 99, 107]) (.cons (.str [102, 111, 114, 116, 104]) .nil)))))) (.cons (.ret (.bl false)) .nil) .nil) (.cons (.set 12 (.ife (.cmp .eq (.ix (.v 11) (.int 0)) (.str [98, 97, 99, 107])) (.v 9) (.ix (.ix (.v 4) (.ix (.v 11) (.int 1))) (.int 0)))) (.cons (.iff (.or (.and (.cmp .eq (.ix (.v 11) (.int 0)) (.str [98, 97, 99, 107])) (.cmp .ne (.ix (.v 11) (.int 1)) (.v 9))) (.cmp .ne (.v 12) (.v 9))) (.cons (.ret (.bl false)) .nil) .nil) (.cons (.set 9 (.ife (.cmp .eq (.ix (.v 11) (.int 0)) (.str [98, 97, 99, 107])) (.ix (.ix (.v 4) (.ix (.v 11) (.int 1))) (.int 0)) (.ix (.v 11) (.int 1)))) (.cons (.set 13 (.b1 .dct (.v 10))) (.cons (.set 14 (.meth .tr_stepped (.v 3) (.cons (.v 10) (.cons (.v 11) .nil)))) (.cons (.iff (.or (.cmp .ne (.v 10) (.v 13)) (.cmp .ne (.v 14) (.ix (.ix (.v 4) (.v 9)) (.int 1)))) (.cons (.ret (.bl false)) .nil) .nil) (.cons (.set 10 (.b1 .dct (.v 14))) (.cons (.ex (.m0 .dclear (.v 14))) (.cons (.iff (.cmp .ne (.meth .tr_table (.v 3) (.cons (.v 9) .nil)) (.ix (.ix (.v 4) (.v 9)) (.int 1))) (.cons (.ret (.bl false)) .nil) .nil) .nil))))))))))) (.cons (.set 15 (.call .l_take (.cons (.v 1) (.cons (.v 2) .nil)))) (.cons (.ex (.meth .tr_go (.v 3) (.cons (.v 15) (.cons (.v 6) .nil)))) (.cons (.set 16 (.meth .tr_go (.v 3) (.cons (.v 15) (.cons (.v 7) .nil)))) (.cons (.ret (.and (.cmp .eq (.v 9) (.v 7)) (.and (.cmp .eq (.v 16) (.v 8)) (.cmp .eq (.meth .tr_here (.v 3) (.cons (.v 15) .nil)) (.v 7))))) .nil))))))))))))))))))
def b_reads : Sms := (.cons (.ex (.meth .tr_told (.v 0) (.cons (.v 1) .nil))) (.cons (.set 2 (.meth .tr_trail (.v 0) (.cons (.v 1) .nil))) (.cons (.set 3 (.fld (.ix (.fld (.v 0) .tree .points) (.v 1)) .point .contents)) (.cons (.set 4 (.call .leaning (.cons (.v 3) .nil))) (.cons (.set 5 (.lst .nil)) (.cons (.for_ (.tup [6, 7, 8]) (.seq (.fld (.ix (.fld (.v 0) .tree .points) (.v 1)) .point .changed)) (.cons (.for_ (.one 9) (.seq (.bin .add (.call .read_cells (.cons (.v 8) .nil)) (.b1 .lst (.call .come_to (.cons (.v 4) (.cons (.v 6) .nil)))))) (.cons (.iff (.cmp .notin (.v 9) (.v 5)) (.cons (.ex (.m1 .append (.v 5) (.v 9))) .nil) .nil) .nil)) .nil)) (.cons (.set 10 (.lc 6 (.seq (.v 5)) .nil (.call .last_change (.cons (.v 0) (.cons (.v 2) (.cons (.v 6) .nil)))))) (.cons (.ret (.b1 .sortset (.lc 11 (.seq (.v 10)) (.cons (.cmp .ne (.v 11) (.int 0)) .nil) (.v 11)))) .nil))))))))
def b_clashing : Sms := (.cons (.set 3 (.fld (.ix (.fld (.v 0) .tree .points) (.v 2)) .point .contents)) (.cons (.set 4 (.fld (.ix (.fld (.v 0) .tree .points) (.v 1)) .point .contents)) (.cons (.ret (.lc 5 (.seq (.b1 .sortset (.bin .add (.b1 .lst (.v 3)) (.b1 .lst (.v 4))))) (.cons (.cmp .ne (.m1 .get (.v 3) (.v 5)) (.m1 .get (.v 4) (.v 5))) .nil) (.v 5))) .nil)))
def b_joined : Sms := (.cons (.ex (.meth .tr_need_hand (.v 0) (.cons (.v 1) .nil))) (.cons (.set 4 (.meth .tr_fork (.v 0) (.cons (.v 2) (.cons (.v 3) .nil)))) (.cons (.set 5 (.meth .tr_trail (.v 0) (.cons (.v 3) .nil))) (.cons (.set 6 (.call .clashing (.cons (.v 0) (.cons (.v 4) (.cons (.v 2) .nil))))) (.cons (.set 7 (.v 2)) (.cons (.set 8 (.lst .nil)) (.cons (.set 9 (.lst .nil)) (.cons (.for_ (.one 10) (.seq (.sl (.v 5) (.cons (.bin .add (.m1 .index (.v 5) (.v 4)) (.int 1)) .nil) .nil)) (.cons (.set 11 (.call .uses (.cons (.ix (.meth .tr_told (.v 0) (.cons (.v 10) .nil)) (.int 2)) .nil))) (.cons (.set 12 (.cmp .ne (.lc 13 (.seq (.v 11)) (.cons (.cmp .inn (.v 13) (.v 6)) .nil) (.v 13)) (.lst .nil))) (.cons (.iff (.or (.v 12) (.cmp .ne (.lc 14 (.seq (.call .leans (.cons (.v 0) (.cons (.v 10) .nil)))) (.cons (.cmp .inn (.v 14) (.v 8)) .nil) (.v 14)) (.lst .nil))) (.cons (.ex (.m1 .append (.v 8) (.v 10))) .nil) (.cons (.try_ (.cons (.set 7 (.meth .tr_grow (.v 0) (.cons (.v 7) (.cons (.v 1) (.cons (.ix (.meth .tr_told (.v 0) (.cons (.v 10) .nil)) (.int 2)) .nil))))) (.cons (.ex (.m1 .append (.v 9) (.tup (.cons (.v 10) (.cons (.v 7) .nil))))) .nil)) .off none (.cons (.ex (.m1 .append (.v 8) (.v 10))) .nil)) .nil)) .nil)))) (.cons (.seti (.fld (.v 0) .tree .places) (.v 1) (.v 7)) (.cons (.ret (.tup (.cons (.v 7) (.cons (.v 8) (.cons (.v 9) .nil))))) .nil))))))))))
def b_l_at_hands : Sms := (.cons (.iff (.cmp .eq (.v 3) (.int 0)) (.cons (.ex (.meth .tr_do (.v 0) (.cons (.v 1) (.cons (.tup (.cons (.str [115, 101, 116]) (.cons (.str [122, 57]) (.cons (.str [120]) .nil)))) .nil)))) .nil) (.cons (.iff (.cmp .eq (.v 3) (.int 1)) (.cons (.ex (.meth .tr_here (.v 0) (.cons (.v 1) .nil))) .nil) (.cons (.iff (.cmp .eq (.v 3) (.int 2)) (.cons (.ex (.meth .tr_go (.v 0) (.cons (.v 1) (.cons (.v 2) .nil)))) .nil) (.cons (.iff (.cmp .eq (.v 3) (.int 3)) (.cons (.ex (.call .without (.cons (.v 0) (.cons (.v 1) (.cons (.v 2) (.cons (.v 2) (.cons (.bl true) .nil))))))) .nil) (.cons (.ex (.call .joined (.cons (.v 0) (.cons (.v 1) (.cons (.v 2) (.cons (.int 0) .nil)))))) .nil)) .nil)) .nil)) .nil)) .nil)
def b_l_bad_deed : Sms := (.cons (.set 2 (.ix (.lst (.cons (.str [103, 49]) (.cons (.str [97, 48]) (.cons (.str [122]) (.cons (.str []) (.cons (.str [97, 49, 48]) (.cons (.str [65, 49]) .nil))))))) (.call .l_take (.cons (.v 0) (.cons (.int 6) .nil))))) (.cons (.set 3 (.lst (.cons (.tup (.cons (.tup (.cons (.str [115, 101, 116]) (.cons (.v 2) (.cons (.str [120]) .nil)))) (.cons (.str [99, 101, 108, 108]) .nil))) (.cons (.tup (.cons (.tup (.cons (.str [115, 119, 97, 112]) (.cons (.v 1) (.cons (.v 2) .nil)))) (.cons (.str [99, 101, 108, 108]) .nil))) (.cons (.tup (.cons (.tup (.cons (.str [115, 119, 97, 112]) (.cons (.v 2) (.cons (.v 1) .nil)))) (.cons (.str [99, 101, 108, 108]) .nil))) .nil))))) (.cons (.set 3 (.bin .add (.v 3) (.lst (.cons (.tup (.cons (.tup (.cons (.str [102, 105, 108, 108]) (.cons (.v 2) (.cons (.int 0) .nil)))) (.cons (.str [99, 101, 108, 108]) .nil))) (.cons (.tup (.cons (.tup (.cons (.str [102, 105, 108, 108]) (.cons (.v 2) (.cons (.int 1) .nil)))) (.cons (.str [99, 101, 108, 108]) .nil))) (.cons (.tup (.cons (.tup (.cons (.str [115, 101, 116]) (.cons (.v 1) (.cons (.str [120]) .nil)))) (.cons (.str [102, 111, 114, 109, 117, 108, 97]) .nil))) .nil)))))) (.cons (.ex (.m1 .append (.v 3) (.tup (.cons (.tup (.cons (.str [115, 101, 116]) (.cons (.v 1) (.cons (.str [61, 32, 97, 100, 100, 32, 97, 49, 32, 97, 100, 100, 32, 97, 49, 32, 97, 100, 100, 32, 97, 49, 32, 97, 100, 100, 32, 97, 49, 32, 97, 100, 100, 32, 97, 49, 32, 97, 49]) .nil)))) (.cons (.str [102, 111, 114, 109, 117, 108, 97]) .nil))))) (.cons (.set 3 (.bin .add (.v 3) (.lst (.cons (.tup (.cons (.tup (.cons (.str [102, 105, 108, 108]) (.cons (.v 1) (.cons (.bin .sub (.int 0) (.call .l_take (.cons (.v 0) (.cons (.int 5) .nil)))) .nil)))) (.cons (.str [111, 102, 102]) .nil))) (.cons (.tup (.cons (.tup (.cons (.str [102, 105, 108, 108]) (.cons (.v 1) (.cons (.int 9) .nil)))) (.cons (.str [111, 102, 102]) .nil))) .nil))))) (.cons (.ret (.ix (.v 3) (.call .l_take (.cons (.v 0) (.cons (.int 9) .nil))))) .nil))))))
def b_l_led_k10 : Sms := (.cons (.set 2 (.lst .nil)) (.cons (.set 3 (.b1 .lst (.v 1))) (.cons (.whl (.cmp .ne (.v 3) (.lst .nil)) (.cons (.set 4 (.ix (.v 3) (.int 0))) (.cons (.set 3 (.sl (.v 3) (.cons (.int 1) .nil) .nil)) (.cons (.iff (.cmp .notin (.v 4) (.v 2)) (.cons (.ex (.m1 .append (.v 2) (.v 4))) (.cons (.set 3 (.bin .add (.v 3) (.call .l_reads (.cons (.m1 .get (.v 0) (.v 4)) .nil)))) .nil)) .nil) .nil)))) (.cons (.ret (.v 2)) .nil))))
def b_l_read_points : Sms := (.cons (.set 2 (.ix (.ix (.v 0) (.v 1)) (.int 1))) (.cons (.set 3 (.lst .nil)) (.cons (.for_ (.tup [4, 5, 6]) (.seq (.ix (.ix (.v 0) (.v 1)) (.int 2))) (.cons (.set 3 (.bin .add (.v 3) (.call .l_led_k10 (.cons (.v 2) (.cons (.call .l_reads (.cons (.v 6) .nil)) .nil))))) .nil)) (.cons (.set 7 (.lc 4 (.seq (.v 3)) .nil (.call .l_last (.cons (.v 0) (.cons (.call .l_trail (.cons (.v 0) (.cons (.v 1) .nil))) (.cons (.v 4) .nil)))))) (.cons (.ret (.b1 .sortset (.lc 8 (.seq (.v 7)) (.cons (.cmp .gt (.v 8) (.int 0)) .nil) (.v 8)))) .nil)))))
def b_law_k10 : Sms := (.cons (.set 1 (.call .l_begun (.cons (.v 0) .nil))) (.cons (.unp [2, 3, 4] (.call .l_grown (.cons (.v 1) (.cons (.call .l_many (.cons (.v 1) .nil)) (.cons (.bin .add (.int 1) (.call .l_take (.cons (.v 1) (.cons (.int 4) .nil)))) .nil))))) (.cons (.ex (.call .l_regrown (.cons (.v 1) (.cons (.v 2) (.cons (.v 3) (.cons (.v 4) .nil)))))) (.cons (.for_ (.one 5) (.rng2 (.int 1) (.b1 .len (.v 3))) (.cons (.set 6 (.call .leans (.cons (.v 2) (.cons (.v 5) .nil)))) (.cons (.iff (.not (.call .l_alike (.cons (.v 6) (.cons (.call .l_leans (.cons (.v 3) (.cons (.v 5) .nil))) .nil)))) (.cons (.ret (.bl false)) .nil) .nil) (.cons (.set 7 (.call .reads (.cons (.v 2) (.cons (.v 5) .nil)))) (.cons (.iff (.not (.call .l_alike (.cons (.v 7) (.cons (.call .l_read_points (.cons (.v 3) (.cons (.v 5) .nil))) .nil)))) (.cons (.ret (.bl false)) .nil) .nil) (.cons (.ex (.m0 .lclear (.v 6))) (.cons (.ex (.m0 .lclear (.v 7))) (.cons (.iff (.and (.cmp .lt (.v 5) (.int 4)) (.not (.call .l_alike (.cons (.call .leans (.cons (.v 2) (.cons (.v 5) .nil))) (.cons (.call .l_leans (.cons (.v 3) (.cons (.v 5) .nil))) .nil))))) (.cons (.ret (.bl false)) .nil) .nil) .nil)))))))) (.cons (.ret (.bl true)) .nil)))))
def b_l_taken : Sms := (.cons (.try_ (.cons (.ret (.call .without (.cons (.v 0) (.cons (.v 1) (.cons (.v 2) (.cons (.v 3) (.cons (.bl true) .nil))))))) .nil) .point none (.cons (.ret .non) .nil)) .nil)
def b_l_table : Sms := (.cons (.set 3 (.dct .nil)) (.cons (.for_ (.one 4) (.seq (.v 1)) (.cons (.iff (.cmp .notin (.v 4) (.v 2)) (.cons (.set 3 (.call .l_with (.cons (.v 3) (.cons (.ix (.ix (.v 0) (.v 4)) (.int 2)) .nil)))) .nil) .nil) .nil)) (.cons (.ret (.v 3)) .nil)))
def b_l_is_done : Sms := (.cons (.set 5 (.ix (.ix (.v 1) (.v 3)) (.int 1))) (.cons (.for_ (.tup [6, 7]) (.seq (.v 4)) (.cons (.iff (.cmp .ne (.meth .tr_told (.v 0) (.cons (.v 7) .nil)) (.tup (.cons (.v 3) (.cons (.v 2) (.cons (.ix (.ix (.v 1) (.v 6)) (.int 3)) .nil))))) (.cons (.ret (.bl false)) .nil) .nil) (.cons (.iff (.cmp .ne (.lc 8 (.seq (.ix (.ix (.v 1) (.v 6)) (.int 2))) (.cons (.cmp .ne (.m1 .get (.v 5) (.ix (.v 8) (.int 0))) (.ix (.v 8) (.int 1))) .nil) (.v 8)) (.lst .nil)) (.cons (.ret (.bl false)) .nil) .nil) (.cons (.set 5 (.call .l_with (.cons (.v 5) (.cons (.ix (.ix (.v 1) (.v 6)) (.int 2)) .nil)))) (.cons (.iff (.cmp .ne (.meth .tr_table (.v 0) (.cons (.v 7) .nil)) (.v 5)) (.cons (.ret (.bl false)) .nil) .nil) (.cons (.set 3 (.v 7)) .nil)))))) (.cons (.ret (.bl true)) .nil)))
def b_law_k11 : Sms := (.cons (.set 1 (.call .l_begun (.cons (.v 0) .nil))) (.cons (.set 2 (.bin .add (.int 1) (.call .l_take (.cons (.v 1) (.cons (.int 4) .nil))))) (.cons (.unp [3, 4, 5] (.call .l_grown (.cons (.v 1) (.cons (.call .l_many (.cons (.v 1) .nil)) (.cons (.v 2) .nil))))) (.cons (.set 6 (.call .l_take (.cons (.v 1) (.cons (.v 2) .nil)))) (.cons (.set 7 (.call .l_take (.cons (.v 1) (.cons (.b1 .len (.v 4)) .nil)))) (.cons (.set 8 (.call .l_trail (.cons (.v 4) (.cons (.v 7) .nil)))) (.cons (.set 9 (.ix (.v 8) (.call .l_take (.cons (.v 1) (.cons (.b1 .len (.v 8)) .nil))))) (.cons (.iff (.cmp .eq (.call .l_take (.cons (.v 1) (.cons (.int 6) .nil))) (.int 1)) (.cons (.set 9 (.call .l_take (.cons (.v 1) (.cons (.b1 .len (.v 4)) .nil)))) .nil) .nil) (.cons (.set 10 (.call .l_taken (.cons (.v 3) (.cons (.v 6) (.cons (.v 9) (.cons (.v 7) .nil)))))) (.cons (.iff (.or (.cmp .eq (.v 9) (.int 0)) (.cmp .notin (.v 9) (.v 8))) (.cons (.ret (.and (.cmp .isN (.v 10) .non) (.cmp .eq (.meth .tr_many (.v 3) .nil) (.b1 .len (.v 4))))) .nil) .nil) (.cons (.set 11 (.sl (.v 8) (.cons (.bin .add (.m1 .index (.v 8) (.v 9)) (.int 1)) .nil) .nil)) (.cons (.set 12 (.call .l_fallen (.cons (.v 4) (.cons (.v 9) (.cons (.v 11) .nil))))) (.cons (.set 13 (.lc 14 (.seq (.v 11)) (.cons (.cmp .notin (.v 14) (.v 12)) .nil) (.v 14))) (.cons (.iff (.or (.not (.b1 (.isi .tup) (.v 10))) (.or (.cmp .ne (.b1 .len (.v 10)) (.int 3)) (.not (.call .l_alike (.cons (.ix (.v 10) (.int 1)) (.cons (.b1 .sorted (.sl (.v 12) (.cons (.int 1) .nil) .nil)) .nil)))))) (.cons (.ret (.bl false)) .nil) .nil) (.cons (.set 15 (.lc 16 (.rng1 (.b1 .len (.v 13))) .nil (.tup (.cons (.ix (.v 13) (.v 16)) (.cons (.bin .add (.b1 .len (.v 4)) (.v 16)) .nil))))) (.cons (.set 17 (.ife (.cmp .eq (.v 13) (.lst .nil)) (.ix (.ix (.v 4) (.v 9)) (.int 0)) (.ix (.ix (.v 15) (.neg (.int 1))) (.int 1)))) (.cons (.iff (.not (.call .l_is_done (.cons (.v 3) (.cons (.v 4) (.cons (.v 6) (.cons (.ix (.ix (.v 4) (.v 9)) (.int 0)) (.cons (.v 15) .nil))))))) (.cons (.ret (.bl false)) .nil) .nil) (.cons (.seti (.v 5) (.v 6) (.v 17)) (.cons (.iff (.or (.not (.call .l_alike (.cons (.ix (.v 10) (.int 2)) (.cons (.v 15) .nil)))) (.not (.call .l_alike (.cons (.ix (.v 10) (.int 0)) (.cons (.v 17) .nil))))) (.cons (.ret (.bl false)) .nil) .nil) (.cons (.iff (.or (.cmp .ne (.lc 16 (.rng1 (.v 2)) .nil (.meth .tr_here (.v 3) (.cons (.v 16) .nil))) (.v 5)) (.cmp .ne (.meth .tr_worths (.v 3) (.cons (.v 17) .nil)) (.call .l_values (.cons (.meth .tr_table (.v 3) (.cons (.v 17) .nil)) .nil)))) (.cons (.ret (.bl false)) .nil) .nil) (.cons (.iff (.or (.cmp .ne (.meth .tr_many (.v 3) .nil) (.bin .add (.b1 .len (.v 4)) (.b1 .len (.v 13)))) (.cmp .ne (.meth .tr_table (.v 3) (.cons (.v 17) .nil)) (.call .l_table (.cons (.v 4) (.cons (.v 8) (.cons (.v 12) .nil)))))) (.cons (.ret (.bl false)) .nil) .nil) (.cons (.ret (.cmp .eq (.lc 14 (.rng1 (.b1 .len (.v 4))) (.cons (.cmp .ne (.meth .tr_table (.v 3) (.cons (.v 14) .nil)) (.ix (.ix (.v 4) (.v 14)) (.int 1))) .nil) (.v 14)) (.lst .nil))) .nil))))))))))))))))))))))
def b_l_content_of : Sms := (.cons (.iff (.cmp .ne (.ix (.ix (.v 0) (.int 3)) (.int 0)) (.str [115, 101, 116])) (.cons (.ret .non) .nil) .nil) (.cons (.ret (.m1 .get (.ix (.v 0) (.int 1)) (.ix (.ix (.v 0) (.int 3)) (.int 1)))) .nil))
def b_law_k12 : Sms := (.cons (.set 1 (.call .l_begun (.cons (.v 0) .nil))) (.cons (.set 2 (.bin .add (.int 1) (.call .l_take (.cons (.v 1) (.cons (.int 4) .nil))))) (.cons (.unp [3, 4, 5] (.call .l_grown (.cons (.v 1) (.cons (.call .l_many (.cons (.v 1) .nil)) (.cons (.v 2) .nil))))) (.cons (.set 6 (.call .l_take (.cons (.v 1) (.cons (.v 2) .nil)))) (.cons (.set 7 (.call .l_trail (.cons (.v 4) (.cons (.call .l_take (.cons (.v 1) (.cons (.b1 .len (.v 4)) .nil))) .nil)))) (.cons (.iff (.cmp .eq (.b1 .len (.v 7)) (.int 1)) (.cons (.ret (.bl true)) .nil) .nil) (.cons (.set 8 (.bin .add (.int 1) (.call .l_take (.cons (.v 1) (.cons (.bin .sub (.b1 .len (.v 7)) (.int 1)) .nil))))) (.cons (.set 9 (.call .without (.cons (.v 3) (.cons (.v 6) (.cons (.ix (.v 7) (.v 8)) (.cons (.ix (.v 7) (.neg (.int 1))) (.cons (.bl false) .nil))))))) (.cons (.set 10 (.ix (.v 7) (.bin .sub (.v 8) (.int 1)))) (.cons (.set 11 (.ix (.ix (.v 4) (.v 10)) (.int 1))) (.cons (.set 12 (.lst .nil)) (.cons (.set 13 (.lst .nil)) (.cons (.for_ (.one 14) (.seq (.sl (.v 7) (.cons (.bin .add (.v 8) (.int 1)) .nil) .nil)) (.cons (.set 15 (.call .l_changes (.cons (.v 11) (.cons (.ix (.ix (.v 4) (.v 14)) (.int 3)) (.cons (.call .l_content_of (.cons (.ix (.v 4) (.v 14)) .nil)) .nil))))) (.cons (.iff (.cmp .eq (.v 15) (.str [111, 102, 102])) (.cons (.ex (.m1 .append (.v 12) (.v 14))) .nil) (.cons (.set 11 (.call .l_with (.cons (.v 11) (.cons (.v 15) .nil)))) (.cons (.iff (.cmp .ne (.meth .tr_told (.v 3) (.cons (.bin .add (.b1 .len (.v 4)) (.b1 .len (.v 13))) .nil)) (.tup (.cons (.v 10) (.cons (.v 6) (.cons (.ix (.ix (.v 4) (.v 14)) (.int 3)) .nil))))) (.cons (.ret (.bl false)) .nil) .nil) (.cons (.set 10 (.bin .add (.b1 .len (.v 4)) (.b1 .len (.v 13)))) (.cons (.ex (.m1 .append (.v 13) (.tup (.cons (.v 14) (.cons (.v 10) .nil))))) (.cons (.iff (.cmp .ne (.meth .tr_table (.v 3) (.cons (.v 10) .nil)) (.v 11)) (.cons (.ret (.bl false)) .nil) .nil) .nil)))))) .nil))) (.cons (.seti (.v 5) (.v 6) (.v 10)) (.cons (.iff (.or (.not (.call .l_alike (.cons (.v 9) (.cons (.tup (.cons (.v 10) (.cons (.v 12) (.cons (.v 13) .nil)))) .nil)))) (.cmp .ne (.lc 16 (.rng1 (.v 2)) .nil (.meth .tr_here (.v 3) (.cons (.v 16) .nil))) (.v 5))) (.cons (.ret (.bl false)) .nil) .nil) (.cons (.iff (.cmp .ne (.lc 16 (.rng1 (.b1 .len (.v 4))) (.cons (.cmp .ne (.meth .tr_table (.v 3) (.cons (.v 16) .nil)) (.ix (.ix (.v 4) (.v 16)) (.int 1))) .nil) (.v 16)) (.lst .nil)) (.cons (.ret (.bl false)) .nil) .nil) (.cons (.ret (.and (.cmp .eq (.meth .tr_table (.v 3) (.cons (.v 10) .nil)) (.v 11)) (.cmp .eq (.meth .tr_worths (.v 3) (.cons (.v 10) .nil)) (.call .l_values (.cons (.v 11) .nil))))) .nil)))))))))))))))))
def b_l_joined : Sms := (.cons (.set 3 (.call .l_trail (.cons (.v 0) (.cons (.v 1) .nil)))) (.cons (.set 4 (.call .l_trail (.cons (.v 0) (.cons (.v 2) .nil)))) (.cons (.set 5 (.ix (.lc 6 (.seq (.v 3)) (.cons (.cmp .inn (.v 6) (.v 4)) .nil) (.v 6)) (.neg (.int 1)))) (.cons (.set 7 (.ix (.ix (.v 0) (.v 1)) (.int 1))) (.cons (.set 8 (.ix (.ix (.v 0) (.v 5)) (.int 1))) (.cons (.set 9 (.lc 10 (.seq (.bin .add (.b1 .lst (.v 7)) (.b1 .lst (.v 8)))) (.cons (.cmp .ne (.m1 .get (.v 7) (.v 10)) (.m1 .get (.v 8) (.v 10))) .nil) (.v 10))) (.cons (.set 11 (.lst .nil)) (.cons (.set 12 (.lst .nil)) (.cons (.for_ (.one 6) (.seq (.sl (.v 4) (.cons (.bin .add (.m1 .index (.v 4) (.v 5)) (.int 1)) .nil) .nil)) (.cons (.set 13 (.cmp .ne (.lc 10 (.seq (.call .l_uses (.cons (.ix (.ix (.v 0) (.v 6)) (.int 3)) .nil))) (.cons (.cmp .inn (.v 10) (.v 9)) .nil) (.v 10)) (.lst .nil))) (.cons (.iff (.or (.v 13) (.cmp .ne (.lc 14 (.seq (.call .l_leans (.cons (.v 0) (.cons (.v 6) .nil)))) (.cons (.cmp .inn (.v 14) (.v 11)) .nil) (.v 14)) (.lst .nil))) (.cons (.ex (.m1 .append (.v 11) (.v 6))) .nil) (.cons (.ex (.m1 .append (.v 12) (.v 6))) (.cons (.set 7 (.call .l_with (.cons (.v 7) (.cons (.ix (.ix (.v 0) (.v 6)) (.int 2)) .nil)))) .nil))) .nil))) (.cons (.ret (.tup (.cons (.v 11) (.cons (.v 12) (.cons (.v 7) .nil))))) .nil))))))))))
def b_law_k13 : Sms := (.cons (.set 1 (.call .l_begun (.cons (.v 0) .nil))) (.cons (.set 2 (.bin .add (.int 1) (.call .l_take (.cons (.v 1) (.cons (.int 4) .nil))))) (.cons (.unp [3, 4, 5] (.call .l_grown (.cons (.v 1) (.cons (.call .l_many (.cons (.v 1) .nil)) (.cons (.v 2) .nil))))) (.cons (.set 6 (.call .l_take (.cons (.v 1) (.cons (.v 2) .nil)))) (.cons (.set 7 (.call .l_take (.cons (.v 1) (.cons (.b1 .len (.v 4)) .nil)))) (.cons (.set 8 (.call .l_take (.cons (.v 1) (.cons (.b1 .len (.v 4)) .nil)))) (.cons (.unp [9, 10, 11] (.call .l_joined (.cons (.v 4) (.cons (.v 7) (.cons (.v 8) .nil))))) (.cons (.set 12 (.call .joined (.cons (.v 3) (.cons (.v 6) (.cons (.v 7) (.cons (.v 8) .nil)))))) (.cons (.set 13 (.lc 14 (.rng1 (.b1 .len (.v 10))) .nil (.tup (.cons (.ix (.v 10) (.v 14)) (.cons (.bin .add (.b1 .len (.v 4)) (.v 14)) .nil))))) (.cons (.set 15 (.ife (.cmp .eq (.v 10) (.lst .nil)) (.v 7) (.ix (.ix (.v 13) (.neg (.int 1))) (.int 1)))) (.cons (.seti (.v 5) (.v 6) (.v 15)) (.cons (.iff (.or (.not (.call .l_alike (.cons (.v 12) (.cons (.tup (.cons (.v 15) (.cons (.v 9) (.cons (.v 13) .nil)))) .nil)))) (.cmp .ne (.lc 14 (.rng1 (.v 2)) .nil (.meth .tr_here (.v 3) (.cons (.v 14) .nil))) (.v 5))) (.cons (.ret (.bl false)) .nil) .nil) (.cons (.iff (.or (.cmp .ne (.meth .tr_table (.v 3) (.cons (.v 15) .nil)) (.v 11)) (.cmp .ne (.meth .tr_worths (.v 3) (.cons (.v 15) .nil)) (.call .l_values (.cons (.v 11) .nil)))) (.cons (.ret (.bl false)) .nil) .nil) (.cons (.set 16 (.v 7)) (.cons (.for_ (.tup [17, 18]) (.seq (.v 13)) (.cons (.iff (.cmp .ne (.meth .tr_told (.v 3) (.cons (.v 18) .nil)) (.tup (.cons (.v 16) (.cons (.v 6) (.cons (.ix (.ix (.v 4) (.v 17)) (.int 3)) .nil))))) (.cons (.ret (.bl false)) .nil) .nil) (.cons (.set 16 (.v 18)) .nil))) (.cons (.iff (.cmp .ne (.meth .tr_many (.v 3) .nil) (.bin .add (.b1 .len (.v 4)) (.b1 .len (.v 10)))) (.cons (.ret (.bl false)) .nil) .nil) (.cons (.ret (.cmp .eq (.lc 17 (.rng1 (.b1 .len (.v 4))) (.cons (.cmp .ne (.meth .tr_table (.v 3) (.cons (.v 17) .nil)) (.ix (.ix (.v 4) (.v 17)) (.int 1))) .nil) (.v 17)) (.lst .nil))) .nil)))))))))))))))))
def b_law_k14 : Sms := (.cons (.set 1 (.call .l_begun (.cons (.v 0) .nil))) (.cons (.set 2 (.bin .add (.int 1) (.call .l_take (.cons (.v 1) (.cons (.int 4) .nil))))) (.cons (.unp [3, 4, 5] (.call .l_grown (.cons (.v 1) (.cons (.call .l_many (.cons (.v 1) .nil)) (.cons (.v 2) .nil))))) (.cons (.set 6 (.call .l_take (.cons (.v 1) (.cons (.b1 .len (.v 4)) .nil)))) (.cons (.set 7 (.call .l_take (.cons (.v 1) (.cons (.b1 .len (.v 4)) .nil)))) (.cons (.iff (.cmp .eq (.call .l_take (.cons (.v 1) (.cons (.int 2) .nil))) (.int 1)) (.cons (.set 8 (.lc 9 (.seq (.v 4)) .nil (.ix (.v 9) (.int 0)))) (.cons (.set 10 (.lc 11 (.rng1 (.b1 .len (.v 4))) (.cons (.cmp .notin (.v 11) (.v 8)) .nil) (.v 11))) (.cons (.set 6 (.ix (.v 10) (.call .l_take (.cons (.v 1) (.cons (.b1 .len (.v 10)) .nil))))) (.cons (.set 7 (.ix (.v 10) (.call .l_take (.cons (.v 1) (.cons (.b1 .len (.v 10)) .nil))))) .nil)))) .nil) (.cons (.set 12 (.call .joined (.cons (.v 3) (.cons (.int 0) (.cons (.v 6) (.cons (.v 7) .nil)))))) (.cons (.set 13 (.call .joined (.cons (.v 3) (.cons (.int 0) (.cons (.v 7) (.cons (.v 6) .nil)))))) (.cons (.iff (.or (.cmp .ne (.ix (.v 12) (.int 1)) (.lst .nil)) (.cmp .ne (.ix (.v 13) (.int 1)) (.lst .nil))) (.cons (.ret (.bl true)) .nil) .nil) (.cons (.set 14 (.call .l_trail (.cons (.v 4) (.cons (.v 7) .nil)))) (.cons (.set 15 (.ix (.lc 9 (.seq (.call .l_trail (.cons (.v 4) (.cons (.v 6) .nil)))) (.cons (.cmp .inn (.v 9) (.v 14)) .nil) (.v 9)) (.neg (.int 1)))) (.cons (.set 16 (.dct .nil)) (.cons (.for_ (.one 17) (.seq (.b1 .sortset (.bin .add (.b1 .lst (.ix (.ix (.v 4) (.v 6)) (.int 1))) (.b1 .lst (.ix (.ix (.v 4) (.v 7)) (.int 1)))))) (.cons (.set 18 (.m1 .get (.ix (.ix (.v 4) (.v 6)) (.int 1)) (.v 17))) (.cons (.iff (.cmp .eq (.v 18) (.m1 .get (.ix (.ix (.v 4) (.v 15)) (.int 1)) (.v 17))) (.cons (.set 18 (.m1 .get (.ix (.ix (.v 4) (.v 7)) (.int 1)) (.v 17))) .nil) .nil) (.cons (.iff (.cmp .notN (.v 18) .non) (.cons (.setk (.v 16) (.v 17) (.v 18)) .nil) .nil) .nil)))) (.cons (.iff (.or (.cmp .ne (.meth .tr_table (.v 3) (.cons (.ix (.v 12) (.int 0)) .nil)) (.v 16)) (.cmp .ne (.meth .tr_table (.v 3) (.cons (.ix (.v 13) (.int 0)) .nil)) (.v 16))) (.cons (.ret (.bl false)) .nil) .nil) (.cons (.set 19 (.lst (.cons (.meth .tr_worths (.v 3) (.cons (.ix (.v 12) (.int 0)) .nil)) (.cons (.meth .tr_worths (.v 3) (.cons (.ix (.v 13) (.int 0)) .nil)) .nil)))) (.cons (.ret (.cmp .eq (.v 19) (.lst (.cons (.call .l_values (.cons (.v 16) .nil)) (.cons (.call .l_values (.cons (.v 16) .nil)) .nil))))) .nil))))))))))))))))
def b_deed_text : Sms := (.cons (.iff (.cmp .eq (.ix (.v 0) (.int 0)) (.str [115, 101, 116])) (.cons (.ret (.bin .add (.bin .add (.bin .add (.str [115, 101, 116, 32]) (.ix (.v 0) (.int 1))) (.str [32, 116, 111, 32])) (.ix (.v 0) (.int 2)))) .nil) .nil) (.cons (.iff (.cmp .eq (.ix (.v 0) (.int 0)) (.str [115, 119, 97, 112])) (.cons (.ret (.bin .add (.bin .add (.bin .add (.str [115, 119, 97, 112, 32]) (.ix (.v 0) (.int 1))) (.str [32])) (.ix (.v 0) (.int 2)))) .nil) .nil) (.cons (.ret (.bin .add (.bin .add (.bin .add (.str [102, 105, 108, 108, 32]) (.ix (.v 0) (.int 1))) (.str [32])) (.b1 .str (.ix (.v 0) (.int 2))))) .nil)))
def b_written : Sms := (.cons (.set 1 (.lst (.cons (.bin .add (.str [104, 97, 110, 100, 115, 32]) (.m1 .join (.str [32]) (.lc 2 (.seq (.fld (.v 0) .tree .places)) .nil (.b1 .str (.v 2))))) .nil))) (.cons (.for_ (.one 3) (.rng2 (.int 1) (.meth .tr_many (.v 0) .nil)) (.cons (.unp [4, 5, 6] (.meth .tr_told (.v 0) (.cons (.v 3) .nil))) (.cons (.ex (.m1 .append (.v 1) (.bin .add (.bin .add (.bin .add (.bin .add (.bin .add (.str [102, 114, 111, 109, 32]) (.b1 .str (.v 4))) (.str [32, 98, 121, 32])) (.b1 .str (.v 5))) (.str [58, 32])) (.call .deed_text (.cons (.v 6) .nil))))) .nil))) (.cons (.ret (.m1 .join (.str [10]) (.v 1))) .nil)))
def b_count_of : Sms := (.cons (.set 1 (.call .number_of (.cons (.v 0) .nil))) (.cons (.iff (.or (.cmp .isN (.v 1) .non) (.cmp .lt (.v 1) (.int 0))) (.cons (.rse false .table) .nil) .nil) (.cons (.ret (.v 1)) .nil)))
def b_deed_of : Sms := (.cons (.unp [1, 2, 3] (.m1 .partition (.v 0) (.str [32]))) (.cons (.iff (.cmp .eq (.v 1) (.str [115, 101, 116])) (.cons (.unp [4, 5, 6] (.m1 .partition (.v 3) (.str [32, 116, 111, 32]))) (.cons (.iff (.cmp .ne (.v 5) (.str [])) (.cons (.ret (.tup (.cons (.str [115, 101, 116]) (.cons (.v 4) (.cons (.v 6) .nil))))) .nil) .nil) .nil)) .nil) (.cons (.unp [7, 2, 8] (.m1 .partition (.v 3) (.str [32]))) (.cons (.iff (.and (.cmp .eq (.v 1) (.str [115, 119, 97, 112])) (.cmp .ne (.v 2) (.str []))) (.cons (.ret (.tup (.cons (.str [115, 119, 97, 112]) (.cons (.v 7) (.cons (.v 8) .nil))))) .nil) .nil) (.cons (.iff (.and (.cmp .eq (.v 1) (.str [102, 105, 108, 108])) (.cmp .ne (.v 2) (.str []))) (.cons (.ret (.tup (.cons (.str [102, 105, 108, 108]) (.cons (.v 7) (.cons (.call .count_of (.cons (.v 8) .nil)) .nil))))) .nil) .nil) (.cons (.rse false .table) .nil))))))
def b_put_row : Sms := (.cons (.unp [2, 3, 4] (.m1 .partition (.v 1) (.str [58, 32]))) (.cons (.set 5 (.m1 .split (.v 2) (.str [32]))) (.cons (.iff (.or (.cmp .eq (.v 3) (.str [])) (.or (.cmp .ne (.b1 .len (.v 5)) (.int 4)) (.or (.cmp .ne (.ix (.v 5) (.int 0)) (.str [102, 114, 111, 109])) (.cmp .ne (.ix (.v 5) (.int 2)) (.str [98, 121]))))) (.cons (.rse false .table) .nil) .nil) (.cons (.set 6 (.call .count_of (.cons (.ix (.v 5) (.int 3)) .nil))) (.cons (.ex (.meth .tr_need_hand (.v 0) (.cons (.v 6) .nil))) (.cons (.ex (.meth .tr_go (.v 0) (.cons (.v 6) (.cons (.call .count_of (.cons (.ix (.v 5) (.int 1)) .nil)) .nil)))) (.cons (.ex (.meth .tr_do (.v 0) (.cons (.v 6) (.cons (.call .deed_of (.cons (.v 4) .nil)) .nil)))) .nil)))))))
def b_read_notes : Sms := (.cons (.set 1 (.m1 .split (.v 0) (.str [10]))) (.cons (.set 2 (.m1 .split (.ix (.v 1) (.int 0)) (.str [32]))) (.cons (.iff (.cmp .ne (.ix (.v 2) (.int 0)) (.str [104, 97, 110, 100, 115])) (.cons (.rseN true (.int 0)) .nil) .nil) (.cons (.try_ (.cons (.set 3 (.lc 4 (.seq (.sl (.v 2) (.cons (.int 1) .nil) .nil)) .nil (.call .count_of (.cons (.v 4) .nil)))) (.cons (.set 5 (.mk .tree (.cons (.b1 .len (.v 3)) .nil))) .nil)) .table none (.cons (.rseN true (.int 0)) .nil)) (.cons (.for_ (.one 6) (.rng2 (.int 1) (.b1 .len (.v 1))) (.cons (.try_ (.cons (.ex (.call .put_row (.cons (.v 5) (.cons (.ix (.v 1) (.v 6)) .nil)))) .nil) .table none (.cons (.rseN true (.v 6)) .nil)) .nil)) (.cons (.for_ (.tup [7, 8]) (.enm (.v 3)) (.cons (.iff (.cmp .ge (.v 8) (.meth .tr_many (.v 5) .nil)) (.cons (.rseN true (.int 0)) .nil) .nil) (.cons (.seti (.fld (.v 5) .tree .places) (.v 7) (.v 8)) .nil))) (.cons (.ret (.v 5)) .nil)))))))
def b_l_deed_text : Sms := (.cons (.iff (.cmp .eq (.ix (.v 0) (.int 0)) (.str [115, 101, 116])) (.cons (.ret (.bin .add (.bin .add (.bin .add (.str [115, 101, 116, 32]) (.ix (.v 0) (.int 1))) (.str [32, 116, 111, 32])) (.ix (.v 0) (.int 2)))) .nil) .nil) (.cons (.ret (.bin .add (.bin .add (.bin .add (.bin .add (.ix (.v 0) (.int 0)) (.str [32])) (.ix (.v 0) (.int 1))) (.str [32])) (.b1 .str (.ix (.v 0) (.int 2))))) .nil))
def b_l_rows : Sms := (.cons (.set 2 (.lst (.cons (.bin .add (.str [104, 97, 110, 100, 115, 32]) (.m1 .join (.str [32]) (.lc 3 (.seq (.v 1)) .nil (.b1 .str (.v 3))))) .nil))) (.cons (.for_ (.one 4) (.rng2 (.int 1) (.meth .tr_many (.v 0) .nil)) (.cons (.unp [5, 6, 7] (.meth .tr_told (.v 0) (.cons (.v 4) .nil))) (.cons (.set 8 (.bin .add (.bin .add (.bin .add (.str [102, 114, 111, 109, 32]) (.b1 .str (.v 5))) (.str [32, 98, 121, 32])) (.b1 .str (.v 6)))) (.cons (.ex (.m1 .append (.v 2) (.bin .add (.bin .add (.v 8) (.str [58, 32])) (.call .l_deed_text (.cons (.v 7) .nil))))) .nil)))) (.cons (.ret (.v 2)) .nil)))
def b_l_is_same : Sms := (.cons (.iff (.cmp .ne (.meth .tr_many (.v 0) .nil) (.meth .tr_many (.v 1) .nil)) (.cons (.ret (.bl false)) .nil) .nil) (.cons (.for_ (.one 3) (.rng1 (.v 2)) (.cons (.iff (.cmp .ne (.meth .tr_here (.v 0) (.cons (.v 3) .nil)) (.meth .tr_here (.v 1) (.cons (.v 3) .nil))) (.cons (.ret (.bl false)) .nil) .nil) .nil)) (.cons (.for_ (.one 4) (.rng1 (.meth .tr_many (.v 0) .nil)) (.cons (.iff (.and (.cmp .gt (.v 4) (.int 0)) (.not (.call .l_alike (.cons (.meth .tr_told (.v 1) (.cons (.v 4) .nil)) (.cons (.meth .tr_told (.v 0) (.cons (.v 4) .nil)) .nil))))) (.cons (.ret (.bl false)) .nil) .nil) (.cons (.iff (.cmp .ne (.meth .tr_table (.v 0) (.cons (.v 4) .nil)) (.meth .tr_table (.v 1) (.cons (.v 4) .nil))) (.cons (.ret (.bl false)) .nil) .nil) (.cons (.iff (.cmp .ne (.meth .tr_worths (.v 0) (.cons (.v 4) .nil)) (.meth .tr_worths (.v 1) (.cons (.v 4) .nil))) (.cons (.ret (.bl false)) .nil) .nil) .nil)))) (.cons (.ret (.bl true)) .nil))))
def b_law_k15 : Sms := (.cons (.set 1 (.call .l_begun (.cons (.v 0) .nil))) (.cons (.set 2 (.lst .nil)) (.cons (.for_ (.one 3) (.rng1 (.int 2)) (.cons (.set 4 (.bin .add (.int 1) (.call .l_take (.cons (.v 1) (.cons (.int 4) .nil))))) (.cons (.unp [5, 6, 7] (.call .l_grown (.cons (.v 1) (.cons (.call .l_many (.cons (.v 1) .nil)) (.cons (.v 4) .nil))))) (.cons (.ex (.call .l_regrown (.cons (.v 1) (.cons (.v 5) (.cons (.v 6) (.cons (.v 7) .nil)))))) (.cons (.ex (.m1 .append (.v 2) (.tup (.cons (.v 5) (.cons (.v 7) (.cons (.v 4) .nil)))))) .nil))))) (.cons (.for_ (.tup [5, 7, 4]) (.seq (.lst (.cons (.ix (.v 2) (.int 0)) (.cons (.ix (.v 2) (.int 1)) (.cons (.ix (.v 2) (.int 0)) .nil))))) (.cons (.set 8 (.m1 .join (.str [10]) (.call .l_rows (.cons (.v 5) (.cons (.v 7) .nil))))) (.cons (.iff (.not (.call .l_alike (.cons (.call .written (.cons (.v 5) .nil)) (.cons (.v 8) .nil)))) (.cons (.ret (.bl false)) .nil) .nil) (.cons (.iff (.not (.call .l_is_same (.cons (.v 5) (.cons (.call .read_notes (.cons (.v 8) .nil)) (.cons (.v 4) .nil))))) (.cons (.ret (.bl false)) .nil) .nil) .nil)))) (.cons (.ret (.bl true)) .nil)))))
def b_l_none : Sms := (.cons (.set 1 (.lst (.cons (.str [115, 101, 116]) (.cons (.str [115, 101, 116, 32, 97, 49]) (.cons (.str [115, 101, 116, 32, 97, 49, 32, 116, 111, 32, 120]) (.cons (.str [115, 101, 116, 32, 97, 49, 32, 116, 111, 32, 48, 48, 55]) (.cons (.str [115, 101, 116, 32, 103, 49, 32, 116, 111, 32, 49]) (.cons (.str [115, 101, 116, 32, 97, 49, 32, 116, 111, 32, 61, 32, 53]) .nil)))))))) (.cons (.set 1 (.bin .add (.v 1) (.lst (.cons (.str [115, 119, 97, 112, 32, 97, 49]) (.cons (.str [115, 119, 97, 112, 32, 97, 49, 32, 97, 48]) (.cons (.str [102, 105, 108, 108, 32, 97, 49, 32, 48]) (.cons (.str [102, 105, 108, 108, 32, 97, 57, 32, 49]) (.cons (.str [102, 105, 108, 108, 32, 97, 49, 32, 57]) (.cons (.str [102, 105, 108, 108, 32, 97, 49, 32, 120]) .nil))))))))) (.cons (.set 1 (.bin .add (.v 1) (.lst (.cons (.str [100, 114, 111, 112, 32, 97, 49, 32, 98, 49]) (.cons (.str []) .nil))))) (.cons (.set 1 (.lc 2 (.seq (.v 1)) .nil (.bin .add (.str [102, 114, 111, 109, 32, 48, 32, 98, 121, 32, 48, 58, 32]) (.v 2)))) (.cons (.set 1 (.bin .add (.v 1) (.lst (.cons (.str []) (.cons (.str [102, 114, 111, 109]) (.cons (.str [102, 114, 111, 109, 32, 48, 32, 98, 121, 32, 48]) (.cons (.str [102, 114, 111, 109, 32, 48, 32, 98, 121, 32, 48, 58]) (.cons (.str [104, 97, 110, 100, 115, 32, 48]) (.cons (.str [102, 114, 111, 109, 32, 48, 32, 98, 121, 32, 52, 58, 32, 115, 119, 97, 112, 32, 97, 49, 32, 98, 49]) .nil))))))))) (.cons (.set 1 (.bin .add (.v 1) (.lst (.cons (.str [102, 114, 111, 109, 32, 48, 32, 98, 121, 32, 48, 58, 115, 119, 97, 112, 32, 97, 49, 32, 98, 49]) (.cons (.str [102, 114, 111, 109, 32, 57, 57, 57, 32, 98, 121, 32, 48, 58, 32, 115, 119, 97, 112, 32, 97, 49, 32, 98, 49]) (.cons (.str [102, 114, 111, 109, 32, 45, 49, 32, 98, 121, 32, 48, 58, 32, 115, 119, 97, 112, 32, 97, 49, 32, 98, 49]) .nil)))))) (.cons (.set 1 (.bin .add (.v 1) (.lst (.cons (.str [32, 102, 114, 111, 109, 32, 48, 32, 98, 121, 32, 48, 58, 32, 115, 119, 97, 112, 32, 97, 49, 32, 98, 49]) (.cons (.str [102, 114, 111, 109, 32, 48, 48, 32, 98, 121, 32, 48, 58, 32, 115, 119, 97, 112, 32, 97, 49, 32, 98, 49]) (.cons (.str [70, 114, 111, 109, 32, 48, 32, 98, 121, 32, 48, 58, 32, 115, 119, 97, 112, 32, 97, 49, 32, 98, 49]) .nil)))))) (.cons (.ret (.ix (.v 1) (.call .l_take (.cons (.v 0) (.cons (.int 26) .nil))))) .nil))))))))
def b_l_spoilt : Sms := (.cons (.for_ (.one 2) (.rng1 (.bin .add (.int 1) (.call .l_take (.cons (.v 0) (.cons (.int 3) .nil))))) (.cons (.set 3 (.call .l_take (.cons (.v 0) (.cons (.bin .add (.b1 .len (.v 1)) (.int 1)) .nil)))) (.cons (.set 4 (.ix (.str [97, 49, 32, 48, 61, 58, 98, 50, 45, 102]) (.call .l_take (.cons (.v 0) (.cons (.int 10) .nil))))) (.cons (.set 5 (.call .l_take (.cons (.v 0) (.cons (.int 3) .nil)))) (.cons (.set 1 (.bin .add (.bin .add (.sl (.v 1) .nil (.cons (.v 3) .nil)) (.ix (.lst (.cons (.str []) (.cons (.v 4) (.cons (.v 4) .nil)))) (.v 5))) (.sl (.v 1) (.cons (.bin .add (.v 3) (.ix (.lst (.cons (.int 1) (.cons (.int 0) (.cons (.int 1) .nil)))) (.v 5))) .nil) .nil))) .nil))))) (.cons (.ret (.v 1)) .nil))
def b_l_text_of : Sms := (.cons (.set 1 (.bin .add (.int 1) (.call .l_take (.cons (.v 0) (.cons (.int 4) .nil))))) (.cons (.unp [2, 3, 4] (.call .l_grown (.cons (.v 0) (.cons (.call .l_take (.cons (.v 0) (.cons (.int 9) .nil))) (.cons (.v 1) .nil))))) (.cons (.set 5 (.call .l_rows (.cons (.v 2) (.cons (.v 4) .nil)))) (.cons (.set 6 (.bin .add (.int 1) (.call .l_take (.cons (.v 0) (.cons (.b1 .len (.v 5)) .nil))))) (.cons (.set 7 (.call .l_take (.cons (.v 0) (.cons (.int 6) .nil)))) (.cons (.iff (.cmp .inn (.v 7) (.tup (.cons (.int 1) (.cons (.int 2) .nil)))) (.cons (.iff (.cmp .eq (.call .l_take (.cons (.v 0) (.cons (.int 3) .nil))) (.int 1)) (.cons (.set 5 (.bin .add (.lst (.cons (.m1 .join (.str [32]) (.bin .add (.sl (.m1 .split (.ix (.v 5) (.int 0)) (.str [32])) .nil (.cons (.neg (.int 1)) .nil)) (.lst (.cons (.str [57, 57, 57]) .nil)))) .nil)) (.sl (.v 5) (.cons (.int 1) .nil) .nil))) .nil) .nil) (.cons (.ret (.tup (.cons (.bin .add (.bin .add (.sl (.v 5) .nil (.cons (.v 6) .nil)) (.lst (.cons (.call .l_none (.cons (.v 0) .nil)) .nil))) (.sl (.v 5) (.cons (.v 6) .nil) .nil)) (.cons (.v 6) .nil)))) .nil)) .nil) (.cons (.iff (.cmp .eq (.v 7) (.int 3)) (.cons (.set 8 (.lst (.cons (.str []) (.cons (.str [104, 97, 110, 100, 115]) (.cons (.str [104, 97, 110, 100, 115, 32]) (.cons (.str [104, 97, 110, 100, 115, 32, 48, 32, 48, 32, 48, 32, 48, 32, 48]) (.cons (.str [104, 97, 110, 100, 115, 32, 57, 57, 57]) (.cons (.str [104, 97, 110, 100, 115, 32, 120]) .nil)))))))) (.cons (.set 8 (.bin .add (.v 8) (.lst (.cons (.str [104, 97, 110, 100, 115, 32, 48, 48]) (.cons (.str [72, 97, 110, 100, 115, 32, 48]) (.cons (.str [104, 97, 110, 100, 115, 32, 48, 32, 32, 48]) .nil)))))) (.cons (.ret (.tup (.cons (.bin .add (.lst (.cons (.ix (.v 8) (.call .l_take (.cons (.v 0) (.cons (.int 9) .nil)))) .nil)) (.sl (.v 5) (.cons (.int 1) .nil) .nil)) (.cons (.int 0) .nil)))) .nil))) .nil) (.cons (.iff (.cmp .gt (.v 7) (.int 3)) (.cons (.set 9 (.call .l_take (.cons (.v 0) (.cons (.b1 .len (.v 5)) .nil)))) (.cons (.set 10 (.ife (.cmp .eq (.v 7) (.int 4)) (.call .l_spoilt (.cons (.v 0) (.cons (.ix (.v 5) (.v 9)) .nil))) (.ix (.v 5) (.v 9)))) (.cons (.ret (.tup (.cons (.bin .add (.bin .add (.sl (.v 5) .nil (.cons (.v 9) .nil)) (.lst (.cons (.v 10) .nil))) (.sl (.v 5) (.cons (.bin .add (.v 9) (.call .l_take (.cons (.v 0) (.cons (.int 2) .nil)))) .nil) .nil)) (.cons (.neg (.int 1)) .nil)))) .nil))) .nil) (.cons (.ret (.tup (.cons (.v 5) (.cons (.neg (.int 1)) .nil)))) .nil)))))))))
def b_law_k16 : Sms := (.cons (.set 1 (.call .l_begun (.cons (.v 0) .nil))) (.cons (.unp [2, 3] (.call .l_text_of (.cons (.v 1) .nil))) (.cons (.set 4 (.m1 .join (.str [10]) (.v 2))) (.cons (.try_ (.cons (.set 5 (.call .read_notes (.cons (.v 4) .nil))) .nil) .table (some 6) (.cons (.iff (.or (.not (.isE .note)) (.or (.isE .cell) (.not .isVE))) (.cons (.ret (.bl false)) .nil) .nil) (.cons (.iff (.or (.not (.b1 (.isi .int) .eRow)) (.or (.b1 (.isi .bool) .eRow) (.not (.chn .le .lt (.int 0) .eRow (.b1 .len (.v 2)))))) (.cons (.ret (.bl false)) .nil) .nil) (.cons (.ret (.or (.cmp .lt (.v 3) (.int 1)) (.cmp .eq .eRow (.v 3)))) .nil)))) (.cons (.ret (.and (.cmp .lt (.v 3) (.int 0)) (.cmp .eq (.call .written (.cons (.v 5) .nil)) (.v 4)))) .nil)))))
def b_l_number : Sms := (.cons (.iff (.or (.not (.chn .le .le (.int 1) (.b1 .len (.v 0)) (.int 6))) (.cmp .ne (.lc 1 (.seq (.v 0)) (.cons (.cmp .notin (.v 1) (.str [48, 49, 50, 51, 52, 53, 54, 55, 56, 57])) .nil) (.v 1)) (.lst .nil))) (.cons (.ret .non) .nil) .nil) (.cons (.ret (.ife (.cmp .eq (.b1 .str (.b1 .int (.v 0))) (.v 0)) (.b1 .int (.v 0)) .non)) .nil))
def b_l_places : Sms := (.cons (.set 1 (.m1 .split (.v 0) (.str [32]))) (.cons (.set 2 (.lc 3 (.seq (.sl (.v 1) (.cons (.int 1) .nil) .nil)) .nil (.call .l_number (.cons (.v 3) .nil)))) (.cons (.ret (.ife (.and (.cmp .eq (.ix (.v 1) (.int 0)) (.str [104, 97, 110, 100, 115])) (.and (.chn .le .le (.int 1) (.b1 .len (.v 2)) (.int 4)) (.cmp .notin .non (.v 2)))) (.v 2) .non)) .nil)))
def b_l_told_k17 : Sms := (.cons (.unp [1, 2] (.tup (.cons .non (.cons .non .nil)))) (.cons (.try_ (.cons (.set 1 (.meth .tr_many (.call .read_notes (.cons (.m1 .join (.str [10]) (.v 0)) .nil)) .nil)) .nil) .note (some 3) (.cons (.set 2 .eRow) .nil)) (.cons (.ret (.tup (.cons (.v 1) (.cons (.v 2) .nil)))) .nil)))
def b_law_k17 : Sms := (.cons (.set 1 (.call .l_begun (.cons (.v 0) .nil))) (.cons (.unp [2, 3] (.call .l_text_of (.cons (.v 1) .nil))) (.cons (.iff (.and (.cmp .gt (.v 3) (.int 0)) (.cmp .eq (.call .l_take (.cons (.v 1) (.cons (.int 2) .nil))) (.int 0))) (.cons (.set 4 (.call .l_take (.cons (.v 1) (.cons (.b1 .len (.v 2)) .nil)))) (.cons (.set 2 (.bin .add (.bin .add (.sl (.v 2) .nil (.cons (.v 4) .nil)) (.lst (.cons (.call .l_spoilt (.cons (.v 1) (.cons (.ix (.v 2) (.v 4)) .nil))) .nil))) (.sl (.v 2) (.cons (.bin .add (.v 4) (.int 1)) .nil) .nil))) .nil)) .nil) (.cons (.set 5 (.call .l_places (.cons (.ix (.v 2) (.int 0)) .nil))) (.cons (.unp [6, 7] (.call .l_told_k17 (.cons (.v 2) .nil))) (.cons (.iff (.cmp .isN (.v 5) .non) (.cons (.ret (.cmp .eq (.v 7) (.int 0))) .nil) .nil) (.cons (.set 8 (.lst (.cons (.bin .add (.str [104, 97, 110, 100, 115]) (.bin .mul (.str [32, 48]) (.b1 .len (.v 5)))) .nil))) (.cons (.iff (.or (.cmp .isN (.v 7) .non) (.cmp .eq (.v 7) (.int 0))) (.cons (.set 9 (.lc 10 (.seq (.v 5)) (.cons (.cmp .ge (.v 10) (.b1 .len (.v 2))) .nil) (.v 10))) (.cons (.ret (.and (.cmp .eq (.call .l_told_k17 (.cons (.bin .add (.v 8) (.sl (.v 2) (.cons (.int 1) .nil) .nil)) .nil)) (.tup (.cons (.b1 .len (.v 2)) (.cons .non .nil)))) (.cmp .eq (.cmp .ne (.v 9) (.lst .nil)) (.cmp .eq (.v 7) (.int 0))))) .nil)) .nil) (.cons (.iff (.cmp .ne (.call .l_told_k17 (.cons (.bin .add (.v 8) (.sl (.v 2) (.cons (.int 1) .nil) (.cons (.v 7) .nil))) .nil)) (.tup (.cons (.v 7) (.cons .non .nil)))) (.cons (.ret (.bl false)) .nil) .nil) (.cons (.ret (.cmp .eq (.call .l_told_k17 (.cons (.bin .add (.v 8) (.sl (.v 2) (.cons (.int 1) .nil) (.cons (.bin .add (.v 7) (.int 1)) .nil))) .nil)) (.tup (.cons .non (.cons (.v 7) .nil))))) .nil))))))))))
def bodyOf : Fn → FD
  | .need_cell => ⟨1, 1, b_need_cell⟩
  | .place_of => ⟨1, 1, b_place_of⟩
  | .cell_at => ⟨2, 2, b_cell_at⟩
  | .stretch => ⟨2, 7, b_stretch⟩
  | .shifted => ⟨2, 4, b_shifted⟩
  | .l_begun => ⟨1, 3, b_l_begun⟩
  | .l_take => ⟨2, 3, b_l_take⟩
  | .l_alike => ⟨2, 3, b_l_alike⟩
  | .l_cell => ⟨1, 1, b_l_cell⟩
  | .l_stretch => ⟨2, 7, b_l_stretch⟩
  | .l_down => ⟨2, 3, b_l_down⟩
  | .l_told => ⟨0, 0, .nil⟩
  | .law_k01 => ⟨0, 0, .nil⟩
  | .number_of => ⟨1, 3, b_number_of⟩
  | .rd_init => ⟨2, 2, b_rd_init⟩
  | .rd_word => ⟨1, 1, b_rd_word⟩
  | .rd_cell => ⟨1, 2, b_rd_cell⟩
  | .rd_part => ⟨2, 6, b_rd_part⟩
  | .read => ⟨1, 5, b_read⟩
  | .part_text => ⟨1, 3, b_part_text⟩
  | .text_of => ⟨1, 1, b_text_of⟩
  | .read_cells => ⟨1, 4, b_read_cells⟩
  | .l_part => ⟨2, 6, b_l_part⟩
  | .l_content => ⟨2, 4, b_l_content⟩
  | .l_part_text => ⟨1, 2, b_l_part_text⟩
  | .l_text => ⟨1, 1, b_l_text⟩
  | .l_reads => ⟨1, 4, b_l_reads⟩
  | .law_k02 => ⟨1, 8, b_law_k02⟩
  | .l_deep => ⟨2, 4, b_l_deep⟩
  | .l_text_of_k03 => ⟨1, 8, b_l_text_of_k03⟩
  | .l_good_cell => ⟨1, 1, b_l_good_cell⟩
  | .l_good => ⟨2, 6, b_l_good⟩
  | .law_k03 => ⟨1, 5, b_law_k03⟩
  | .is_odd => ⟨1, 1, b_is_odd⟩
  | .leaning => ⟨1, 3, b_leaning⟩
  | .come_to => ⟨2, 5, b_come_to⟩
  | .rk_init => ⟨3, 5, b_rk_init⟩
  | .rk_value => ⟨2, 2, b_rk_value⟩
  | .rk_worth => ⟨2, 3, b_rk_worth⟩
  | .rk_added => ⟨2, 4, b_rk_added⟩
  | .rk_joined => ⟨4, 5, b_rk_joined⟩
  | .rk_picked => ⟨2, 4, b_rk_picked⟩
  | .rk_every => ⟨1, 3, b_rk_every⟩
  | .values => ⟨1, 1, b_values⟩
  | .l_led => ⟨2, 5, b_l_led⟩
  | .l_two => ⟨3, 5, b_l_two⟩
  | .l_value => ⟨3, 7, b_l_value⟩
  | .l_worth => ⟨3, 3, b_l_worth⟩
  | .l_values => ⟨1, 4, b_l_values⟩
  | .l_contents => ⟨1, 4, b_l_contents⟩
  | .l_same => ⟨2, 3, b_l_same⟩
  | .law_k04 => ⟨1, 6, b_law_k04⟩
  | .touched => ⟨2, 6, b_touched⟩
  | .renewed => ⟨3, 6, b_renewed⟩
  | .law_k05 => ⟨1, 14, b_law_k05⟩
  | .moved => ⟨2, 5, b_moved⟩
  | .uses => ⟨1, 2, b_uses⟩
  | .made => ⟨2, 4, b_made⟩
  | .changes => ⟨2, 5, b_changes⟩
  | .done => ⟨2, 6, b_done⟩
  | .l_deed => ⟨1, 4, b_l_deed⟩
  | .l_uses => ⟨1, 2, b_l_uses⟩
  | .l_moved => ⟨2, 6, b_l_moved⟩
  | .l_changes => ⟨3, 6, b_l_changes⟩
  | .l_with => ⟨2, 6, b_l_with⟩
  | .l_told_k06 => ⟨0, 0, .nil⟩
  | .law_k06 => ⟨0, 0, .nil⟩
  | .need_deed => ⟨1, 1, b_need_deed⟩
  | .pt_init => ⟨5, 5, b_pt_init⟩
  | .tr_init => ⟨2, 3, b_tr_init⟩
  | .tr_need_hand => ⟨2, 2, b_tr_need_hand⟩
  | .tr_need_point => ⟨2, 2, b_tr_need_point⟩
  | .tr_grow => ⟨4, 8, b_tr_grow⟩
  | .tr_do => ⟨3, 3, b_tr_do⟩
  | .tr_here => ⟨2, 2, b_tr_here⟩
  | .tr_told => ⟨2, 3, b_tr_told⟩
  | .tr_many => ⟨1, 1, b_tr_many⟩
  | .tr_table => ⟨2, 2, b_tr_table⟩
  | .tr_worths => ⟨2, 2, b_tr_worths⟩
  | .tr_trail => ⟨2, 3, b_tr_trail⟩
  | .tr_fork => ⟨3, 6, b_tr_fork⟩
  | .tr_road => ⟨3, 8, b_tr_road⟩
  | .tr_go => ⟨3, 4, b_tr_go⟩
  | .l_done => ⟨3, 3, b_l_done⟩
  | .l_is_told => ⟨2, 7, b_l_is_told⟩
  | .law_k07 => ⟨1, 13, b_law_k07⟩
  | .tr_stepped => ⟨3, 8, b_tr_stepped⟩
  | .last_change => ⟨3, 5, b_last_change⟩
  | .leans => ⟨2, 6, b_leans⟩
  | .fallen => ⟨3, 6, b_fallen⟩
  | .without => ⟨5, 11, b_without⟩
  | .l_many => ⟨1, 1, b_l_many⟩
  | .l_grown => ⟨3, 11, b_l_grown⟩
  | .l_trail => ⟨2, 3, b_l_trail⟩
  | .l_last => ⟨3, 6, b_l_last⟩
  | .l_leans => ⟨2, 6, b_l_leans⟩
  | .l_fallen => ⟨3, 6, b_l_fallen⟩
  | .l_regrown => ⟨4, 11, b_l_regrown⟩
  | .l_far => ⟨3, 7, b_l_far⟩
  | .law_k08 => ⟨1, 17, b_law_k08⟩
  | .reads => ⟨2, 12, b_reads⟩
  | .clashing => ⟨3, 6, b_clashing⟩
  | .joined => ⟨4, 15, b_joined⟩
  | .l_refusal => ⟨0, 0, .nil⟩
  | .l_at_points => ⟨0, 0, .nil⟩
  | .l_at_hands => ⟨4, 4, b_l_at_hands⟩
  | .l_at_first => ⟨0, 0, .nil⟩
  | .l_bad_deed => ⟨2, 4, b_l_bad_deed⟩
  | .law_k09 => ⟨0, 0, .nil⟩
  | .l_led_k10 => ⟨2, 5, b_l_led_k10⟩
  | .l_read_points => ⟨2, 9, b_l_read_points⟩
  | .law_k10 => ⟨1, 8, b_law_k10⟩
  | .l_taken => ⟨4, 4, b_l_taken⟩
  | .l_table => ⟨3, 5, b_l_table⟩
  | .l_is_done => ⟨5, 9, b_l_is_done⟩
  | .law_k11 => ⟨1, 18, b_law_k11⟩
  | .l_content_of => ⟨1, 1, b_l_content_of⟩
  | .law_k12 => ⟨1, 17, b_law_k12⟩
  | .l_joined => ⟨3, 15, b_l_joined⟩
  | .law_k13 => ⟨1, 19, b_law_k13⟩
  | .law_k14 => ⟨1, 20, b_law_k14⟩
  | .deed_text => ⟨1, 1, b_deed_text⟩
  | .written => ⟨1, 7, b_written⟩
  | .count_of => ⟨1, 2, b_count_of⟩
  | .deed_of => ⟨1, 9, b_deed_of⟩
  | .put_row => ⟨2, 7, b_put_row⟩
  | .read_notes => ⟨1, 9, b_read_notes⟩
  | .l_deed_text => ⟨1, 1, b_l_deed_text⟩
  | .l_rows => ⟨2, 9, b_l_rows⟩
  | .l_is_same => ⟨3, 5, b_l_is_same⟩
  | .law_k15 => ⟨1, 9, b_law_k15⟩
  | .l_none => ⟨1, 3, b_l_none⟩
  | .l_spoilt => ⟨2, 6, b_l_spoilt⟩
  | .l_text_of => ⟨1, 11, b_l_text_of⟩
  | .law_k16 => ⟨1, 7, b_law_k16⟩
  | .l_number => ⟨1, 2, b_l_number⟩
  | .l_places => ⟨1, 4, b_l_places⟩
  | .l_told_k17 => ⟨1, 4, b_l_told_k17⟩
  | .law_k17 => ⟨1, 11, b_law_k17⟩
abbrev callF (hot : Bool) (k : Nat) : Fn → List D → Sto → Res D := (levF bodyOf hot k).1
theorem callF_succ (hot : Bool) (k : Nat) (f : Fn) : callF hot (k + 2) f = runF bodyOf ⟨hot, callF hot (k + 1), callF hot k⟩ f := by
  show runF bodyOf ⟨hot, (levF bodyOf hot (k + 1)).1, (levF bodyOf hot (k + 1)).2⟩ f = _
  rw [levF_snd]
end Mi
end

section
set_option linter.all false
set_option maxRecDepth 100000
set_option Elab.async false
/-! the interpreter's data against the hand layer's: relations, the guarantee, the wish behind a run -/
namespace Mi
open PySem PySem.Spec L2
open PyProof.Rows hiding St

/-! ### lists in pairs -/
section
variable {α β : Type} {F G : α → β → Prop}
theorem pr_get : ∀ {xs : List α} {ys : List β} {i : Nat} {x : α}, Paired F xs ys → xs[i]? = some x → ∃ y, ys[i]? = some y ∧ F x y
  | _, _, _, _, .nil, e => by simp at e
  | _, _, 0, _, .cons r _, e => by simp at e; subst e; exact ⟨_, rfl, r⟩
  | _, _, i + 1, x, .cons _ t, e => by
    obtain ⟨u, h1, h2⟩ := pr_get (i := i) (x := x) t (by simpa using e)
    exact ⟨u, by simpa using h1, h2⟩
theorem pr_imp : ∀ {xs : List α} {ys : List β}, Paired F xs ys → (∀ x y, F x y → G x y) → Paired G xs ys
  | _, _, .nil, _ => .nil
  | _, _, .cons r t, h => .cons (h _ _ r) (pr_imp t h)
theorem pr_len {xs : List α} {ys : List β} (h : Paired F xs ys) : xs.length = ys.length := PySem.Paired.length h
theorem pr_app : ∀ {xs zs : List α} {ys ws : List β}, Paired F xs ys → Paired F zs ws → Paired F (xs ++ zs) (ys ++ ws)
  | _, _, _, _, .nil, s => s
  | _, _, _, _, .cons r t, s => .cons r (pr_app t s)
theorem pr_take : ∀ {xs : List α} {ys : List β} (n : Nat), Paired F xs ys → Paired F (xs.take n) (ys.take n)
  | _, _, 0, _ => by simpa using .nil
  | _, _, _ + 1, .nil => .nil
  | _, _, n + 1, .cons r t => .cons r (pr_take n t)
theorem pr_drop : ∀ {xs : List α} {ys : List β} (n : Nat), Paired F xs ys → Paired F (xs.drop n) (ys.drop n)
  | _, _, 0, r => by simpa using r
  | _, _, _ + 1, .nil => .nil
  | _, _, n + 1, .cons _ t => pr_drop n t
theorem pr_set {x : α} {y : β} (r : F x y) : ∀ {xs : List α} {ys : List β} (i : Nat), Paired F xs ys → Paired F (xs.set i x) (ys.set i y)
  | _, _, _, .nil => .nil
  | _, _, 0, .cons _ t => .cons r t
  | _, _, i + 1, .cons q t => .cons q (pr_set r i t)
theorem pr_erase : ∀ {xs : List α} {ys : List β} (i : Nat), Paired F xs ys → Paired F (xs.eraseIdx i) (ys.eraseIdx i)
  | _, _, _, .nil => .nil
  | _, _, 0, .cons _ t => t
  | _, _, i + 1, .cons q t => .cons q (pr_erase i t)
theorem pr_dropLast : ∀ {xs : List α} {ys : List β}, Paired F xs ys → Paired F xs.dropLast ys.dropLast
  | _, _, .nil => .nil
  | _, _, .cons r .nil => .nil
  | _, _, .cons r (.cons q t) => .cons r (pr_dropLast (.cons q t))
theorem pr_rev : ∀ {xs : List α} {ys : List β}, Paired F xs ys → Paired F xs.reverse ys.reverse
  | _, _, .nil => .nil
  | _, _, .cons r t => by
    rw [List.reverse_cons, List.reverse_cons]
    exact pr_app (pr_rev t) (.cons r .nil)
theorem pr_rep {xs : List α} {ys : List β} (h : Paired F xs ys) : ∀ k : Nat, Paired F (List.replicate k xs).flatten (List.replicate k ys).flatten
  | 0 => .nil
  | k + 1 => by
    rw [List.replicate_succ, List.replicate_succ, List.flatten_cons, List.flatten_cons]
    exact pr_app h (pr_rep h k)
theorem pr_nil {ys : List β} (h : Paired F ([] : List α) ys) : ys = [] := by cases h; rfl
theorem pr_cons {x : α} {xs : List α} {ys : List β} (h : Paired F (x :: xs) ys) : ∃ y r, ys = y :: r ∧ F x y ∧ Paired F xs r := by
  cases h with
  | cons r t => exact ⟨_, _, rfl, r, t⟩
theorem pr_of_map {γ : Type} {f : γ → α} {g : γ → β} (h : ∀ c, F (f c) (g c)) : ∀ l : List γ, Paired F (l.map f) (l.map g)
  | [] => .nil
  | c :: r => .cons (h c) (pr_of_map h r)
end

/-! ### texts -/
def sx (t : Tx) : Str := ⟨t.toArray⟩
theorem sx_tl (t : Tx) : (sx t).cps.toList = t := rfl
theorem sx_len (t : Tx) : (sx t).length = t.length := by simp [sx, Str.length]
theorem sx_inj {a b : Tx} (h : sx a = sx b) : a = b := by
  have := congrArg (fun z : Str => z.cps.toList) h
  simpa [sx] using this
theorem sx_eq {a b : Tx} : sx a = sx b ↔ a = b := ⟨sx_inj, fun h => by rw [h]⟩
theorem sx_app (a b : Tx) : sx (a ++ b) = sx a ++ sx b := by
  apply TL.ext_tl
  rw [TL.tl_append]
  rfl

/-! ### values -/
section
variable (K : PySem.W.Frag) (ρ : List Addr) (H : Hp)
mutual
def RV : D → V → Prop
  | .non, v => v = .non
  | .bl b, v => v = .bl b
  | .int i, v => v = .int i
  | .str t, v => v = .str (sx t)
  | .ref l, v => ∃ a, ρ[l]? = some a ∧ v = .ref a
  | .tup ds, v => ∃ a xs, v = .ref a ∧ SqT K H a xs ∧ RVs ds xs
def RVs : List D → List V → Prop
  | [], xs => xs = []
  | d :: r, xs => ∃ v vs, xs = v :: vs ∧ RV d v ∧ RVs r vs
end
end
section
variable {K : PySem.W.Frag} {ρ ρ' ρ1 ρ2 : List Addr} {H H' H1 H2 : Hp}
mutual
theorem RV.mono (hp : ∀ (l : Nat) (a : Addr), ρ[l]? = some a → ρ'[l]? = some a) (ht : ∀ b xs, SqT K H b xs → SqT K H' b xs) : ∀ {d : D} {v : V}, RV K ρ H d v → RV K ρ' H' d v
  | .non, _, h => h
  | .bl _, _, h => h
  | .int _, _, h => h
  | .str _, _, h => h
  | .ref _, _, ⟨a, e, h⟩ => ⟨a, hp _ _ e, h⟩
  | .tup _, _, ⟨a, xs, e, q, h⟩ => ⟨a, xs, e, ht _ _ q, RVs.mono hp ht h⟩
theorem RVs.mono (hp : ∀ (l : Nat) (a : Addr), ρ[l]? = some a → ρ'[l]? = some a) (ht : ∀ b xs, SqT K H b xs → SqT K H' b xs) : ∀ {ds : List D} {vs : List V}, RVs K ρ H ds vs → RVs K ρ' H' ds vs
  | [], _, h => h
  | _ :: _, _, ⟨v, vs, e, q, h⟩ => ⟨v, vs, e, RV.mono hp ht q, RVs.mono hp ht h⟩
end
theorem RVs_iff : ∀ {ds : List D} {vs : List V}, RVs K ρ H ds vs ↔ Paired (RV K ρ H) ds vs
  | [], vs => ⟨fun h => by have h : vs = [] := h; subst h; exact .nil, fun h => by cases h; rfl⟩
  | d :: r, vs => ⟨fun ⟨v, ws, e, q, h⟩ => by subst e; exact .cons q (RVs_iff.mp h), fun h => by cases h with | cons q t => exact ⟨_, _, rfl, q, RVs_iff.mpr t⟩⟩
theorem RVs.len {ds : List D} {vs : List V} (h : RVs K ρ H ds vs) : ds.length = vs.length := pr_len (RVs_iff.mp h)
theorem RVs.nil : RVs K ρ H [] [] := rfl
theorem RVs.cons {d : D} {v : V} {ds : List D} {vs : List V} (h : RV K ρ H d v) (t : RVs K ρ H ds vs) : RVs K ρ H (d :: ds) (v :: vs) := ⟨_, _, rfl, h, t⟩
theorem RVs.one {d : D} {v : V} (h : RV K ρ H d v) : RVs K ρ H [d] [v] := .cons h .nil
/-- ints -/
theorem RVs.ints : ∀ {ns : List Int} {vs : List V}, RVs K ρ H (ofI ns) vs → vs = ns.map V.int
  | [], vs, h => h
  | n :: r, vs, ⟨v, ws, e, q, h⟩ => by
    have q : v = .int n := q
    rw [e, q, RVs.ints (ns := r) h]; rfl
theorem RVs.txts : ∀ {ns : List Tx} {vs : List V}, RVs K ρ H (ofT ns) vs → vs = (ns.map sx).map V.str
  | [], vs, h => h
  | n :: r, vs, ⟨v, ws, e, q, h⟩ => by
    have q : v = .str (sx n) := q
    rw [e, q, RVs.txts (ns := r) h]; rfl
theorem RVs.of_ints : ∀ {ns : List Int}, RVs K ρ H (ofI ns) (ns.map V.int)
  | [] => rfl
  | n :: r => .cons rfl RVs.of_ints
theorem RVs.of_txts : ∀ {ns : List Tx}, RVs K ρ H (ofT ns) ((ns.map sx).map V.str)
  | [] => rfl
  | n :: r => .cons rfl RVs.of_txts
end

/-! ### the store -/
structure GA where
  ca : Cl → Addr
  ea : Ec → Addr
def fstr : Fd → Str
  | .words => "words" | .at_ => "at" | .contents => "contents" | .seen => "seen" | .rings => "rings" | .parent => "parent"
  | .hand => "hand" | .deed => "deed" | .changed => "changed" | .known => "known" | .points => "points" | .places => "places"
theorem fstr_inj {a b : Fd} (h : fstr a = fstr b) : a = b := by
  revert h
  cases a <;> cases b <;> decide
def kx : Ky → Key
  | .i n => .inl n
  | .s t => .inr (sx t)
theorem kx_inj {a b : Ky} (h : kx a = kx b) : a = b := by
  cases a with
  | i n => cases b with
    | i m => simp only [kx] at h; cases h; rfl
    | s t => simp only [kx] at h; cases h
  | s t => cases b with
    | i m => simp only [kx] at h; cases h
    | s u => simp only [kx] at h; have := Sum.inr.inj h; rw [sx_inj this]
theorem kx_eq {a b : Ky} : kx a = kx b ↔ a = b := ⟨kx_inj, fun h => by rw [h]⟩
theorem kx_V {K : PySem.W.Frag} {ρ : List Addr} {H : Hp} (k : Ky) : RV K ρ H k.d (kV (kx k)) := by
  cases k <;> exact rfl
theorem key_rel {K : PySem.W.Frag} {ρ : List Addr} {H : Hp} {d : D} {k : Ky} {v : V} (h : d.key = some k) (r : RV K ρ H d v) : v = kV (kx k) := by
  cases d <;> simp only [D.key] at h <;> cases h <;> exact r

section
variable (K : PySem.W.Frag) (T : GA) (ρ : List Addr) (H : Hp)
abbrev RK (kvs : List (Ky × D)) (ks : List (Key × V)) : Prop := Paired (fun p q => q.1 = kx p.1 ∧ RV K ρ H p.2 q.2) kvs ks
abbrev RF (fs : List (Fd × D)) (gs : List (Str × V)) : Prop := Paired (fun p q => q.1 = fstr p.1 ∧ RV K ρ H p.2 q.2) fs gs
/-- an object at a -/
def RO (a : Addr) : Ob → Prop
  | .lst ds => ∃ xs, H a = some (.lst xs) ∧ Paired (RV K ρ H) ds xs
  | .frl ds => ∃ o xs, H a = some (.frz o (.lst xs)) ∧ Paired (RV K ρ H) ds xs
  | .dct kvs => ∃ ks, H a = some (.dK ks) ∧ RK K ρ H kvs ks
  | .frd kvs => ∃ o ks, H a = some (.frz o (.dK ks)) ∧ RK K ρ H kvs ks
  | .ins c fs => ∃ dx gs, H a = some (.ins (T.ca c) dx gs) ∧ RF K ρ H fs gs
structure RS (S : Sto) : Prop where
  len : ρ.length = S.length
  nd : ρ.Nodup
  at_ : ∀ (l : Nat) (o : Ob) (a : Addr), S[l]? = some o → ρ[l]? = some a → RO K T ρ H a o
end
/-- what is guaranteed from one state to a later one -/
structure Gu (K : PySem.W.Frag) (ρ ρ' : List Addr) (H H' : Hp) : Prop where
  pre : ∀ (l : Nat) (a : Addr), ρ[l]? = some a → ρ'[l]? = some a
  tup : ∀ (b : Addr) (xs : List V), SqT K H b xs → SqT K H' b xs
  keep : ∀ b o, H b = some o → b ∉ ρ → H' b = some o
  new : ∀ b ∈ ρ', b ∈ ρ ∨ H b = none
  frz : ∀ (b : Addr) (o : Obj) (u : HO), H b = some (.frz o u) → H' b = some (.frz o u)
def notFrz : HO → Bool
  | .frz _ _ => false
  | _ => true
theorem nfz {H : Hp} {a : Addr} {w : HO} (h : H a = some w) (n : notFrz w = true) : ∀ o u, H a ≠ some (.frz o u) := fun o u z => by
  rw [h] at z
  cases z
  cases n
section
variable {K : PySem.W.Frag} {T : GA} {ρ ρ' ρ1 ρ2 : List Addr} {H H' H1 H2 : Hp} {S : Sto} {a : Addr} {o : Ob}
theorem Gu.refl : Gu K ρ ρ H H := ⟨fun _ _ e => e, fun _ _ q => q, fun _ _ e _ => e, fun _ h => .inl h, fun _ _ _ e => e⟩
theorem Gu.trans (g : Gu K ρ ρ1 H H1) (g' : Gu K ρ1 ρ2 H1 H2) : Gu K ρ ρ2 H H2 where
  pre := fun l a e => g'.pre l a (g.pre l a e)
  tup := fun b xs q => g'.tup b xs (g.tup b xs q)
  keep := fun b o e n => g'.keep b o (g.keep b o e n) fun m => by
    rcases g.new b m with m | m
    · exact n m
    · rw [e] at m; cases m
  new := fun b m => by
    rcases g'.new b m with m | m
    · exact g.new b m
    · by_cases hb : b ∈ ρ
      · exact .inl hb
      · right
        cases q : H b with
        | none => rfl
        | some u => rw [g.keep b u q hb] at m; cases m
  frz := fun b o u e => g'.frz b o u (g.frz b o u e)
theorem RV.up {d : D} {v : V} (g : Gu K ρ ρ' H H') (h : RV K ρ H d v) : RV K ρ' H' d v := h.mono g.pre g.tup
theorem RVs.up {ds : List D} {vs : List V} (g : Gu K ρ ρ' H H') (h : RVs K ρ H ds vs) : RVs K ρ' H' ds vs := h.mono g.pre g.tup
theorem RVp.up {ds : List D} {vs : List V} (g : Gu K ρ ρ' H H') (h : Paired (RV K ρ H) ds vs) : Paired (RV K ρ' H') ds vs := pr_imp h fun _ _ q => q.up g
theorem RK.up {kvs : List (Ky × D)} {ks : List (Key × V)} (g : Gu K ρ ρ' H H') (h : RK K ρ H kvs ks) : RK K ρ' H' kvs ks := pr_imp h fun _ _ q => ⟨q.1, q.2.up g⟩
theorem RF.up {fs : List (Fd × D)} {gs : List (Str × V)} (g : Gu K ρ ρ' H H') (h : RF K ρ H fs gs) : RF K ρ' H' fs gs := pr_imp h fun _ _ q => ⟨q.1, q.2.up g⟩
theorem RO.up (g : Gu K ρ ρ' H H') (e : H' a = H a) (h : RO K T ρ H a o) : RO K T ρ' H' a o := by
  cases o with
  | lst ds => obtain ⟨xs, q, r⟩ := h; exact ⟨xs, e.trans q, RVp.up g r⟩
  | frl ds => obtain ⟨ob, xs, q, r⟩ := h; exact ⟨ob, xs, e.trans q, RVp.up g r⟩
  | dct ds => obtain ⟨xs, q, r⟩ := h; exact ⟨xs, e.trans q, RK.up g r⟩
  | frd ds => obtain ⟨ob, xs, q, r⟩ := h; exact ⟨ob, xs, e.trans q, RK.up g r⟩
  | ins c fs => obtain ⟨dx, gs, q, r⟩ := h; exact ⟨dx, gs, e.trans q, RF.up g r⟩
/-- an object of the store is tracked, and no tuple -/
theorem RO.some (h : RO K T ρ H a o) : ∃ u, H a = some u ∧ (∀ xs, u ≠ .tup xs) ∧ ∀ ob xs, u ≠ .frz ob (.tup xs) := by
  cases o with
  | lst ds => obtain ⟨xs, q, r⟩ := h; exact ⟨_, q, (fun _ z => nomatch z), fun _ _ z => nomatch z⟩
  | frl ds => obtain ⟨ob, xs, q, r⟩ := h; exact ⟨_, q, (fun _ z => nomatch z), fun _ _ z => nomatch z⟩
  | dct ds => obtain ⟨xs, q, r⟩ := h; exact ⟨_, q, (fun _ z => nomatch z), fun _ _ z => nomatch z⟩
  | frd ds => obtain ⟨ob, xs, q, r⟩ := h; exact ⟨_, q, (fun _ z => nomatch z), fun _ _ z => nomatch z⟩
  | ins c fs => obtain ⟨dx, gs, q, r⟩ := h; exact ⟨_, q, (fun _ z => nomatch z), fun _ _ z => nomatch z⟩
theorem RS.obj (rs : RS K T ρ H S) {l : Nat} (h : S[l]? = some o) : ∃ a, ρ[l]? = some a ∧ RO K T ρ H a o := by
  have hl : l < S.length := (List.getElem?_eq_some_iff.mp h).1
  have : l < ρ.length := by rw [rs.len]; exact hl
  exact ⟨ρ[l], by simp [this], rs.at_ l o _ h (by simp [this])⟩
theorem RS.back (rs : RS K T ρ H S) {l : Nat} (h : ρ[l]? = some a) : ∃ o, S[l]? = some o ∧ RO K T ρ H a o := by
  have hl : l < ρ.length := (List.getElem?_eq_some_iff.mp h).1
  have : l < S.length := by rw [← rs.len]; exact hl
  exact ⟨S[l], by simp [this], rs.at_ l _ a (by simp [this]) h⟩
theorem RS.mem (rs : RS K T ρ H S) (h : a ∈ ρ) : ∃ u, H a = some u ∧ (∀ xs, u ≠ .tup xs) ∧ ∀ ob xs, u ≠ .frz ob (.tup xs) := by
  obtain ⟨l, e⟩ := List.getElem?_of_mem h
  obtain ⟨o, _, r⟩ := rs.back e
  exact r.some
theorem nodup_at {l m : Nat} (h : ρ.Nodup) (e : ρ[l]? = some a) (e' : ρ[m]? = some a) : l = m := by
  obtain ⟨h1, h2⟩ := List.getElem?_eq_some_iff.mp e
  obtain ⟨h3, h4⟩ := List.getElem?_eq_some_iff.mp e'
  have p := List.pairwise_iff_getElem.mp h
  rcases Nat.lt_trichotomy l m with z | z | z
  · exact absurd (h2.trans h4.symm) (p l m h1 h3 z)
  · exact z
  · exact absurd (h4.trans h2.symm) (p m l h3 h1 z)
theorem SqT_upd_new {p : Addr} {u : HO} {b : Addr} {xs : List V} (hp : H p = none) (q : SqT K H b xs) : SqT K (upd H p u) b xs := by
  rcases q with (q | ⟨o, q⟩) | q
  · exact .inl (.inl (by rw [upd_ne (ne_of_none q hp)]; exact q))
  · exact .inl (.inr ⟨o, by rw [upd_ne (ne_of_none q hp)]; exact q⟩)
  · exact .inr q
/-- a new object that the store does not know: a tuple, an instance's dict -/
theorem Gu.aside {p : Addr} {u : HO} (hp : H p = none) : Gu K ρ ρ H (upd H p u) where
  pre := fun _ _ e => e
  tup := fun b xs q => SqT_upd_new hp q
  keep := fun b o e _ => by rw [upd_ne (ne_of_none e hp)]; exact e
  new := fun _ h => .inl h
  frz := fun b o u e => by rw [upd_ne (ne_of_none e hp)]; exact e
theorem RS.aside {p : Addr} {u : HO} (hp : H p = none) (rs : RS K T ρ H S) : RS K T ρ (upd H p u) S where
  len := rs.len
  nd := rs.nd
  at_ := fun l o a e q => by
    have r := rs.at_ l o a e q
    obtain ⟨w, hw, _⟩ := r.some
    exact r.up (Gu.aside hp) (upd_ne (ne_of_none hw hp))
/-- a new object of the store -/
theorem Gu.fresh {p : Addr} {u : HO} (hp : H p = none) : Gu K ρ (ρ ++ [p]) H (upd H p u) where
  pre := fun l a e => by rw [List.getElem?_append_left (List.getElem?_eq_some_iff.mp e).1]; exact e
  tup := fun b xs q => SqT_upd_new hp q
  keep := fun b o e _ => by rw [upd_ne (ne_of_none e hp)]; exact e
  new := fun b h => by
    rcases List.mem_append.mp h with h | h
    · exact .inl h
    · simp at h; subst h; exact .inr hp
  frz := fun b o u e => by rw [upd_ne (ne_of_none e hp)]; exact e
theorem RS.fresh {p : Addr} {u : HO} (hp : H p = none) (rs : RS K T ρ H S) (ho : RO K T (ρ ++ [p]) (upd H p u) p o) : RS K T (ρ ++ [p]) (upd H p u) (S ++ [o]) where
  len := by rw [List.length_append, List.length_append, rs.len]; rfl
  nd := by
    refine List.nodup_append.mpr ⟨rs.nd, by simp, fun b hb c hc => ?_⟩
    simp at hc; subst hc
    intro e; subst e
    obtain ⟨w, hw, _⟩ := rs.mem hb
    rw [hp] at hw; cases hw
  at_ := fun l o' a' e q => by
    by_cases hl : l < S.length
    · rw [List.getElem?_append_left hl] at e
      rw [List.getElem?_append_left (by rw [rs.len]; exact hl)] at q
      have r := rs.at_ l o' a' e q
      obtain ⟨w, hw, _⟩ := r.some
      exact r.up (Gu.fresh hp) (upd_ne (ne_of_none hw hp))
    · have hl' : l = S.length := by
        have := (List.getElem?_eq_some_iff.mp e).1
        rw [List.length_append] at this
        simp at this; omega
      subst hl'
      have e : o = o' := by simpa using e
      rw [← rs.len] at q
      have q : p = a' := by simpa using q
      subst e q
      exact ho
theorem fresh_at {S : Sto} (rs : RS K T ρ H S) {p : Addr} : (ρ ++ [p])[S.length]? = some p := by rw [← rs.len]; simp
/-- an object of the store is written -/
theorem Gu.write {l : Nat} {u : HO} (rs : RS K T ρ H S) (e : ρ[l]? = some a) (nf : ∀ o u, H a ≠ some (.frz o u)) : Gu K ρ ρ H (upd H a u) where
  frz := fun b o w z => by rw [upd_ne fun c => by subst c; exact nf _ _ z]; exact z
  pre := fun _ _ e => e
  tup := fun b xs q => by
    obtain ⟨w, hw, n1, n2⟩ := rs.mem (List.mem_of_getElem? e)
    have hb : ∀ z, H b = some z → z ≠ w → b ≠ a := fun z hz n c => by subst c; rw [hw] at hz; exact n (Option.some.inj hz).symm
    rcases q with (q | ⟨o, q⟩) | q
    · exact .inl (.inl (by rw [upd_ne (hb _ q (fun z => n1 _ z.symm))]; exact q))
    · exact .inl (.inr ⟨o, by rw [upd_ne (hb _ q (fun z => n2 _ _ z.symm))]; exact q⟩)
    · exact .inr q
  keep := fun b o q n => by rw [upd_ne fun c => n (by rw [c]; exact List.mem_of_getElem? e)]; exact q
  new := fun _ h => .inl h
theorem RS.write {l : Nat} {u : HO} (rs : RS K T ρ H S) (e : ρ[l]? = some a) (nf : ∀ o u, H a ≠ some (.frz o u)) (ho : RO K T ρ (upd H a u) a o) : RS K T ρ (upd H a u) (S.set l o) where
  len := by rw [List.length_set]; exact rs.len
  nd := rs.nd
  at_ := fun m o' b q r => by
    by_cases h : m = l
    · subst h
      rw [e] at r; cases r
      have hl : m < S.length := by rw [← rs.len]; exact (List.getElem?_eq_some_iff.mp e).1
      rw [List.getElem?_set_self hl] at q; cases q
      exact ho
    · rw [List.getElem?_set_ne (Ne.symm h)] at q
      have z := rs.at_ m o' b q r
      refine z.up (Gu.write rs e nf) (upd_ne fun c => h ?_)
      subst c
      exact nodup_at rs.nd r e
/-- readings of the store -/
theorem RS.seqL (rs : RS K T ρ H S) {l : Nat} {ds : List D} (h : S.seq l = Option.some ds) : ∃ a xs, ρ[l]? = Option.some a ∧ Rd H a (.lst xs) ∧ Paired (RV K ρ H) ds xs := by
  unfold Sto.seq at h
  split at h <;> cases h <;> rename_i q <;> obtain ⟨a, e, r⟩ := rs.obj q
  · obtain ⟨xs, q, r⟩ := r; exact ⟨a, xs, e, .inl q, r⟩
  · obtain ⟨o, xs, q, r⟩ := r; exact ⟨a, xs, e, .inr ⟨o, q⟩, r⟩
theorem RS.lstL (rs : RS K T ρ H S) {l : Nat} {ds : List D} (h : S.lst l = Option.some ds) : ∃ a xs, ρ[l]? = Option.some a ∧ H a = Option.some (.lst xs) ∧ Paired (RV K ρ H) ds xs := by
  unfold Sto.lst at h
  split at h <;> cases h
  rename_i q; obtain ⟨a, e, r⟩ := rs.obj q
  obtain ⟨xs, q, r⟩ := r; exact ⟨a, xs, e, q, r⟩
theorem RS.dicL (rs : RS K T ρ H S) {l : Nat} {ds : List (Ky × D)} (h : S.dic l = Option.some ds) : ∃ a xs, ρ[l]? = Option.some a ∧ Rd H a (.dK xs) ∧ RK K ρ H ds xs := by
  unfold Sto.dic at h
  split at h <;> cases h <;> rename_i q <;> obtain ⟨a, e, r⟩ := rs.obj q
  · obtain ⟨xs, q, r⟩ := r; exact ⟨a, xs, e, .inl q, r⟩
  · obtain ⟨o, xs, q, r⟩ := r; exact ⟨a, xs, e, .inr ⟨o, q⟩, r⟩
theorem RS.dctL (rs : RS K T ρ H S) {l : Nat} {ds : List (Ky × D)} (h : S.dct l = Option.some ds) : ∃ a xs, ρ[l]? = Option.some a ∧ H a = Option.some (.dK xs) ∧ RK K ρ H ds xs := by
  unfold Sto.dct at h
  split at h <;> cases h
  rename_i q; obtain ⟨a, e, r⟩ := rs.obj q
  obtain ⟨xs, q, r⟩ := r; exact ⟨a, xs, e, q, r⟩
theorem RS.insL (rs : RS K T ρ H S) {l : Nat} {c : Cl} {fs : List (Fd × D)} (h : S.ins l = Option.some (c, fs)) : ∃ a dx gs, ρ[l]? = Option.some a ∧ H a = Option.some (.ins (T.ca c) dx gs) ∧ RF K ρ H fs gs := by
  unfold Sto.ins at h
  split at h <;> cases h
  rename_i q; obtain ⟨a, e, r⟩ := rs.obj q
  obtain ⟨dx, xs, q, r⟩ := r; exact ⟨a, dx, xs, e, q, r⟩
theorem Rd.sqL {xs : List V} (h : Rd H a (.lst xs)) : SqL K H a xs := .inl h
end

/-! ### tables -/
section
variable {K : PySem.W.Frag} {ρ : List Addr} {H : Hp} {kvs : List (Ky × D)} {ks : List (Key × V)} {k : Ky} {d : D} {v : V}
theorem RK.get : ∀ {kvs : List (Ky × D)} {ks : List (Key × V)}, RK K ρ H kvs ks → ∀ k, (kget kvs k = none ∧ valV ks (kx k) = none) ∨ ∃ d v, kget kvs k = some d ∧ valV ks (kx k) = some v ∧ RV K ρ H d v
  | [], _, .nil, k => .inl ⟨rfl, rfl⟩
  | (k0, d) :: r, (k1, v) :: s, .cons ⟨e, q⟩ t, k => by
    have e : k1 = kx k0 := e
    subst e
    by_cases h : k0 = k
    · subst h
      exact .inr ⟨d, v, by simp [kget], by rw [valV_pos rfl], q⟩
    · have h1 : kget ((k0, d) :: r) k = kget r k := by simp [kget, h]
      have h2 : valV ((kx k0, v) :: s) (kx k) = valV s (kx k) := valV_neg fun c => h (kx_inj c)
      rw [h1, h2]
      exact RK.get t k
theorem RK.any : ∀ {kvs : List (Ky × D)} {ks : List (Key × V)}, RK K ρ H kvs ks → ∀ k, (kvs.any fun kv => decide (kv.1 = k)) = ks.any fun kv => decide (kv.1 = kx k)
  | [], _, .nil, k => rfl
  | (k0, d) :: r, (k1, v) :: s, .cons ⟨e, q⟩ t, k => by
    have e : k1 = kx k0 := e
    subst e
    rw [List.any_cons, List.any_cons, RK.any t k]
    congr 1
    exact decide_eq_decide.mpr kx_eq.symm
theorem RK.map (rd : RV K ρ H d v) (k : Ky) : ∀ {kvs : List (Ky × D)} {ks : List (Key × V)}, RK K ρ H kvs ks → RK K ρ H (kvs.map fun kv => if kv.1 = k then (kv.1, d) else kv) (ks.map fun kv => if kv.1 = kx k then (kv.1, v) else kv)
  | [], _, .nil => .nil
  | (k0, d0) :: r, (k1, v0) :: s, .cons ⟨e, q⟩ t => by
    have e : k1 = kx k0 := e
    subst e
    refine .cons ?_ (RK.map rd k t)
    show (if kx k0 = kx k then (kx k0, v) else (kx k0, v0)).1 = kx (if k0 = k then (k0, d) else (k0, d0)).1 ∧ RV K ρ H (if k0 = k then (k0, d) else (k0, d0)).2 (if kx k0 = kx k then (kx k0, v) else (kx k0, v0)).2
    by_cases h : k0 = k
    · subst h; rw [if_pos rfl, if_pos rfl]; exact ⟨rfl, rd⟩
    · rw [if_neg h, if_neg fun c => h (kx_inj c)]; exact ⟨rfl, q⟩
theorem RK.put (h : RK K ρ H kvs ks) (rd : RV K ρ H d v) (k : Ky) : RK K ρ H (kput kvs k d) (putK ks (kx k) v) := by
  unfold kput putK
  rw [RK.any h k]
  split
  · exact RK.map rd k h
  · exact pr_app h (.cons ⟨rfl, rd⟩ .nil)
theorem RK.drop (k : Ky) : ∀ {kvs : List (Ky × D)} {ks : List (Key × V)}, RK K ρ H kvs ks → RK K ρ H (kdrop kvs k) (dropK ks (kx k))
  | [], _, .nil => .nil
  | (k0, d0) :: r, (k1, v0) :: s, .cons ⟨e, q⟩ t => by
    have e : k1 = kx k0 := e
    subst e
    have ih := RK.drop k t
    unfold kdrop dropK at ih ⊢
    by_cases h : k0 = k
    · subst h
      rw [List.filter_cons_of_neg (by simp), List.filter_cons_of_neg (by simp)]; exact ih
    · rw [List.filter_cons_of_pos (by simpa using h), List.filter_cons_of_pos (by simpa using fun c => h (kx_inj c))]
      exact .cons ⟨rfl, q⟩ ih
theorem RK.merge : ∀ {more : List (Ky × D)} {ms : List (Key × V)} {kvs : List (Ky × D)} {ks : List (Key × V)}, RK K ρ H more ms → RK K ρ H kvs ks →
    RK K ρ H (more.foldl (fun acc kv => kput acc kv.1 kv.2) kvs) (mergeK ks ms)
  | [], _, _, _, .nil, h => h
  | (k0, d0) :: r, (k1, v0) :: s, kvs, ks, .cons ⟨e, q⟩ t, h => by
    have e : k1 = kx k0 := e
    subst e
    exact RK.merge (more := r) (ms := s) t (RK.put h q k0)
theorem RK.keys : ∀ {kvs : List (Ky × D)} {ks : List (Key × V)}, RK K ρ H kvs ks → Paired (RV K ρ H) (kvs.map fun kv => kv.1.d) (ks.map fun kv => kV kv.1)
  | [], _, .nil => .nil
  | (k0, d0) :: r, (k1, v0) :: s, .cons ⟨e, q⟩ t => by
    have e : k1 = kx k0 := e
    subst e
    exact .cons (kx_V k0) (RK.keys t)
theorem RF.get : ∀ {fs : List (Fd × D)} {gs : List (Str × V)}, RF K ρ H fs gs → ∀ f, (fget fs f = none ∧ gs.lookup (fstr f) = none) ∨ ∃ d v, fget fs f = some d ∧ gs.lookup (fstr f) = some v ∧ RV K ρ H d v
  | [], _, .nil, k => .inl ⟨rfl, rfl⟩
  | (k0, d) :: r, (k1, v) :: s, .cons ⟨e, q⟩ t, k => by
    have e : k1 = fstr k0 := e
    subst e
    by_cases h : k0 = k
    · subst h
      exact .inr ⟨d, v, by simp [fget], by simp, q⟩
    · have h1 : fget ((k0, d) :: r) k = fget r k := by simp [fget, h]
      have h2 : ((fstr k0, v) :: s).lookup (fstr k) = s.lookup (fstr k) := by
        rw [List.lookup_cons]
        have : (fstr k == fstr k0) = false := by
          apply beq_eq_false_iff_ne.mpr
          exact fun c => h (fstr_inj c.symm)
        rw [this]
      rw [h1, h2]
      exact RF.get t k
theorem RF.put {f : Fd} (rd : RV K ρ H d v) : ∀ {fs : List (Fd × D)} {gs : List (Str × V)}, RF K ρ H fs gs → RF K ρ H (fput f d fs) (putF (fstr f) v gs)
  | [], _, .nil => .cons ⟨rfl, rd⟩ .nil
  | (k0, d0) :: r, (k1, v0) :: s, .cons ⟨e, q⟩ t => by
    have e : k1 = fstr k0 := e
    subst e
    unfold fput putF
    by_cases h : k0 = f
    · subst h; simp only [if_true]; exact .cons ⟨rfl, rd⟩ t
    · rw [if_neg h, if_neg fun c => h (fstr_inj c)]
      exact .cons ⟨rfl, q⟩ (RF.put rd t)
end

/-! ### exceptions, environments -/
/-- the dict of a note's error -/
def rowStr : Str := "row"
/-- an exception: its class, its dict -/
def RX (T : GA) (H : Hp) (x : Exn) (cls : Value) (dd : Option Addr) : Prop :=
  cls = .ref (T.ea x.c) ∧ match x.row with
    | none => dd = none
    | some r => ∃ dx, dd = some dx ∧ H dx = some (.xd [(rowStr, .int r)])
/-- the exception that an except suite holds: the slot of its name (if it has one), its address, its class, its dict -/
structure Cu where
  slot : Option Nat
  a : Addr
  cls : Value
  dd : Option Addr
def RC (T : GA) (H : Hp) (ρ : List Addr) (σ : St) (u : Option Cu) (c : Option Exn) : Prop :=
  match u, c with
  | none, c => c = none
  | some z, some x => RX T H x z.cls z.dd ∧ (∀ d, z.dd = some d → d ∉ ρ) ∧ ∀ i, z.slot = some i → σ[i]? = some (some (.ref z.a))
  | some _, none => False
structure RE (K : PySem.W.Frag) (T : GA) (u : Option Cu) (ρ : List Addr) (H : Hp) (ε : Env) (σ : St) : Prop where
  len : ε.sl.length = σ.length
  get : ∀ (i : Nat) (d : D), ε.sl[i]? = some (some d) → ∃ v, σ[i]? = some (some v) ∧ RV K ρ H d v
  cur : RC T H ρ σ u ε.cur
section
variable {K : PySem.W.Frag} {T : GA} {u : Option Cu} {ρ ρ' : List Addr} {H H' : Hp} {ε : Env} {σ : St} {x : Exn} {cls : Value} {dd : Option Addr}
theorem RX.up (g : Gu K ρ ρ' H H') (n : ∀ d, dd = some d → d ∉ ρ) (h : RX T H x cls dd) : RX T H' x cls dd := by
  obtain ⟨e, h⟩ := h
  refine ⟨e, ?_⟩
  cases hr : x.row with
  | none => rw [hr] at h; exact h
  | some r =>
    rw [hr] at h
    obtain ⟨dx, e2, q⟩ := h
    exact ⟨dx, e2, g.keep _ _ q (n _ e2)⟩
theorem RC.up {c : Option Exn} (g : Gu K ρ ρ' H H') (h : RC T H ρ σ u c) : RC T H' ρ' σ u c := by
  unfold RC at h ⊢
  cases u with
  | none => exact h
  | some z =>
    cases c with
    | none => exact h
    | some x =>
      refine ⟨h.1.up g h.2.1, fun d e m => ?_, h.2.2⟩
      rcases g.new d m with m | m
      · exact h.2.1 d e m
      · have h1 := h.1.2
        cases hr : x.row with
        | none => rw [hr] at h1; have h1 : z.dd = none := h1; rw [h1] at e; cases e
        | some r =>
          rw [hr] at h1
          obtain ⟨dx, e2, q⟩ := h1
          rw [e] at e2; cases e2
          rw [q] at m; cases m
theorem RE.up (g : Gu K ρ ρ' H H') (h : RE K T u ρ H ε σ) : RE K T u ρ' H' ε σ :=
  ⟨h.len, fun i d e => (h.get i d e).elim fun v q => ⟨v, q.1, q.2.up g⟩, h.cur.up g⟩
end

/-! ### the wish behind a run -/
section
variable (K : PySem.W.Frag) (T : GA) (W : WX)
/-- α against β -/
abbrev Rel (α β : Type) := List Addr → Hp → α → β → Prop
def Post {α β : Type} (R : Rel α β) (ρ : List Addr) (σ : St) (H : Hp) (r : Res α) (Q : β → Hp → Prop) : Prop :=
  match r with
  | .ok a S' => ∀ ρ' H' b, Gu K ρ ρ' H H' → RS K T ρ' H' S' → R ρ' H' a b → Q b H'
  | .ex x S' => ∀ ρ' H' cls dd, Gu K ρ ρ' H H' → RS K T ρ' H' S' → RX T H' x cls dd → (∀ d, dd = some d → d ∉ ρ') → W cls dd σ H'
  | .bad => False
end
section
variable {K : PySem.W.Frag} {T : GA} {W : WX} {α β γ δ : Type} {R : Rel α β} {R' : Rel γ δ} {ρ ρ' : List Addr} {σ : St} {H H' : Hp}
theorem Post.shift {r : Res α} {Q : β → Hp → Prop} (g : Gu K ρ ρ' H H') (h : Post K T W R ρ σ H r Q) : Post K T W R ρ' σ H' r Q := by
  cases r with
  | ok a S => exact fun ρ2 H2 b g2 => h ρ2 H2 b (g.trans g2)
  | ex x S => exact fun ρ2 H2 c d g2 => h ρ2 H2 c d (g.trans g2)
  | bad => exact h
theorem Post.bind {r : Res α} {f : α → Sto → Res γ} {Q : δ → Hp → Prop} {k : β → Hp → Prop} (h : Post K T W R' ρ σ H (r.bind f) Q)
    (hk : ∀ ρ1 H1 a b S1, Gu K ρ ρ1 H H1 → RS K T ρ1 H1 S1 → R ρ1 H1 a b → Post K T W R' ρ1 σ H1 (f a S1) Q → k b H1) : Post K T W R ρ σ H r k := by
  cases r with
  | ok a S => exact fun ρ1 H1 b g rs q => hk ρ1 H1 a b S g rs q (Post.shift g h)
  | ex x S => exact h
  | bad => exact h
theorem Post.ok {a : α} {b : β} {S : Sto} {Q : β → Hp → Prop} (h : Post K T W R ρ σ H (.ok a S) Q) (rs : RS K T ρ H S) (q : R ρ H a b) : Q b H := h ρ H b .refl rs q
theorem Post.ok' {a : α} {b : β} {S : Sto} {Q : β → Hp → Prop} (h : Post K T W R ρ σ H (.ok a S) Q) (g : Gu K ρ ρ' H H') (rs : RS K T ρ' H' S) (q : R ρ' H' a b) : Q b H' := h ρ' H' b g rs q
theorem Post.mono {r : Res α} {Q Q' : β → Hp → Prop} (h : Post K T W R ρ σ H r Q) (hq : ∀ b H, Q b H → Q' b H) : Post K T W R ρ σ H r Q' := by
  cases r with
  | ok a S => exact fun ρ1 H1 b g rs q => hq _ _ (h ρ1 H1 b g rs q)
  | ex x S => exact h
  | bad => exact h
end
/-- the relation of one value, of several -/
abbrev rV (K : PySem.W.Frag) : Rel D V := fun ρ H d v => RV K ρ H d v
abbrev rVs (K : PySem.W.Frag) : Rel (List D) (List V) := fun ρ H d v => RVs K ρ H d v

/-- what stays through a def: the classes' addresses, the wish about exceptions, the exception that is held -/
structure Cz where
  K : PySem.W.Frag
  T : GA
  W : WX
  u : Option Cu
/-- the reading of an expression -/
def L (Z : Cz) (m : Env → Sto → Res D) : TE := fun σ H Q => ∃ ρ ε S, RE Z.K Z.T Z.u ρ H ε σ ∧ RS Z.K Z.T ρ H S ∧ Post Z.K Z.T Z.W (rV Z.K) ρ σ H (m ε S) Q
/-- of a test -/
def LT (Z : Cz) (m : Env → Sto → Res D) : TT := fun σ H Q => ∃ ρ ε S, RE Z.K Z.T Z.u ρ H ε σ ∧ RS Z.K Z.T ρ H S ∧ Post Z.K Z.T Z.W (rV Z.K) ρ σ H (m ε S) fun v H' => ∃ b, v = .bl b ∧ Q b H'
/-- of several -/
def LA (Z : Cz) (m : Env → Sto → Res (List D)) : TA := fun σ H Q => ∃ ρ ε S, RE Z.K Z.T Z.u ρ H ε σ ∧ RS Z.K Z.T ρ H S ∧ Post Z.K Z.T Z.W (rVs Z.K) ρ σ H (m ε S) Q
/-- behind statements -/
def PostS (Z : Cz) (ρ : List Addr) (H : Hp) (r : SR) (E : Ends) : Prop :=
  match r with
  | .nx ε' S' => ∀ ρ' H' σ', Gu Z.K ρ ρ' H H' → RS Z.K Z.T ρ' H' S' → RE Z.K Z.T Z.u ρ' H' ε' σ' → E.nx σ' H'
  | .rt d S' => ∀ ρ' H' v, Gu Z.K ρ ρ' H H' → RS Z.K Z.T ρ' H' S' → RV Z.K ρ' H' d v → E.rt v H'
  | .ex x ε' S' => ∀ ρ' H' σ' cls dd, Gu Z.K ρ ρ' H H' → RS Z.K Z.T ρ' H' S' → RE Z.K Z.T Z.u ρ' H' ε' σ' → RX Z.T H' x cls dd → (∀ d, dd = some d → d ∉ ρ') → Z.W cls dd σ' H'
  | .bad => False
def LS (Z : Cz) (m : Env → Sto → SR) : TS := fun E σ H => ∃ ρ ε S, RE Z.K Z.T Z.u ρ H ε σ ∧ RS Z.K Z.T ρ H S ∧ PostS Z ρ H (m ε S) E
theorem PostS.shift {Z : Cz} {ρ ρ' : List Addr} {H H' : Hp} {r : SR} {E : Ends} (g : Gu Z.K ρ ρ' H H') (h : PostS Z ρ H r E) : PostS Z ρ' H' r E := by
  cases r with
  | nx ε S => exact fun ρ2 H2 b g2 => h ρ2 H2 b (g.trans g2)
  | rt d S => exact fun ρ2 H2 b g2 => h ρ2 H2 b (g.trans g2)
  | ex x ε S => exact fun ρ2 H2 b c d g2 => h ρ2 H2 b c d (g.trans g2)
  | bad => exact h
theorem PostS.then_ {Z : Cz} {ρ : List Addr} {H : Hp} {r : SR} {f : Env → Sto → SR} {E E' : Ends} (h : PostS Z ρ H (r.then_ f) E) (hr : E'.rt = E.rt)
    (hk : ∀ ρ1 H1 σ1 ε1 S1, Gu Z.K ρ ρ1 H H1 → RS Z.K Z.T ρ1 H1 S1 → RE Z.K Z.T Z.u ρ1 H1 ε1 σ1 → PostS Z ρ1 H1 (f ε1 S1) E → E'.nx σ1 H1) : PostS Z ρ H r E' := by
  cases r with
  | nx ε S => exact fun ρ2 H2 σ2 g2 rs re => hk ρ2 H2 σ2 ε S g2 rs re (PostS.shift g2 h)
  | rt d S =>
    intro ρ2 H2 v g2 rs rv
    rw [hr]
    exact h ρ2 H2 v g2 rs rv
  | ex x ε S => exact h
  | bad => exact h
/-- an expression's run within a statement -/
theorem PostS.toS {Z : Cz} {α β : Type} {R : Rel α β} {ρ : List Addr} {H : Hp} {ε : Env} {σ : St} {r : Res α} {f : α → Sto → SR} {E : Ends} {k : β → Hp → Prop} (re : RE Z.K Z.T Z.u ρ H ε σ) (h : PostS Z ρ H (r.toS ε f) E)
    (hk : ∀ ρ1 H1 a b S1, Gu Z.K ρ ρ1 H H1 → RS Z.K Z.T ρ1 H1 S1 → R ρ1 H1 a b → RE Z.K Z.T Z.u ρ1 H1 ε σ → PostS Z ρ1 H1 (f a S1) E → k b H1) : Post Z.K Z.T Z.W R ρ σ H r k := by
  cases r with
  | ok a S => exact fun ρ1 H1 b g rs q => hk ρ1 H1 a b S g rs q (re.up g) (PostS.shift g h)
  | ex x S => exact fun ρ1 H1 c d g rs rx n => h ρ1 H1 σ c d g rs (re.up g) rx n
  | bad => exact h

/-! ### weakening a reading -/
section
variable {X : Cx}
theorem PE_imp {e : Expr} {t t' : TE} (h : PE X e t) (k : ∀ σ H Q, t' σ H Q → t σ H Q) : PE X e t' := ⟨fun pins s σ H Q I q => h.run pins s σ H Q I (k _ _ _ q)⟩
theorem PT_imp {e : Expr} {t t' : TT} (h : PT X e t) (k : ∀ σ H Q, t' σ H Q → t σ H Q) : PT X e t' := ⟨fun pins s σ H Q I q => h.run pins s σ H Q I (k _ _ _ q)⟩
theorem PW_imp {e : Expr} {t t' : TT} (h : PW X e t) (k : ∀ σ H Q, t' σ H Q → t σ H Q) : PW X e t' := ⟨fun w pins s σ H Q I q => h.run w pins s σ H Q I (k _ _ _ q)⟩
theorem PA_imp {e : List Expr} {t t' : TA} (h : PA X e t) (k : ∀ σ H Q, t' σ H Q → t σ H Q) : PA X e t' := ⟨fun p pins s σ H Q I q => h.run p pins s σ H Q I (k _ _ _ q)⟩
theorem PS_imp {e : Stmt} {t t' : TS} (h : PS X e t) (k : ∀ D σ H, t' D σ H → t D σ H) : PS X e t' := ⟨fun pins s σ H D I q => h.run pins s σ H D I (k _ _ _ q)⟩
theorem PSs_imp {e : List Stmt} {t t' : TS} (h : PSs X e t) (k : ∀ D σ H, t' D σ H → t D σ H) : PSs X e t' := ⟨fun pins s σ H D I q => h.run pins s σ H D I (k _ _ _ q)⟩
theorem PI_imp {tg e : Expr} {t t' : TI} (h : PI X tg e t) (k : ∀ σ H R, t' σ H R → t σ H R) : PI X tg e t' := ⟨fun pins s σ H Q I q => h.run pins s σ H Q I (k _ _ _ q)⟩
end
end Mi
end

section
set_option linter.all false
set_option maxRecDepth 100000
set_option Elab.async false
/-! expressions without calls: the interpreter's run is what the layer's rules want -/
namespace Mi
open PySem PySem.Spec L2
open PyProof.Rows hiding St

section
variable {K : PySem.W.Frag} {T : GA} {W : WX} {α β γ δ : Type} {R : Rel α β} {R' : Rel γ δ} {ρ ρ' : List Addr} {σ : St} {H H' : Hp}
/-- .. with what has come, the wish where it stood -/
theorem Post.bind0 {r : Res α} {f : α → Sto → Res γ} {Q : δ → Hp → Prop} {k : β → Hp → Prop} (h : Post K T W R' ρ σ H (r.bind f) Q)
    (hk : ∀ ρ1 H1 a b S1, r = .ok a S1 → Gu K ρ ρ1 H H1 → RS K T ρ1 H1 S1 → R ρ1 H1 a b → Post K T W R' ρ σ H (f a S1) Q → k b H1) : Post K T W R ρ σ H r k := by
  cases r with
  | ok a S => exact fun ρ1 H1 b g rs q => hk ρ1 H1 a b S rfl g rs q h
  | ex x S => exact h
  | bad => exact h
theorem Post.new {S : Sto} {o : Ob} {u : HO} {p : Addr} {Q : VK} (h : Post K T W (rV K) ρ σ H (new S o) Q) (rs : RS K T ρ H S) (hp : H p = none) (ho : RO K T (ρ ++ [p]) (upd H p u) p o) : Q (.ref p) (upd H p u) :=
  Post.ok' h (Gu.fresh hp) (rs.fresh hp ho) ⟨p, fresh_at rs, rfl⟩
/-- a new tuple -/
theorem Post.tup {S : Sto} {ds : List D} {xs : List V} {p : Addr} {Q : VK} (h : Post K T W (rV K) ρ σ H (.ok (.tup ds) S) Q) (rs : RS K T ρ H S) (hp : H p = none) (ho : Paired (RV K ρ H) ds xs) : Q (.ref p) (upd H p (.tup xs)) :=
  Post.ok' h (Gu.aside hp) (rs.aside hp) ⟨p, xs, rfl, SqT.of upd_same, RVs_iff.mpr (RVp.up (Gu.aside hp) ho)⟩
theorem RO.lst_new {ds : List D} {xs : List V} {p : Addr} (hp : H p = none) (r : Paired (RV K ρ H) ds xs) : RO K T (ρ ++ [p]) (upd H p (.lst xs)) p (.lst ds) := ⟨xs, upd_same, RVp.up (Gu.fresh hp) r⟩
theorem RO.dct_new {ds : List (Ky × D)} {xs : List (Key × V)} {p : Addr} (hp : H p = none) (r : RK K ρ H ds xs) : RO K T (ρ ++ [p]) (upd H p (.dK xs)) p (.dct ds) := ⟨xs, upd_same, RK.up (Gu.fresh hp) r⟩
end

theorem L_bind {Z : Cz} {m : Env → Sto → Res D} {f : Env → D → Sto → Res D} {Q k : VK} {σ : St} {H : Hp} (h : L Z (fun ε S => (m ε S).bind (f ε)) σ H Q)
    (hk : ∀ ρ ε S d v H1, RE Z.K Z.T Z.u ρ H1 ε σ → RS Z.K Z.T ρ H1 S → RV Z.K ρ H1 d v → Post Z.K Z.T Z.W (rV Z.K) ρ σ H1 (f ε d S) Q → k v H1) : L Z m σ H k := by
  obtain ⟨ρ, ε, S, re, rs, p⟩ := h
  exact ⟨ρ, ε, S, re, rs, p.bind fun ρ1 H1 d v S1 g rs1 rv q => hk ρ1 ε S1 d v H1 (re.up g) rs1 rv q⟩
theorem LA_bind {Z : Cz} {m : Env → Sto → Res (List D)} {f : Env → List D → Sto → Res D} {Q : VK} {k : List V → Hp → Prop} {σ : St} {H : Hp} (h : L Z (fun ε S => (m ε S).bind (f ε)) σ H Q)
    (hk : ∀ ρ ε S d v H1, RE Z.K Z.T Z.u ρ H1 ε σ → RS Z.K Z.T ρ H1 S → RVs Z.K ρ H1 d v → Post Z.K Z.T Z.W (rV Z.K) ρ σ H1 (f ε d S) Q → k v H1) : LA Z m σ H k := by
  obtain ⟨ρ, ε, S, re, rs, p⟩ := h
  exact ⟨ρ, ε, S, re, rs, p.bind fun ρ1 H1 d v S1 g rs1 rv q => hk ρ1 ε S1 d v H1 (re.up g) rs1 rv q⟩

section
variable {X : Cx} {Z : Cz} {C : Cf} {a b c e : Expr} {x y z : Ex} {pos : Pos}
/-! ### leaves -/
theorem e_var {i : Nat} {n : Str} (hN : X.N[i]? = some n) (hv : Vis X.env.scope n) (hd : (n == ("__debug__" : Str)) = false := by decide +kernel) (hcd : (n == ("__classdict__" : Str)) = false := by decide +kernel) : PE X (.Name n pos) (L Z (ev C (.v i))) :=
  PE_imp (pe_var hN hv hd hcd) fun σ H Q ⟨ρ, ε, S, re, rs, p⟩ => by
    simp only [ev] at p
    cases h : ε.get i with
    | none => rw [h] at p; exact p.elim
    | some d =>
      rw [h] at p
      have : ε.sl[i]? = some (some d) := by
        unfold Env.get at h
        split at h
        · cases h; assumption
        · cases h
      obtain ⟨v, e, r⟩ := re.get i d this
      exact ⟨v, e, p.ok rs r⟩
theorem e_int {i : Int} {j : Nat} : PE X (.Constant (.int i) j pos) (L Z (ev C (.int i))) := PE_imp pe_int fun σ H Q ⟨ρ, ε, S, re, rs, p⟩ => Post.ok p rs rfl
theorem e_bl {i : Bool} {j : Nat} : PE X (.Constant (.bool i) j pos) (L Z (ev C (.bl i))) := PE_imp pe_bl fun σ H Q ⟨ρ, ε, S, re, rs, p⟩ => Post.ok p rs rfl
theorem e_non {j : Nat} : PE X (.Constant .none j pos) (L Z (ev C .non)) := PE_imp pe_non fun σ H Q ⟨ρ, ε, S, re, rs, p⟩ => Post.ok p rs rfl
theorem e_str {n : Str} {t : Tx} {j : Nat} (h : sx t = n := by decide +kernel) : PE X (.Constant (.str n) j pos) (L Z (ev C (.str t))) := by
  subst h
  exact PE_imp pe_str fun σ H Q ⟨ρ, ε, S, re, rs, p⟩ => Post.ok p rs rfl
/-- a constant of the module -/
def GcOk (K : PySem.W.Frag) (mg : Str → Option Value) (c : Gc) (n : Str) : Prop := ∃ u v, mg n = some u ∧ RelV v u ∧ ∀ ρ H, RV K ρ H (gval c) v
theorem e_g {n : Str} {c : Gc} (hz : Z.K = X.K) (hg : Gl X n) (h : GcOk X.K X.mg c n) (hd : (n == ("__debug__" : Str)) = false := by decide +kernel) : PE X (.Name n pos) (L Z (ev C (.g c))) := by
  obtain ⟨u, v, hm, r, q⟩ := h
  refine PE_imp (pe_glob hg hm r hd) fun σ H Q ⟨ρ, ε, S, re, rs, p⟩ => Post.ok p rs ?_
  show RV Z.K ρ H (gval c) v
  rw [hz]; exact q ρ H
/-! ### operators -/
def bop : Bo → Operator
  | .add => .Add | .sub => .Sub | .mul => .Mult | .fdiv => .FloorDiv | .mod => .Mod
def rBn (Z : Cz) (o : Bo) : R2 := fun x y H Q => ∃ ρ σ S d e, RS Z.K Z.T ρ H S ∧ RV Z.K ρ H d x ∧ RV Z.K ρ H e y ∧ Post Z.K Z.T Z.W (rV Z.K) ρ σ H (binop o d e S) Q
theorem smallI_ok {i : Int} (h : smallI i = true) : -(2 ^ 64) < i ∧ i < 2 ^ 64 := by
  unfold smallI at h
  rw [inB_iff] at h
  omega
theorem op_bin (hz : Z.K = X.K) (o : Bo) : OpR X (binaryOp (bop o)) (rBn Z o) := by
  obtain ⟨K, T, W, u⟩ := Z
  have hz : K = X.K := hz
  subst hz
  intro pins s σ' H x y v u Q I rx ry ⟨ρ, σ, S, d, e, rs, rd, re, p⟩
  have no : ∀ {P : Prop}, Post X.K T W (rV X.K) ρ σ H (.bad : Res D) Q → P := fun p => p.elim
  cases o with
  | add =>
    cases d with
    | int i => cases e with
      | int j => exact op_add pins s σ' H x y v u Q I rx ry ⟨i, j, rd, re, Post.ok p rs rfl⟩
      | _ => exact no p
    | str i => cases e with
      | str j =>
        simp only [binop] at p
        split at p
        · rename_i hl
          refine op_add_str pins s σ' H x y v u Q I rx ry ⟨sx i, sx j, rd, re, by rw [sx_len, sx_len]; exact hl, ?_⟩
          rw [← sx_app]
          exact Post.ok p rs rfl
        · exact no p
      | _ => exact no p
    | tup i => cases e with
      | tup j =>
        simp only [binop] at p
        split at p
        · rename_i hl
          obtain ⟨a, xs, ea, qa, ra⟩ := rd
          obtain ⟨b, ys, eb, qb, rb⟩ := re
          have la := ra.len
          have lb := rb.len
          refine op_catT pins s σ' H x y v u Q I rx ry ⟨a, b, xs, ys, ea, eb, qa, qb, ?_, by rw [← la, ← lb]; exact hl.2, fun h0 => ?_, fun h0 q hq => Post.tup p rs hq (pr_app (RVs_iff.mp ra) (RVs_iff.mp rb))⟩
          · intro h; subst h; exact hl.1 (List.length_eq_zero_iff.mp la)
          · subst h0
            have : j = [] := List.length_eq_zero_iff.mp lb
            subst this
            rw [List.append_nil] at p
            exact Post.ok p rs ⟨a, xs, rfl, qa, ra⟩
        · exact no p
      | _ => exact no p
    | ref i => cases e with
      | ref j =>
        simp only [binop] at p
        cases h1 : S.lst i with
        | none => rw [h1] at p; exact no p
        | some ds => cases h2 : S.lst j with
          | none => rw [h1, h2] at p; exact no p
          | some es =>
            rw [h1, h2] at p
            obtain ⟨a, xs, ea, ha, ra⟩ := rs.lstL h1
            obtain ⟨b, ys, eb, hb, rb⟩ := rs.lstL h2
            obtain ⟨a', ea', rd⟩ := rd
            obtain ⟨b', eb', re⟩ := re
            rw [ea] at ea'; cases ea'
            rw [eb] at eb'; cases eb'
            have la := pr_len ra
            have lb := pr_len rb
            dsimp only at p
            split at p
            · rename_i hl
              exact op_cat pins s σ' H x y v u Q I rx ry ⟨a, b, xs, ys, rd, re, ha, hb, by rw [← la, ← lb]; exact hl, fun q hq => Post.new p rs hq (RO.lst_new hq (pr_app ra rb))⟩
            · exact no p
      | _ => exact no p
    | _ => cases e <;> exact no p
  | sub =>
    cases d with
    | int i => cases e with
      | int j => exact op_sub pins s σ' H x y v u Q I rx ry ⟨i, j, rd, re, Post.ok p rs rfl⟩
      | _ => exact no p
    | _ => cases e <;> exact no p
  | mul =>
    cases d with
    | int i => cases e with
      | int j =>
        simp only [binop] at p
        split at p
        · rename_i hl
          refine op_mul pins s σ' H x y v u Q I rx ry ⟨i, j, rd, re, ?_, Post.ok p rs rfl⟩
          rw [Bool.or_eq_true] at hl
          exact hl.imp smallI_ok smallI_ok
        · exact no p
      | _ => exact no p
    | ref i => cases e with
      | int k =>
        simp only [binop] at p
        cases h1 : S.lst i with
        | none => rw [h1] at p; exact no p
        | some ds =>
          rw [h1] at p
          obtain ⟨a, xs, ea, ha, ra⟩ := rs.lstL h1
          obtain ⟨a', ea', rd⟩ := rd
          rw [ea] at ea'; cases ea'
          have la := pr_len ra
          dsimp only at p
          split at p
          · rename_i hl
            exact op_rep pins s σ' H x y v u Q I rx ry ⟨a, k, xs, rd, re, ha, hl.1, hl.2.1, by rw [← la]; exact hl.2.2, fun q hq => Post.new p rs hq (RO.lst_new hq (pr_rep ra _))⟩
          · exact no p
      | _ => exact no p
    | str i => cases e with
      | int k => exact no p
      | _ => exact no p
    | _ => cases e <;> exact no p
  | fdiv =>
    cases d with
    | int i => cases e with
      | int j =>
        simp only [binop] at p
        split at p
        · rename_i hl
          exact op_fdiv pins s σ' H x y v u Q I rx ry ⟨i, j, rd, re, hl, Post.ok p rs rfl⟩
        · exact no p
      | _ => exact no p
    | _ => cases e <;> exact no p
  | mod =>
    cases d with
    | int i => cases e with
      | int j =>
        simp only [binop] at p
        split at p
        · rename_i hl
          exact op_mod pins s σ' H x y v u Q I rx ry ⟨i, j, rd, re, hl, Post.ok p rs rfl⟩
        · exact no p
      | _ => exact no p
    | _ => cases e <;> exact no p
theorem e_bin (o : Bo) (hz : Z.K = X.K) (ha : PE X a (L Z (ev C x))) (hb : PE X b (L Z (ev C y))) : PE X (.BinOp a (bop o) b pos) (L Z (ev C (.bin o x y))) :=
  PE_imp (pe_op (op_bin hz o) ha hb) fun σ H Q h => L_bind (m := ev C x) (f := fun ε d S => (ev C y ε S).bind fun e S2 => binop o d e S2) h fun ρ ε S d v H1 re rs rv p =>
    ⟨ρ, ε, S, re, rs, p.bind fun ρ2 H2 e w S2 g rs2 rw q => ⟨ρ2, σ, S2, d, e, rs2, rv.up g, rw, q⟩⟩
theorem e_neg (ha : PE X a (L Z (ev C x))) : PE X (.UnaryOp .USub a pos) (L Z (ev C (.neg x))) :=
  PE_imp (pe_un un_neg ha) fun σ H Q h => L_bind (m := ev C x) (f := fun ε d S => match d with
    | .int i => .ok (.int (-i)) S
    | _ => .bad) h fun ρ ε S d v H1 re rs rv p => by
      cases d with
      | int i => exact ⟨i, rv, Post.ok p rs rfl⟩
      | _ => exact p.elim
end
end Mi
end

section
set_option linter.all false
set_option maxRecDepth 100000
set_option Elab.async false
/-! equality, comparisons, tests -/
namespace Mi
open PySem PySem.Spec L2
open PyProof.Rows hiding St

/-! ### data as the library's data -/
mutual
def pd : D → PyData
  | .non => .none | .bl b => .bool b | .int i => .int i | .str t => .str (sx t) | .tup ds => .tuple (pds ds) | .ref _ => .none
def pds : List D → List PyData
  | [] => []
  | d :: r => pd d :: pds r
end
section
variable {K : PySem.W.Frag} {T : GA} {ρ : List Addr} {H : Hp} {S : Sto}
mutual
theorem pd_Dp : ∀ {n : Nat} {d : D} {v : V}, D.okn n d = true → RV K ρ H d v → Dp K H v (pd d)
  | _, .non, v, _, r => by have r : v = .non := r; subst r; exact .non
  | _, .bl b, v, _, r => by have r : v = .bl b := r; subst r; exact .bl b
  | _, .int b, v, _, r => by have r : v = .int b := r; subst r; exact .int b
  | _, .str b, v, _, r => by have r : v = .str (sx b) := r; subst r; exact .str _
  | _, .ref _, v, h, r => by simp [D.okn] at h
  | 0, .tup ds, v, h, r => by simp [D.okn] at h
  | n + 1, .tup ds, v, h, r => by
    obtain ⟨a, xs, e, q, r⟩ := r
    subst e
    simp only [D.okn] at h
    exact .tup q (pds_Dp h r)
theorem pds_Dp : ∀ {n : Nat} {ds : List D} {vs : List V}, D.okns n ds = true → RVs K ρ H ds vs → DpAll K H vs (pds ds)
  | _, [], vs, _, r => by have r : vs = [] := r; subst r; exact .nil
  | n, d :: ds, vs, h, r => by
    obtain ⟨v, ws, e, q, r⟩ := r
    subst e
    simp only [D.okns, Bool.and_eq_true] at h
    exact .cons (pd_Dp h.1 q) (pds_Dp h.2 r)
end
mutual
theorem pd_ok : ∀ {n : Nat} {d : D}, D.okn n d = true → (pd d).canLay0 = true ∧ (pd d).depth ≤ n
  | _, .non, _ => ⟨rfl, Nat.zero_le _⟩
  | _, .bl b, _ => ⟨rfl, Nat.zero_le _⟩
  | _, .int b, _ => ⟨rfl, Nat.zero_le _⟩
  | _, .str b, h => by
    refine ⟨?_, Nat.zero_le _⟩
    simp only [pd, PyData.canLay0, PyData.strOk, sx, D.okn] at h ⊢
    rw [Array.all_eq_true']
    intro x hx
    have := List.all_eq_true.mp h x (by simpa using hx)
    simp at this ⊢
    omega
  | _, .ref _, h => by simp [D.okn] at h
  | 0, .tup ds, h => by simp [D.okn] at h
  | n + 1, .tup ds, h => by
    simp only [D.okn] at h
    obtain ⟨h1, h2⟩ := pds_ok h
    exact ⟨by simpa only [pd, PyData.canLay0] using h1, by simp only [pd, PyData.depth]; omega⟩
theorem pds_ok : ∀ {n : Nat} {ds : List D}, D.okns n ds = true → PyData.canLayAll0 (pds ds) = true ∧ PyData.depthAll (pds ds) ≤ n
  | _, [], _ => ⟨rfl, Nat.zero_le _⟩
  | n, d :: ds, h => by
    simp only [D.okns, Bool.and_eq_true] at h
    obtain ⟨h1, h2⟩ := pd_ok h.1
    obtain ⟨h3, h4⟩ := pds_ok h.2
    exact ⟨by simp only [pds, PyData.canLayAll0, h1, h3, Bool.and_self], by simp only [pds, PyData.depthAll]; omega⟩
end
theorem pd_shaped {d : D} (h : D.okn 40 d = true) : SeqAt.shaped (pd d) = true := by
  obtain ⟨h1, h2⟩ := pd_ok h
  simp only [SeqAt.shaped, h1, Bool.true_and, decide_eq_true_eq]
  omega
theorem pds_shaped {d : List D} (h : D.okns 40 d = true) : SeqAt.shaped (.list (pds d)) = true := by
  obtain ⟨h1, h2⟩ := pds_ok h
  refine Bool.and_eq_true_iff.mpr ⟨h1, decide_eq_true ?_⟩
  show PyData.depthAll (pds d) + 1 ≤ 64
  omega
mutual
theorem pd_eqv : ∀ {n m : Nat} {a b : D}, D.okn n a = true → D.okn m b = true → PyData.eqv (pd a) (pd b) = D.eqv a b
  | _, _, .non, b, _, h => by cases b <;> first | rfl | (simp [D.okn] at h; done)
  | _, _, .bl _, b, _, h => by cases b <;> first | rfl | (simp [D.okn] at h; done)
  | _, _, .int _, b, _, h => by cases b <;> first | rfl | (simp [D.okn] at h; done)
  | _, _, .str x, b, _, h => by
    cases b <;> first | rfl | (simp [D.okn] at h; done) | skip
    rename_i y
    simp only [pd, PyData.eqv, D.eqv]
    rw [Bool.eq_iff_iff, beq_iff_eq, beq_iff_eq, sx_eq]
  | _, _, .ref _, b, h, _ => by simp [D.okn] at h
  | 0, _, .tup _, b, h, _ => by simp [D.okn] at h
  | n + 1, m, .tup x, b, h, h' => by
    cases b with
    | tup y =>
      cases m with
      | zero => simp [D.okn] at h'
      | succ m =>
        simp only [D.okn] at h h'
        simp only [pd, PyData.eqv, D.eqv]
        exact pds_eqv h h'
    | ref => simp [D.okn] at h'
    | _ => simp [pd, PyData.eqv, D.eqv]
theorem pds_eqv : ∀ {n m : Nat} {a b : List D}, D.okns n a = true → D.okns m b = true → PyData.eqvAll (pds a) (pds b) = D.eqvs a b
  | _, _, [], [], _, _ => rfl
  | _, _, [], _ :: _, _, _ => rfl
  | _, _, _ :: _, [], _, _ => rfl
  | n, m, x :: xs, y :: ys, h, h' => by
    simp only [D.okns, Bool.and_eq_true] at h h'
    simp only [pds, PyData.eqvAll, D.eqvs, pd_eqv h.1 h'.1, pds_eqv h.2 h'.2]
end
/-- a value at nesting n, as data -/
theorem okn_list (rs : RS K T ρ H S) {l : Nat} {ds : List D} {v : V} (h : S.seq l = some ds) (ok : D.okns 40 ds = true) (r : RV K ρ H (.ref l) v) : Dp K H v (.list (pds ds)) := by
  obtain ⟨a, xs, e, q, p⟩ := rs.seqL h
  obtain ⟨b, e', r⟩ := r
  rw [e] at e'; cases e'
  subst r
  exact .lst (.inl q) (pds_Dp ok (RVs_iff.mpr p))
/-! ### equal lists, dicts -/
def EqW (K : PySem.W.Frag) (H : Hp) : Nat → V → V → Prop
  | 0 => fun _ _ => False
  | n + 1 => fun x y => (∃ d e, Dp K H x d ∧ Dp K H y e ∧ SeqAt.shaped d = true ∧ SeqAt.shaped e = true ∧ PyData.eqv d e = true) ∨ EqR K H (EqW K H n) x y
theorem eqDeep_D (rs : RS K T ρ H S) {n : Nat} {l m : Nat} {x y : V} (F : V → V → Prop) (ih : ∀ {a b : D} {x y : V}, eqDeep S n a b = true → RV K ρ H a x → RV K ρ H b y → F x y)
    (h : (match S.dct l, S.dct m with
        | some ks, some ls => decide (ks.length = ls.length) && ks.all fun p => match kget ls p.1 with
          | some u => eqDeep S n p.2 u
          | none => false
        | _, _ => false) = true) (ra : RV K ρ H (.ref l) x) (rb : RV K ρ H (.ref m) y) : ∃ a b ks ls, x = .ref a ∧ y = .ref b ∧ H a = some (.dK ks) ∧ H b = some (.dK ls) ∧ ks.length = ls.length ∧ ∀ p ∈ ks, ∃ u, valV ls p.1 = some u ∧ F p.2 u := by
  obtain ⟨p, ep, ra⟩ := ra
  obtain ⟨q, eq, rb⟩ := rb
  split at h
  · rename_i ks ls h1 h2
    simp only [Bool.and_eq_true, decide_eq_true_eq] at h
    obtain ⟨p', us, e1, q1, r1⟩ := rs.dctL h1
    obtain ⟨q', ws, e2, q2, r2⟩ := rs.dctL h2
    rw [ep] at e1; cases e1
    rw [eq] at e2; cases e2
    refine ⟨p, q, us, ws, ra, rb, q1, q2, by rw [← pr_len r1, ← pr_len r2]; exact h.1, ?_⟩
    have go : ∀ {ks : List (Ky × D)} {us : List (Key × V)}, RK K ρ H ks us → (ks.all fun p => match kget ls p.1 with
        | some u => eqDeep S n p.2 u
        | none => false) = true → ∀ p ∈ us, ∃ u, valV ws p.1 = some u ∧ F p.2 u := fun {ks us} r1 => by
      induction r1 with
      | nil => intro _ p hp; cases hp
      | @cons kd kv _ _ a t ih' =>
        intro h p hp
        rw [List.all_cons, Bool.and_eq_true] at h
        rcases List.mem_cons.mp hp with hp | hp
        · subst hp
          rw [a.1]
          rcases RK.get r2 kd.1 with ⟨z, _⟩ | ⟨d, v, z1, z2, z3⟩
          · rw [z] at h; exact absurd h.1 (by simp)
          · rw [z1] at h
            exact ⟨v, z2, ih h.1 a.2 z3⟩
        · exact ih' h.2 p hp
    exact go r1 h.2
  · cases h
theorem eqDeep_R (rs : RS K T ρ H S) {n : Nat} {l m : Nat} {x y : V} (F : V → V → Prop) (ih : ∀ {a b : D} {x y : V}, eqDeep S n a b = true → RV K ρ H a x → RV K ρ H b y → F x y)
    (h : eqDeep S (n + 1) (.ref l) (.ref m) = true) (ra : RV K ρ H (.ref l) x) (rb : RV K ρ H (.ref m) y) : EqR K H F x y := by
  simp only [eqDeep, Bool.or_eq_true] at h
  obtain ⟨p, ep, ra⟩ := ra
  obtain ⟨q, eq, rb⟩ := rb
  rcases h with h | h
  · split at h
    · rename_i xs ys h1 h2
      simp only [Bool.and_eq_true, decide_eq_true_eq] at h
      obtain ⟨p', us, e1, q1, r1⟩ := rs.seqL h1
      obtain ⟨q', ws, e2, q2, r2⟩ := rs.seqL h2
      rw [ep] at e1; cases e1
      rw [eq] at e2; cases e2
      refine .inl ⟨p, q, us, ws, ra, rb, .inl q1, .inl q2, ?_⟩
      have go : ∀ {xs ys : List D} {us ws : List V}, Paired (RV K ρ H) xs us → Paired (RV K ρ H) ys ws → xs.length = ys.length → ((xs.zip ys).all fun p => eqDeep S n p.1 p.2) = true → Paired F us ws := fun {xs ys us ws} r1 => by
        induction r1 generalizing ys ws with
        | nil => intro r2 hl _; cases r2 with
          | nil => exact .nil
          | cons _ _ => simp at hl
        | cons a t ih' => intro r2 hl h; cases r2 with
          | nil => simp at hl
          | cons b t2 =>
            rw [List.zip_cons_cons, List.all_cons, Bool.and_eq_true] at h
            exact .cons (ih h.1 a b) (ih' t2 (by simpa using hl) h.2)
      exact go r1 r2 h.1 h.2
    · cases h
  · exact .inr (eqDeep_D rs F ih h ⟨p, ep, ra⟩ ⟨q, eq, rb⟩)
theorem eqDeep_W (rs : RS K T ρ H S) : ∀ {n : Nat} {a b : D} {x y : V}, eqDeep S n a b = true → RV K ρ H a x → RV K ρ H b y → EqW K H n x y
  | 0, a, b, x, y, h, _, _ => by simp [eqDeep] at h
  | n + 1, a, b, x, y, h, ra, rb => by
    have base : ∀ {a b : D}, (D.okn 40 a && D.okn 40 b && D.eqv a b) = true → RV K ρ H a x → RV K ρ H b y → EqW K H (n + 1) x y := fun {a b} h ra rb => by
      simp only [Bool.and_eq_true] at h
      exact .inl ⟨pd a, pd b, pd_Dp h.1.1 ra, pd_Dp h.1.2 rb, pd_shaped h.1.1, pd_shaped h.1.2, (pd_eqv h.1.1 h.1.2).trans h.2⟩
    cases a with
    | ref l => cases b with
      | ref m => exact .inr (eqDeep_R rs (EqW K H n) (fun h r q => eqDeep_W rs h r q) h ra rb)
      | _ => simp [eqDeep, D.okn] at h
    | non => exact base (by cases b <;> simpa only [eqDeep] using h) ra rb
    | bl _ => exact base (by cases b <;> simpa only [eqDeep] using h) ra rb
    | int _ => exact base (by cases b <;> simpa only [eqDeep] using h) ra rb
    | str _ => exact base (by cases b <;> simpa only [eqDeep] using h) ra rb
    | tup _ => exact base (by cases b <;> simpa only [eqDeep] using h) ra rb
end
section
variable {X : Cx} {pins : List (Addr × Obj)} {σ : St} {H : Hp} {s : Shared}
theorem eqW_run (I : Inv X pins σ H s) : ∀ (n : Nat) (A : Around), A.units + 64 + n < cLine → ∀ (x y : V) (v u : Value), EqW X.K H n x y → RelV x v → RelV y u → SeqAt.EqP X.prog X.w A s v u true
  | 0, _, _, _, _, _, _, h, _, _ => (show False from h).elim
  | n + 1, A, hu, x, y, v, u, h, rx, ry => by
    rcases h with ⟨d, e, hd, he, sd, se, q⟩ | h
    · obtain ⟨as, r1⟩ := Dp.reads I d x v hd rx
      obtain ⟨bs, r2⟩ := Dp.reads I e y u he ry
      rw [← q]
      exact (SeqAt.eqAt_reads d e A s v u as bs r1 r2 (SeqAt.canLay_of_shaped sd) (SeqAt.canLay_of_shaped se) (SeqAt.room_of_shaped sd (by omega))).eqP
    · have step := eqR_run I (A := A) (by omega) (eqW_run I n A.in1 (by show A.units + 1 + 64 + n < cLine; omega)) h rx ry
      obtain ⟨a, b, rfl, rfl⟩ : ∃ a b, x = .ref a ∧ y = .ref b := by
        rcases h with ⟨a, b, _, _, e1, e2, _⟩ | ⟨a, b, _, _, e1, e2, _⟩
        · exact ⟨a, b, e1, e2⟩
        · exact ⟨a, b, e1, e2⟩
      cases (show v = Value.ref a from rx)
      cases (show u = Value.ref b from ry)
      by_cases e : a = b
      · subst e
        exact (SeqAt.EqAt.same _).eqP
      · exact SeqAt.eqP_refs e step
end
section
variable {X : Cx}
def rEqW (K : PySem.W.Frag) : R2 := fun x y H Q => EqR K H (EqW K H 3) x y ∧ Q (.bl true) H
theorem op_eqW (hu : X.A.units + 80 < cLine) : OpR X (compareOp .Eq) (rEqW X.K) := by
  intro pins s σ H x y v u Q I rx ry ⟨h, q⟩
  exact eqR_run I (A := X.A) (by omega) (eqW_run I 3 X.A.in1 (by show X.A.units + 1 + 64 + 3 < cLine; omega)) h rx ry _ _ ⟨.bl true, H, I, rfl, q⟩
/-- two equal dicts are not unequal -/
def rNeW (K : PySem.W.Frag) : R2 := fun x y H Q => ∃ a b ks ls, x = .ref a ∧ y = .ref b ∧ H a = some (.dK ks) ∧ H b = some (.dK ls) ∧ ks.length = ls.length ∧ (∀ p ∈ ks, ∃ u, valV ls p.1 = some u ∧ EqW K H 3 p.2 u) ∧ Q (.bl false) H
theorem op_neW (hu : X.A.units + 80 < cLine) : OpR X (compareOp .NotEq) (rNeW X.K) := by
  intro pins s σ H x y v u Q I rx ry ⟨a, b, ks, ls, ex, ey, ha, hb, hl, hp, q⟩
  subst ex ey
  cases (show v = Value.ref a from rx)
  cases (show u = Value.ref b from ry)
  obtain ⟨_, ya, va, ra, da⟩ := (show ObjOk X.prog X.w H s.heap a (.dK ks) from I.hok a _ ha)
  obtain ⟨_, yb, vb, rb, db⟩ := (show ObjOk X.prog X.w H s.heap b (.dK ls) from I.hok b _ hb)
  refine wpAny_richCompare_same_room (op := .NotEq) da.typeIs db.typeIs PySem.F.slot_dict_ne (wpAny_call_entry PySem.F.slot_dict_ne da.typeIs PySem.F.entry_dict_ne ?_ (PySem.F.args_dict_ne_2 _ _)) (by omega)
  show wpAny _ _ (Builtin.Dict.dictSlotArgs "__ne__" ⟨[.ref a, .ref b], []⟩ >>= _) _ _ s
  refine wpAny_bind ?_
  unfold Builtin.Dict.dictSlotArgs
  refine wpAny_bind (wpAny_notOrdered_dict da.typeIs ?_)
  show wpAny _ _ (pure (Value.ref a, Value.ref b)) _ _ s
  refine wpAny_pure ?_
  refine wpAny_bind (wpAny_isInstance (T := "dict") db.typeIs PySem.F.sub_dict_dict ?_)
  simp only [Bool.not_true, Bool.false_eq_true, if_false]
  refine wpAny_bind (wpAny_pure (wpAny_bind (wpAny_pure ?_)))
  refine wpAny_bind (PySem.W.samePairsP (r := true) ya yb da db (fun _ => hits_run (F := EqW X.K H 3) (fun x y v u h r1 r2 => eqW_run I 3 _ (by show X.A.units + 1 + 64 + 3 < cLine; omega) x y v u h r1 r2) rb ra hp) ?_)
  have e : va.length = vb.length := by rw [← ra.length, ← rb.length]; exact hl
  refine wpAny_pure ⟨_, rfl, ?_, ?_⟩
  · exact fun x => nomatch x
  · have k : ((va.length == vb.length && true) == false) = false := by rw [e]; simp
    show EP X pins σ Q (.bool ((va.length == vb.length && true) == false)) s
    rw [k]
    exact ⟨.bl false, H, I, rfl, q⟩
end
end Mi
end

section
set_option linter.all false
set_option maxRecDepth 100000
set_option Elab.async false
/-! comparisons, tests, displays, subscripts, slices -/
namespace Mi
open PySem PySem.Spec L2
open PyProof.Rows hiding St

section
variable {K : PySem.W.Frag} {T : GA} {W : WX} {ρ : List Addr} {σ : St} {H : Hp} {S : Sto} {Q : VK}
/-- flat values -/
theorem flat_V {d : D} {v : V} (f : d.flat = true) (r : RV K ρ H d v) : flatV v = true := by
  cases d <;> first | (simp [D.flat] at f; done) | (cases (show v = _ from r); rfl)
theorem flat_eq {d e : D} {v u : V} (f : d.flat = true) (g : e.flat = true) (r : RV K ρ H d v) (q : RV K ρ H e u) : eqV v u = D.eqv d e := by
  cases d <;> first | (simp [D.flat] at f; done) | skip
  all_goals cases e <;> first | (simp [D.flat] at g; done) | skip
  all_goals (cases (show v = _ from r); cases (show u = _ from q))
  all_goals first | rfl | skip
  simp only [eqV, D.eqv]
  rw [Bool.eq_iff_iff, beq_iff_eq, beq_iff_eq, sx_eq]
theorem flat_all : ∀ {ds : List D} {vs : List V}, Paired (RV K ρ H) ds vs → ds.all D.flat = true → vs.all flatV = true
  | _, _, .nil, _ => rfl
  | _, _, .cons r t, h => by
    rw [List.all_cons, Bool.and_eq_true] at h ⊢
    exact ⟨flat_V h.1 r, flat_all t h.2⟩
theorem flat_in {d : D} {v : V} (f : d.flat = true) (r : RV K ρ H d v) : ∀ {ds : List D} {vs : List V}, Paired (RV K ρ H) ds vs → ds.all D.flat = true → inV v vs = inL d ds
  | _, _, .nil, _ => rfl
  | _, _, .cons q t, h => by
    rw [List.all_cons, Bool.and_eq_true] at h
    have ih := flat_in f r t h.2
    unfold inV inL at ih ⊢
    rw [List.any_cons, List.any_cons, ih, flat_eq h.1 f q r]
end

def rCm (Z : Cz) (o : Co) : R2 := fun x y H Q => ∃ ρ σ S d e, RS Z.K Z.T ρ H S ∧ RV Z.K ρ H d x ∧ RV Z.K ρ H e y ∧ Post Z.K Z.T Z.W (rV Z.K) ρ σ H (cmpop o d e S) Q
def cop : Co → CmpOp
  | .lt => .Lt | .le => .LtE | .gt => .Gt | .ge => .GtE | .eq => .Eq | .ne => .NotEq | .isN => .Is | .notN => .IsNot | .inn => .In | .notin => .NotIn
section
variable {X : Cx} {Z : Cz}
theorem pds_any {a : D} (h : D.okn 40 a = true) : ∀ {xs : List D}, D.okns 40 xs = true → ((pds xs).any fun z => PyData.eqv z (pd a)) = inL a xs
  | [], _ => rfl
  | x :: xs, h' => by
    simp only [D.okns, Bool.and_eq_true] at h'
    have ih := pds_any h h'.2
    unfold inL at ih ⊢
    rw [pds, List.any_cons, List.any_cons, ih, pd_eqv h'.1 h]
theorem op_in_all (hu : X.A.units + 80 < cLine) : OpR X (compareOp .In) (fun x y H Q => ∃ ρ T σ W S d e k, RS X.K T ρ H S ∧ RV X.K ρ H d x ∧ RV X.K ρ H e y ∧ isIn d e S = some k ∧ Post X.K T W (rV X.K) ρ σ H (.ok (.bl k) S) Q) := by
  intro pins s σ' H x y v u Q I rx ry ⟨ρ, T, σ, W, S, d, e, k, rs, rd, re, hk, p⟩
  have q : Q (.bl k) H := Post.ok p rs rfl
  cases e with
  | str z =>
    cases d with
    | str t =>
      match t, hk, rd with
      | [c], hk, rd =>
        simp only [isIn, Option.some.injEq] at hk
        subst hk
        exact op_in_sign pins s σ' H x y v u Q I rx ry ⟨c, sx z, rd, re, q⟩
    | _ => simp [isIn] at hk
  | tup xs =>
    simp only [isIn] at hk
    split at hk
    · rename_i hf
      rw [Bool.and_eq_true] at hf
      cases hk
      obtain ⟨a, us, e1, e2, e3⟩ := re
      have e3 := RVs_iff.mp e3
      refine op_in_seq pins s σ' H x y v u Q I rx ry ⟨a, us, e1, .inr e2, flat_V hf.1 rd, flat_all e3 hf.2, ?_⟩
      rw [flat_in hf.1 rd e3 hf.2]
      exact q
    · cases hk
  | ref l =>
    simp only [isIn] at hk
    obtain ⟨a, ea, re⟩ := re
    cases hs : S.seq l with
    | some xs =>
      rw [hs] at hk
      dsimp only at hk
      split at hk
      · rename_i hf
        rw [Bool.and_eq_true] at hf
        cases hk
        obtain ⟨a', us, e1, e2, e3⟩ := rs.seqL hs
        rw [ea] at e1; cases e1
        refine op_in_seq pins s σ' H x y v u Q I rx ry ⟨a, us, re, .inl (.inl e2), flat_V hf.1 rd, flat_all e3 hf.2, ?_⟩
        rw [flat_in hf.1 rd e3 hf.2]
        exact q
      · split at hk
        · rename_i hf
          rw [Bool.and_eq_true] at hf
          cases hk
          have rl : RV X.K ρ H (.ref l) y := ⟨a, ea, re⟩
          refine op_inD (by omega) pins s σ' H x y v u Q I rx ry ⟨_, pds xs, pd_Dp hf.1 rd, okn_list rs hs hf.2 rl, pd_shaped hf.1, pds_shaped hf.2, ?_⟩
          rw [pds_any hf.1 hf.2]
          exact q
        · cases hk
    | none =>
      rw [hs] at hk
      dsimp only at hk
      split at hk
      · rename_i kvs ky h1 h2
        cases hk
        obtain ⟨a', ks, e1, e2, e3⟩ := rs.dicL h1
        rw [ea] at e1; cases e1
        subst re
        obtain rfl : u = Value.ref a := ry
        have hx := key_rel h2 rd
        subst hx
        refine d_in (o := valV ks (kx ky)) (by omega) I (.inl ⟨ks, kx ky, e2, rfl, rfl⟩) rx fun s' I' => ⟨.bl _, H, I', rfl, ?_⟩
        have : (valV ks (kx ky)).isSome = (kget kvs ky).isSome := by
          rcases RK.get e3 ky with ⟨z1, z2⟩ | ⟨_, _, z1, z2, _⟩ <;> rw [z1, z2] <;> rfl
        rw [this]
        exact q
      · cases hk
  | _ => simp [isIn] at hk
theorem op_notIn_all (hu : X.A.units + 80 < cLine) : OpR X (compareOp .NotIn) (fun x y H Q => ∃ ρ T σ W S d e k, RS X.K T ρ H S ∧ RV X.K ρ H d x ∧ RV X.K ρ H e y ∧ isIn d e S = some k ∧ Post X.K T W (rV X.K) ρ σ H (.ok (.bl (!k)) S) Q) := by
  intro pins s σ' H x y v u Q I rx ry ⟨ρ, T, σ, W, S, d, e, k, rs, rd, re, hk, p⟩
  have q : Q (.bl (!k)) H := Post.ok p rs rfl
  cases e with
  | str z =>
    cases d with
    | str t =>
      match t, hk, rd with
      | [c], hk, rd =>
        simp only [isIn, Option.some.injEq] at hk
        subst hk
        exact op_notIn_sign pins s σ' H x y v u Q I rx ry ⟨c, sx z, rd, re, q⟩
    | _ => simp [isIn] at hk
  | tup xs =>
    simp only [isIn] at hk
    split at hk
    · rename_i hf
      rw [Bool.and_eq_true] at hf
      cases hk
      obtain ⟨a, us, e1, e2, e3⟩ := re
      have e3 := RVs_iff.mp e3
      refine op_notIn_seq pins s σ' H x y v u Q I rx ry ⟨a, us, e1, .inr e2, flat_V hf.1 rd, flat_all e3 hf.2, ?_⟩
      rw [flat_in hf.1 rd e3 hf.2]
      exact q
    · cases hk
  | ref l =>
    simp only [isIn] at hk
    obtain ⟨a, ea, re⟩ := re
    cases hs : S.seq l with
    | some xs =>
      rw [hs] at hk
      dsimp only at hk
      split at hk
      · rename_i hf
        rw [Bool.and_eq_true] at hf
        cases hk
        obtain ⟨a', us, e1, e2, e3⟩ := rs.seqL hs
        rw [ea] at e1; cases e1
        refine op_notIn_seq pins s σ' H x y v u Q I rx ry ⟨a, us, re, .inl (.inl e2), flat_V hf.1 rd, flat_all e3 hf.2, ?_⟩
        rw [flat_in hf.1 rd e3 hf.2]
        exact q
      · split at hk
        · rename_i hf
          rw [Bool.and_eq_true] at hf
          cases hk
          have rl : RV X.K ρ H (.ref l) y := ⟨a, ea, re⟩
          refine op_notInD (by omega) pins s σ' H x y v u Q I rx ry ⟨_, pds xs, pd_Dp hf.1 rd, okn_list rs hs hf.2 rl, pd_shaped hf.1, pds_shaped hf.2, ?_⟩
          rw [pds_any hf.1 hf.2]
          exact q
        · cases hk
    | none =>
      rw [hs] at hk
      dsimp only at hk
      split at hk
      · rename_i kvs ky h1 h2
        cases hk
        obtain ⟨a', ks, e1, e2, e3⟩ := rs.dicL h1
        rw [ea] at e1; cases e1
        subst re
        obtain rfl : u = Value.ref a := ry
        have hx := key_rel h2 rd
        subst hx
        refine d_notIn (o := valV ks (kx ky)) (by omega) I (.inl ⟨ks, kx ky, e2, rfl, rfl⟩) rx fun s' I' => ⟨.bl _, H, I', rfl, ?_⟩
        have : (valV ks (kx ky)).isSome = (kget kvs ky).isSome := by
          rcases RK.get e3 ky with ⟨z1, z2⟩ | ⟨_, _, z1, z2, _⟩ <;> rw [z1, z2] <;> rfl
        rw [this]
        exact q
      · cases hk
  | _ => simp [isIn] at hk
theorem flat_Dp {K : PySem.W.Frag} {ρ : List Addr} {H : Hp} {d : D} {v : V} (f : d.flat = true) (r : RV K ρ H d v) : (∃ t, d = .str t ∧ v = .str (sx t)) ∨ (D.okn 40 d = true ∧ ∀ t, v ≠ .str t) := by
  cases d <;> first | (simp [D.flat] at f; done) | skip
  · right; exact ⟨rfl, fun t e => by cases (show v = _ from r); cases e⟩
  · right; exact ⟨rfl, fun t e => by cases (show v = _ from r); cases e⟩
  · right; exact ⟨rfl, fun t e => by cases (show v = _ from r); cases e⟩
  · left; exact ⟨_, rfl, r⟩
theorem scal_str {v : V} {t : Str} (h : flatV v = true) : scal v (.str t) = true ∧ scal (.str t) v = true := by
  cases v <;> simp [flatV] at h <;> simp [scal]
/-- two values that eqS tells apart without the heap's objects -/
theorem op_eq_pure (hu : X.A.units + 80 < cLine) (ne : Bool) {pins : List (Addr × Obj)} {s : Shared} {σ' : St} {H : Hp} {x y : V} {v u : Value} {Q : VK} (I : Inv X pins σ' H s) (rx : RelV x v) (ry : RelV y u) {ρ : List Addr} {d e : D} (rd : RV X.K ρ H d x) (re : RV X.K ρ H e y)
    (h : ((d.flat && e.flat) || (D.okn 40 d && D.okn 40 e)) = true) (q : Q (.bl (if ne then !D.eqv d e else D.eqv d e)) H) : wpAny (model X.prog X.w) X.A (compareOp (if ne then .NotEq else .Eq) v u) (EP X pins σ' Q) X.xe s := by
  have okn : D.okn 40 d = true → D.okn 40 e = true → wpAny (model X.prog X.w) X.A (compareOp (if ne then .NotEq else .Eq) v u) (EP X pins σ' Q) X.xe s := fun h1 h2 => by
    cases ne with
    | true => exact op_neD (by omega) pins s σ' H x y v u Q I rx ry ⟨pd d, pd e, pd_Dp h1 rd, pd_Dp h2 re, pd_shaped h1, pd_shaped h2, by rw [pd_eqv h1 h2]; exact q⟩
    | false => exact op_eqD (by omega) pins s σ' H x y v u Q I rx ry ⟨pd d, pd e, pd_Dp h1 rd, pd_Dp h2 re, pd_shaped h1, pd_shaped h2, by rw [pd_eqv h1 h2]; exact q⟩
  have tx : scal x y = true → decide (x = y) = D.eqv d e → wpAny (model X.prog X.w) X.A (compareOp (if ne then .NotEq else .Eq) v u) (EP X pins σ' Q) X.xe s := fun h1 h2 => by
    cases ne with
    | true => exact op_ne pins s σ' H x y v u Q I rx ry ⟨h1, by rw [h2]; exact q⟩
    | false => exact op_eq pins s σ' H x y v u Q I rx ry ⟨h1, by rw [h2]; exact q⟩
  rw [Bool.or_eq_true, Bool.and_eq_true, Bool.and_eq_true] at h
  rcases h with ⟨h1, h2⟩ | ⟨h1, h2⟩
  · rcases flat_Dp h1 rd with ⟨t, e1, e2⟩ | ⟨k1, n1⟩
    · rcases flat_Dp h2 re with ⟨t', e3, e4⟩ | ⟨k2, n2⟩
      · subst e1 e2 e3 e4
        refine tx rfl ?_
        simp only [D.eqv]
        rw [Bool.eq_iff_iff, decide_eq_true_iff, beq_iff_eq]
        exact ⟨fun z => sx_inj (V.str.inj z), fun z => by rw [z]⟩
      · subst e1 e2
        refine tx (scal_str (flat_V h2 re)).2 ?_
        rw [decide_eq_false (fun z => n2 _ z.symm)]
        cases e <;> first | rfl | (simp [D.flat] at h2; done) | skip
        exact absurd (show y = _ from re) (n2 _)
    · rcases flat_Dp h2 re with ⟨t', e3, e4⟩ | ⟨k2, n2⟩
      · subst e3 e4
        refine tx (scal_str (flat_V h1 rd)).1 ?_
        rw [decide_eq_false (n1 _)]
        cases d <;> first | rfl | (simp [D.flat] at h1; done) | skip
        exact absurd (show x = _ from rd) (n1 _)
      · exact okn k1 k2
  · exact okn h1 h2
theorem op_cmp (hz : Z.K = X.K) (hu : X.A.units + 80 < cLine) (o : Co) : OpR X (compareOp (cop o)) (rCm Z o) := by
  obtain ⟨K, T, W, u⟩ := Z
  have hz : K = X.K := hz
  subst hz
  intro pins s σ' H x y v u Q I rx ry ⟨ρ, σ, S, d, e, rs, rd, re, p⟩
  have no : ∀ {P : Prop}, Post X.K T W (rV X.K) ρ σ H (.bad : Res D) Q → P := fun p => p.elim
  have num : ∀ (f : Int → Int → Bool) (op : CmpOp), OpR X (compareOp op) (rI0 fun i j => .bl (f i j)) → (∀ i j, d = .int i → e = .int j → Q (.bl (f i j)) H) → (∃ i j, d = .int i ∧ e = .int j) → wpAny (model X.prog X.w) X.A (compareOp op v u) (EP X pins σ' Q) X.xe s := fun f op r q ⟨i, j, e1, e2⟩ => by
    subst e1 e2
    exact r pins s σ' H x y v u Q I rx ry ⟨i, j, rd, re, q i j rfl rfl⟩
  cases o with
  | lt => cases d with
    | int i => cases e with
      | int j => exact op_lt pins s σ' H x y v u Q I rx ry ⟨i, j, rd, re, Post.ok p rs rfl⟩
      | _ => exact no p
    | _ => cases e <;> exact no p
  | le => cases d with
    | int i => cases e with
      | int j => exact op_le pins s σ' H x y v u Q I rx ry ⟨i, j, rd, re, Post.ok p rs rfl⟩
      | _ => exact no p
    | _ => cases e <;> exact no p
  | gt => cases d with
    | int i => cases e with
      | int j => exact op_gt pins s σ' H x y v u Q I rx ry ⟨i, j, rd, re, Post.ok p rs rfl⟩
      | _ => exact no p
    | _ => cases e <;> exact no p
  | ge => cases d with
    | int i => cases e with
      | int j => exact op_ge pins s σ' H x y v u Q I rx ry ⟨i, j, rd, re, Post.ok p rs rfl⟩
      | _ => exact no p
    | _ => cases e <;> exact no p
  | isN =>
    cases e with
    | non =>
      have hy : y = .non := re
      refine op_isN pins s σ' H x y v u Q I rx ry ⟨hy, ?_⟩
      cases d with
      | non => cases (show x = .non from rd); exact Post.ok p rs rfl
      | bl b => cases (show x = .bl b from rd); exact Post.ok p rs rfl
      | int b => cases (show x = .int b from rd); exact Post.ok p rs rfl
      | str b => cases (show x = .str (sx b) from rd); exact Post.ok p rs rfl
      | ref b => obtain ⟨_, _, rd⟩ := rd; subst rd; exact Post.ok p rs rfl
      | tup b => obtain ⟨_, _, rd, _⟩ := rd; subst rd; exact Post.ok p rs rfl
    | _ => cases d <;> exact no p
  | notN =>
    cases e with
    | non =>
      have hy : y = .non := re
      refine op_notN pins s σ' H x y v u Q I rx ry ⟨hy, ?_⟩
      cases d with
      | non => cases (show x = .non from rd); exact Post.ok p rs rfl
      | bl b => cases (show x = .bl b from rd); exact Post.ok p rs rfl
      | int b => cases (show x = .int b from rd); exact Post.ok p rs rfl
      | str b => cases (show x = .str (sx b) from rd); exact Post.ok p rs rfl
      | ref b => obtain ⟨_, _, rd⟩ := rd; subst rd; exact Post.ok p rs rfl
      | tup b => obtain ⟨_, _, rd, _⟩ := rd; subst rd; exact Post.ok p rs rfl
    | _ => cases d <;> exact no p
  | inn =>
    simp only [cmpop] at p
    split at p
    · rename_i k hk
      exact op_in_all hu pins s σ' H x y v u Q I rx ry ⟨ρ, T, σ, W, S, d, e, k, rs, rd, re, hk, p⟩
    · exact no p
  | notin =>
    simp only [cmpop] at p
    split at p
    · rename_i k hk
      exact op_notIn_all hu pins s σ' H x y v u Q I rx ry ⟨ρ, T, σ, W, S, d, e, k, rs, rd, re, hk, p⟩
    · exact no p
  | eq =>
    simp only [cmpop] at p
    split at p
    · rename_i k hk
      have q : Q (.bl k) H := Post.ok p rs rfl
      have pure_ : ((d.flat && e.flat) || (D.okn 40 d && D.okn 40 e)) = true → D.eqv d e = k → wpAny (model X.prog X.w) X.A (compareOp .Eq v u) (EP X pins σ' Q) X.xe s := fun h1 h2 => op_eq_pure hu false I rx ry rd re h1 (by subst h2; exact q)
      cases d with
      | ref l => cases e with
        | ref m =>
          have deep : eqDeep S 4 (.ref l) (.ref m) = true → k = true → wpAny (model X.prog X.w) X.A (compareOp .Eq v u) (EP X pins σ' Q) X.xe s := fun h1 h2 => by
            subst h2
            exact op_eqW hu pins s σ' H x y v u Q I rx ry ⟨eqDeep_R rs (EqW X.K H 3) (fun h r q => eqDeep_W rs h r q) h1 rd re, q⟩
          simp only [eqS] at hk
          split at hk
          · rename_i xs ys h1 h2
            split at hk
            · rename_i ok
              rw [Bool.and_eq_true] at ok
              cases hk
              refine op_eqD (by omega) pins s σ' H x y v u Q I rx ry ⟨.list (pds xs), .list (pds ys), okn_list rs h1 ok.1 rd, okn_list rs h2 ok.2 re, pds_shaped ok.1, pds_shaped ok.2, ?_⟩
              show Q (.bl (PyData.eqvAll (pds xs) (pds ys))) H
              rw [pds_eqv ok.1 ok.2]
              exact q
            · split at hk
              · rename_i h3; cases hk; exact deep h3 rfl
              · cases hk
          · split at hk
            · rename_i h3; cases hk; exact deep h3 rfl
            · cases hk
        | _ =>
          simp only [eqS] at hk
          split at hk
          · rename_i xs h1
            split at hk
            · rename_i ok
              rw [Bool.and_eq_true] at ok
              cases hk
              refine op_eqD (by omega) pins s σ' H x y v u Q I rx ry ⟨.list (pds xs), _, okn_list rs h1 ok.1 rd, pd_Dp ok.2 re, pds_shaped ok.1, pd_shaped ok.2, ?_⟩
              exact q
            · cases hk
          · cases hk
      | non | bl _ | int _ | str _ | tup _ => cases e with
        | ref m =>
          simp only [eqS] at hk
          split at hk
          · rename_i xs h1
            split at hk
            · rename_i ok
              rw [Bool.and_eq_true] at ok
              cases hk
              refine op_eqD (by omega) pins s σ' H x y v u Q I rx ry ⟨_, .list (pds xs), pd_Dp ok.2 rd, okn_list rs h1 ok.1 re, pd_shaped ok.2, pds_shaped ok.1, ?_⟩
              exact q
            · cases hk
          · cases hk
        | _ =>
          simp only [eqS] at hk
          split at hk
          · rename_i ok
            cases hk
            exact pure_ ok rfl
          · cases hk
    · exact no p
  | ne =>
    simp only [cmpop] at p
    split at p
    · rename_i k hk
      have q : Q (.bl k) H := Post.ok p rs rfl
      have pure_ : ((d.flat && e.flat) || (D.okn 40 d && D.okn 40 e)) = true → (!D.eqv d e) = k → wpAny (model X.prog X.w) X.A (compareOp .NotEq v u) (EP X pins σ' Q) X.xe s := fun h1 h2 => op_eq_pure hu true I rx ry rd re h1 (by subst h2; exact q)
      cases d with
      | ref l => cases e with
        | ref m =>
          simp only [neS] at hk
          split at hk
          · rename_i xs ys h1 h2
            split at hk
            · rename_i ok
              rw [Bool.and_eq_true] at ok
              cases hk
              refine op_neD (by omega) pins s σ' H x y v u Q I rx ry ⟨.list (pds xs), .list (pds ys), okn_list rs h1 ok.1 rd, okn_list rs h2 ok.2 re, pds_shaped ok.1, pds_shaped ok.2, ?_⟩
              show Q (.bl (!PyData.eqvAll (pds xs) (pds ys))) H
              rw [pds_eqv ok.1 ok.2]
              exact q
            · cases hk
          · split at hk
            · rename_i h3
              cases hk
              rw [Bool.and_eq_true, Bool.and_eq_true] at h3
              obtain ⟨⟨h1, h2⟩, h3⟩ := h3
              obtain ⟨ks, h1⟩ := Option.isSome_iff_exists.mp h1
              obtain ⟨ls, h2⟩ := Option.isSome_iff_exists.mp h2
              have hs : S.seq l = none := by
                unfold Sto.dct at h1
                unfold Sto.seq
                split at h1
                · rename_i h; rw [h]
                · cases h1
              simp only [eqDeep, Bool.or_eq_true, hs, Bool.false_eq_true, false_or] at h3
              obtain ⟨a, b, ks, ls, z1, z2, z3, z4, z5, z6⟩ := eqDeep_D rs (EqW X.K H 3) (fun h r q => eqDeep_W rs h r q) h3 rd re
              exact op_neW hu pins s σ' H x y v u Q I rx ry ⟨a, b, ks, ls, z1, z2, z3, z4, z5, z6, q⟩
            · cases hk
        | _ =>
          simp only [neS, eqS] at hk
          split at hk
          · rename_i xs h1
            split at hk
            · rename_i ok
              rw [Bool.and_eq_true] at ok
              cases hk
              refine op_neD (by omega) pins s σ' H x y v u Q I rx ry ⟨.list (pds xs), _, okn_list rs h1 ok.1 rd, pd_Dp ok.2 re, pds_shaped ok.1, pd_shaped ok.2, ?_⟩
              exact q
            · cases hk
          · cases hk
      | non | bl _ | int _ | str _ | tup _ => cases e with
        | ref m =>
          simp only [neS, eqS] at hk
          split at hk
          · rename_i xs h1
            split at hk
            · rename_i ok
              rw [Bool.and_eq_true] at ok
              cases hk
              refine op_neD (by omega) pins s σ' H x y v u Q I rx ry ⟨_, .list (pds xs), pd_Dp ok.2 rd, okn_list rs h1 ok.1 re, pd_shaped ok.2, pds_shaped ok.1, ?_⟩
              exact q
            · cases hk
          · cases hk
        | _ =>
          simp only [neS, eqS] at hk
          split at hk
          · rename_i ok
            cases hk
            exact pure_ ok rfl
          · cases hk
    · exact no p
end
end Mi
end

section
set_option linter.all false
set_option maxRecDepth 100000
set_option Elab.async false
/-! comparisons, tests, displays, subscripts, slices: the rules -/
namespace Mi
open PySem PySem.Spec L2
open PyProof.Rows hiding St

section
variable {X : Cx} {Z : Cz} {C : Cf} {a b c e : Expr} {x y z : Ex} {pos : Pos} {rest : List Expr}
theorem e_cmp (o : Co) (hz : Z.K = X.K) (hu : X.A.units + 80 < cLine) (ha : PE X a (L Z (ev C x))) (hb : PE X b (L Z (ev C y))) (hm : behindInMarks (cop o) b = false) : PE X (.Compare a [cop o] [b] pos) (L Z (ev C (.cmp o x y))) :=
  PE_imp (pe_cmpR (op_cmp hz hu o) ha hb hm) fun σ H Q h => L_bind (m := ev C x) (f := fun ε d S => (ev C y ε S).bind fun e S2 => cmpop o d e S2) h fun ρ ε S d v H1 re rs rv p =>
    ⟨ρ, ε, S, re, rs, p.bind fun ρ2 H2 e w S2 g rs2 rw q => ⟨ρ2, σ, S2, d, e, rs2, rv.up g, rw, q⟩⟩
theorem t_cmp (o : Co) (hz : Z.K = X.K) (hu : X.A.units + 80 < cLine) (ha : PE X a (L Z (ev C x))) (hb : PE X b (L Z (ev C y))) (hm : behindInMarks (cop o) b = false) : PT X (.Compare a [cop o] [b] pos) (LT Z (ev C (.cmp o x y))) :=
  PT_imp (pt_cmpR (op_cmp hz hu o) ha hb hm) fun σ H Q h => L_bind (m := ev C x) (f := fun ε d S => (ev C y ε S).bind fun e S2 => cmpop o d e S2) h fun ρ ε S d v H1 re rs rv p =>
    ⟨ρ, ε, S, re, rs, p.bind fun ρ2 H2 e w S2 g rs2 rw q => ⟨ρ2, σ, S2, d, e, rs2, rv.up g, rw, q⟩⟩
theorem cmp_bl {o : Co} {d e : D} {S S' : Sto} {r : D} (h : cmpop o d e S = .ok r S') : ∃ k, r = .bl k ∧ S' = S := by
  cases o with
  | lt | le | gt | ge => cases d <;> cases e <;> simp only [cmpop] at h <;> cases h <;> exact ⟨_, rfl, rfl⟩
  | eq | ne | inn | notin => simp only [cmpop] at h; split at h <;> cases h; exact ⟨_, rfl, rfl⟩
  | isN | notN => cases d <;> cases e <;> simp only [cmpop] at h <;> cases h <;> exact ⟨_, rfl, rfl⟩
theorem cmp_noex {o : Co} {d e : D} {S S' : Sto} {r : Exn} (h : cmpop o d e S = .ex r S') : False := by
  cases o with
  | lt | le | gt | ge => cases d <;> cases e <;> simp only [cmpop] at h <;> cases h
  | eq | ne | inn | notin => simp only [cmpop] at h; split at h <;> cases h
  | isN | notN => cases d <;> cases e <;> simp only [cmpop] at h <;> cases h
theorem chn_step {σ : St} {H : Hp} {Q : VK} {o p : Co} (hc : ∀ {Q : VK} {ρ ε S}, RE Z.K Z.T Z.u ρ H ε σ → RS Z.K Z.T ρ H S → Post Z.K Z.T Z.W (rV Z.K) ρ σ H (ev C z ε S) Q → L Z (ev C z) σ H Q) {ρ : List Addr} {ε : Env} {S : Sto} {d e : D} {v w : V} (re : RE Z.K Z.T Z.u ρ H ε σ) (rs : RS Z.K Z.T ρ H S)
    (rv : RV Z.K ρ H d v) (rw : RV Z.K ρ H e w) (q : Post Z.K Z.T Z.W (rV Z.K) ρ σ H ((cmpop o d e S).bind fun r S3 => match r with
      | .bl true => (ev C z ε S3).bind fun z S4 => cmpop p e z S4
      | .bl false => .ok (.bl false) S3
      | _ => .bad) Q) : rCm Z o v w H fun z' H3 => ∃ k, z' = .bl k ∧ (if k = true then L Z (ev C z) σ H3 fun w' H4 => rCm Z p w w' H4 Q else Q (.bl false) H3) := by
  refine ⟨ρ, σ, S, d, e, rs, rv, rw, ?_⟩
  refine q.bind0 fun ρ3 H3 r v' S3 hr g3 rs3 rv3 q3 => ?_
  obtain ⟨k, e1, e2⟩ := cmp_bl hr
  subst e1 e2
  refine ⟨k, rv3, ?_⟩
  cases k with
  | true =>
    rw [if_pos rfl]
    have q3 := Post.shift g3 q3
    exact ⟨ρ3, ε, S3, re.up g3, rs3, q3.bind fun ρ4 H4 f w' S4 g4 rs4 rv4 q4 => ⟨ρ4, σ, S4, e, f, rs4, (rw.up g3).up g4, rv4, q4⟩⟩
  | false =>
    rw [if_neg (by decide)]
    exact Post.ok' q3 g3 rs3 rfl
theorem e_chn (o p : Co) (hz : Z.K = X.K) (hu : X.A.units + 80 < cLine) (ha : PE X a (L Z (ev C x))) (hb : PE X b (L Z (ev C y))) (hc : PE X c (L Z (ev C z)))
    (hm : lastMarks [cop o, cop p] [b, c] = false := by with_unfolding_all rfl) : PE X (.Compare a [cop o, cop p] [b, c] pos) (L Z (ev C (.chn o p x y z))) :=
  PE_imp (pe_chain (op_cmp hz hu o) (op_cmp hz hu p) ha hb hc hm) fun σ H Q h => L_bind (m := ev C x) (f := fun ε d S => (ev C y ε S).bind fun e S2 => (cmpop o d e S2).bind fun r S3 => match r with
      | .bl true => (ev C z ε S3).bind fun z S4 => cmpop p e z S4
      | .bl false => .ok (.bl false) S3
      | _ => .bad) h fun ρ ε S d v H1 re rs rv p =>
    ⟨ρ, ε, S, re, rs, p.bind fun ρ2 H2 e w S2 g rs2 rw q => chn_step (fun re rs p => ⟨_, _, _, re, rs, p⟩) (re.up g) rs2 (rv.up g) rw q⟩
theorem t_chn (o p : Co) (hz : Z.K = X.K) (hu : X.A.units + 80 < cLine) (ha : PE X a (L Z (ev C x))) (hb : PE X b (L Z (ev C y))) (hc : PE X c (L Z (ev C z)))
    (hm : lastMarks [cop o, cop p] [b, c] = false := by with_unfolding_all rfl) : PT X (.Compare a [cop o, cop p] [b, c] pos) (LT Z (ev C (.chn o p x y z))) :=
  PT_imp (pt_chain (op_cmp hz hu o) (op_cmp hz hu p) ha hb hc hm) fun σ H Q h => L_bind (m := ev C x) (f := fun ε d S => (ev C y ε S).bind fun e S2 => (cmpop o d e S2).bind fun r S3 => match r with
      | .bl true => (ev C z ε S3).bind fun z S4 => cmpop p e z S4
      | .bl false => .ok (.bl false) S3
      | _ => .bad) h fun ρ ε S d v H1 re rs rv p =>
    ⟨ρ, ε, S, re, rs, p.bind fun ρ2 H2 e w S2 g rs2 rw q => chn_step (fun re rs p => ⟨_, _, _, re, rs, p⟩) (re.up g) rs2 (rv.up g) rw q⟩
/-- any expression whose test is its value's -/
theorem t_val (h : PE X e (L Z (ev C x))) (he : ∀ whole, isTrue e X.env whole = (do let v ← whole; standAt e.pos; holding [v] (truthy v)) := by intro _; rfl) : PT X e (LT Z (ev C x)) := pt_val h he

/-! ### and, or, not, if -/
theorem bl_of {ρ : List Addr} {H : Hp} {d : D} {k : Bool} {K : PySem.W.Frag} (r : RV K ρ H d (.bl k)) : d = .bl k := by
  cases d <;> first | (cases (show V.bl k = _ from r); rfl) | (cases (show V.bl k = _ from r); done) | skip
  · obtain ⟨_, _, r, _⟩ := r; cases r
  · obtain ⟨_, _, r⟩ := r; cases r
/-- the run behind a test -/
theorem LT_bind {f : Env → D → Sto → Res D} {σ : St} {H : Hp} {Q : VK} {k : Bool → Hp → Prop} (h : L Z (fun ε S => (ev C x ε S).bind (f ε)) σ H Q) (hf : ∀ ε d S, (∀ b, d ≠ .bl b) → f ε d S = .bad)
    (hk : ∀ ρ ε S b H1, RE Z.K Z.T Z.u ρ H1 ε σ → RS Z.K Z.T ρ H1 S → Post Z.K Z.T Z.W (rV Z.K) ρ σ H1 (f ε (.bl b) S) Q → k b H1) : LT Z (ev C x) σ H k :=
  L_bind (m := ev C x) (f := f) h fun ρ ε S d v H1 re rs rv p => by
    by_cases hd : ∃ b, d = .bl b
    · obtain ⟨b, rfl⟩ := hd
      exact ⟨b, rv, hk ρ ε S b H1 re rs p⟩
    · rw [hf ε d S fun b e => hd ⟨b, e⟩] at p
      exact p.elim
abbrev fAnd (C : Cf) (y : Ex) : Env → D → Sto → Res D := fun ε d S => match d with
    | .bl true => ev C y ε S
    | .bl false => .ok (.bl false) S
    | _ => .bad
abbrev fOr (C : Cf) (y : Ex) : Env → D → Sto → Res D := fun ε d S => match d with
    | .bl true => .ok (.bl true) S
    | .bl false => ev C y ε S
    | _ => .bad
abbrev fIf (C : Cf) (y z : Ex) : Env → D → Sto → Res D := fun ε d S => match d with
    | .bl true => ev C y ε S
    | .bl false => ev C z ε S
    | _ => .bad
theorem fAnd_no (ε : Env) (d : D) (S : Sto) (h : ∀ b, d ≠ .bl b) : fAnd C y ε d S = .bad := by cases d <;> first | rfl | exact absurd rfl (h _)
theorem fOr_no (ε : Env) (d : D) (S : Sto) (h : ∀ b, d ≠ .bl b) : fOr C y ε d S = .bad := by cases d <;> first | rfl | exact absurd rfl (h _)
theorem fIf_no (ε : Env) (d : D) (S : Sto) (h : ∀ b, d ≠ .bl b) : fIf C y z ε d S = .bad := by cases d <;> first | rfl | exact absurd rfl (h _)
theorem t_and (ha : PT X a (LT Z (ev C x))) (hb : PW X (.BoolOp .And (b :: rest) pos) (LT Z (ev C y))) : PW X (.BoolOp .And (a :: b :: rest) pos) (LT Z (ev C (.and x y))) :=
  PW_imp (pw_and ha hb) fun σ H Q h => LT_bind (f := fAnd C y) h fAnd_no fun ρ ε S b H1 re rs p => by
    cases b with
    | true => rw [if_pos rfl]; exact ⟨ρ, ε, S, re, rs, p⟩
    | false =>
      rw [if_neg (by decide)]
      obtain ⟨b, e, q⟩ := Post.ok p rs (b := V.bl false) rfl
      cases e; exact q
theorem t_or (ha : PT X a (LT Z (ev C x))) (hb : PW X (.BoolOp .Or (b :: rest) pos) (LT Z (ev C y))) : PW X (.BoolOp .Or (a :: b :: rest) pos) (LT Z (ev C (.or x y))) :=
  PW_imp (pw_or ha hb) fun σ H Q h => LT_bind (f := fOr C y) h fOr_no fun ρ ε S b H1 re rs p => by
    cases b with
    | false => rw [if_neg (by decide)]; exact ⟨ρ, ε, S, re, rs, p⟩
    | true =>
      rw [if_pos rfl]
      obtain ⟨b, e, q⟩ := Post.ok p rs (b := V.bl true) rfl
      cases e; exact q
theorem t_not (ha : PT X a (LT Z (ev C x))) : PT X (.UnaryOp .Not a pos) (LT Z (ev C (.not x))) :=
  PT_imp (pt_not ha) fun σ H Q h => LT_bind (f := fun ε d S => match d with
    | .bl k => .ok (.bl (!k)) S
    | _ => .bad) h (fun ε d S h => by cases d <;> first | rfl | exact absurd rfl (h _)) fun ρ ε S b H1 re rs p => by
      obtain ⟨b', e, q⟩ := Post.ok p rs (b := V.bl (!b)) rfl
      cases e; exact q
/-- .. as values -/
theorem e_and (ha : PE X a (L Z (ev C x))) (hb : PE X (.BoolOp .And (b :: rest) pos) (L Z (ev C y))) : PE X (.BoolOp .And (a :: b :: rest) pos) (L Z (ev C (.and x y))) :=
  PE_imp (pe_and ha hb) fun σ H Q h => LT_bind (f := fAnd C y) h fAnd_no fun ρ ε S b H1 re rs p => by
    cases b with
    | true => rw [if_pos rfl]; exact ⟨ρ, ε, S, re, rs, p⟩
    | false => rw [if_neg (by decide)]; exact Post.ok p rs (b := V.bl false) rfl
theorem e_or (ha : PE X a (L Z (ev C x))) (hb : PE X (.BoolOp .Or (b :: rest) pos) (L Z (ev C y))) : PE X (.BoolOp .Or (a :: b :: rest) pos) (L Z (ev C (.or x y))) :=
  PE_imp (pe_or ha hb) fun σ H Q h => LT_bind (f := fOr C y) h fOr_no fun ρ ε S b H1 re rs p => by
    cases b with
    | false => rw [if_neg (by decide)]; exact ⟨ρ, ε, S, re, rs, p⟩
    | true => rw [if_pos rfl]; exact Post.ok p rs (b := V.bl true) rfl
theorem e_one {op : BoolOp} (ha : PE X a (L Z (ev C x))) : PE X (.BoolOp op [a] pos) (L Z (ev C x)) := pe_one ha
theorem e_not (ha : PE X a (L Z (ev C x))) : PE X (.UnaryOp .Not a pos) (L Z (ev C (.not x))) :=
  PE_imp (pe_not ha) fun σ H Q h => LT_bind (f := fun ε d S => match d with
    | .bl k => .ok (.bl (!k)) S
    | _ => .bad) h (fun ε d S h => by cases d <;> first | rfl | exact absurd rfl (h _)) fun ρ ε S b H1 re rs p => Post.ok p rs (b := V.bl (!b)) rfl
theorem e_ife (hc : PT X c (LT Z (ev C x))) (ha : PE X a (L Z (ev C y))) (hb : PE X b (L Z (ev C z))) : PE X (.IfExp c a b pos) (L Z (ev C (.ife x y z))) :=
  PE_imp (pe_ifExp hc ha hb) fun σ H Q h => LT_bind (f := fIf C y z) h fIf_no fun ρ ε S b H1 re rs p => by
    cases b with
    | true => rw [if_pos rfl]; exact ⟨ρ, ε, S, re, rs, p⟩
    | false => rw [if_neg (by decide)]; exact ⟨ρ, ε, S, re, rs, p⟩
/-! ### several; displays -/
variable {es : List Expr} {xs : Exs}
theorem a_nil : PA X [] (LA Z (evs C .nil)) := PA_imp pa_nil fun σ H Q ⟨ρ, ε, S, re, rs, p⟩ => Post.ok p rs rfl
theorem a_cons (ha : PE X e (L Z (ev C x))) (hr : PA X es (LA Z (evs C xs))) (hs : starEach (e :: es) X.env = (false, eval e X.env) :: starEach es X.env := by rfl) : PA X (e :: es) (LA Z (evs C (.cons x xs))) :=
  PA_imp (pa_cons ha hr hs) fun σ H Q ⟨ρ, ε, S, re, rs, p⟩ => ⟨ρ, ε, S, re, rs, Post.bind (f := fun d S1 => (evs C xs ε S1).bind fun ds S2 => .ok (d :: ds) S2) p fun ρ1 H1 d v S1 g rs1 rv p1 =>
    ⟨ρ1, ε, S1, re.up g, rs1, p1.bind fun ρ2 H2 ds vs S2 g2 rs2 rv2 p2 => Post.ok p2 rs2 (b := v :: vs) (RVs.cons (rv.up g2) rv2)⟩⟩
def Exs.len : Exs → Nat
  | .nil => 0
  | .cons _ r => r.len + 1
theorem evs_len : ∀ {xs : Exs} {ε : Env} {S S' : Sto} {ds : List D}, evs C xs ε S = .ok ds S' → ds.length = xs.len
  | .nil, ε, S, S', ds, h => by simp only [evs] at h; cases h; rfl
  | .cons x r, ε, S, S', ds, h => by
    simp only [evs] at h
    cases h1 : ev C x ε S with
    | ok d S1 =>
      rw [h1, Res.bind_ok] at h
      cases h2 : evs C r ε S1 with
      | ok es S2 =>
        rw [h2, Res.bind_ok] at h
        cases h
        simp [Exs.len, evs_len h2]
      | ex _ _ => rw [h2] at h; cases h
      | bad => rw [h2] at h; cases h
    | ex _ _ => rw [h1] at h; cases h
    | bad => rw [h1] at h; cases h
theorem small_len {n : Nat} (h : n ≤ 1000) : n ≤ sizeLine := Nat.le_trans h (by decide)
theorem e_tup {k : Nat} (h : PA X es (LA Z (evs C xs))) (hl : xs.len ≤ 1000 := by decide) : PE X (.Tuple es k pos) (L Z (ev C (.tup xs))) :=
  PE_imp (pe_tup h) fun σ H Q ⟨ρ, ε, S, re, rs, p⟩ => ⟨ρ, ε, S, re, rs, Post.bind0 (R' := rV Z.K) (Q := Q) (f := fun ds S1 => .ok (D.tup ds) S1) p fun ρ1 H1 ds vs S1 hr g rs1 rv p1 =>
    ⟨small_len (by rw [← RVs.len rv, evs_len hr]; exact hl), fun q hq => by have p2 := Post.shift g p1; exact Post.tup p2 rs1 hq (RVs_iff.mp rv)⟩⟩
theorem e_lst (h : PA X es (LA Z (evs C xs))) (hl : xs.len ≤ 1000 := by decide) : PE X (.List es pos) (L Z (ev C (.lst xs))) :=
  PE_imp (pe_lst h) fun σ H Q ⟨ρ, ε, S, re, rs, p⟩ => ⟨ρ, ε, S, re, rs, Post.bind0 (R' := rV Z.K) (Q := Q) (f := fun ds S1 => new S1 (Ob.lst ds)) p fun ρ1 H1 ds vs S1 hr g rs1 rv p1 =>
    ⟨small_len (by rw [← RVs.len rv, evs_len hr]; exact hl), fun q hq => by have p2 := Post.shift g p1; exact Post.new p2 rs1 hq (RO.lst_new hq (RVs_iff.mp rv))⟩⟩
theorem e_dct0 : PE X (.Dict [] [] pos) (L Z (ev C (.dct .nil))) :=
  PE_imp pe_dnewK fun σ H Q ⟨ρ, ε, S, re, rs, p⟩ q hq => Post.new (o := .dct []) p rs hq (RO.dct_new hq .nil)
/-- the pairs of a display -/
def prs (Z : Cz) (C : Cf) : Exs → List (TE × TE)
  | .cons k (.cons v r) => (L Z (ev C k), L Z (ev C v)) :: prs Z C r
  | _ => []
def flatP (ps : List (V × V)) : List V := ps.flatMap fun p => [p.1, p.2]
theorem Res.bind_assoc {α β γ : Type} (r : Res α) (f : α → Sto → Res β) (g : β → Sto → Res γ) : (r.bind f).bind g = r.bind fun a S => (f a S).bind g := by cases r <;> rfl
theorem prs_run {σ : St} : ∀ {xs : Exs} {ε : Env} {ρ : List Addr} {H : Hp} {S : Sto} {Q : List (V × V) → Hp → Prop}, xs.len % 2 = 0 → RE Z.K Z.T Z.u ρ H ε σ → RS Z.K Z.T ρ H S →
    Post Z.K Z.T Z.W (fun ρ H ds ps => RVs Z.K ρ H ds (flatP ps)) ρ σ H (evs C xs ε S) Q → tPairs (prs Z C xs) σ H Q
  | .nil, ε, ρ, H, S, Q, _, re, rs, p => Post.ok p rs (b := ([] : List (V × V))) (show RVs Z.K ρ H [] [] from rfl)
  | .cons _ .nil, _, _, _, _, _, h, _, _, _ => by simp [Exs.len] at h
  | .cons k (.cons v r), ε, ρ, H, S, Q, h, re, rs, p => by
    simp only [evs] at p
    refine ⟨ρ, ε, S, re, rs, p.bind fun ρ1 H1 d x S1 g rs1 rv p1 => ?_⟩
    rw [Res.bind_assoc] at p1
    refine ⟨ρ1, ε, S1, re.up g, rs1, p1.bind fun ρ2 H2 e y S2 g2 rs2 rw2 p2 => ?_⟩
    rw [Res.bind_assoc] at p2
    refine prs_run (xs := r) (by simp only [Exs.len] at h; omega) ((re.up g).up g2) rs2 (p2.bind fun ρ3 H3 ds ps S3 g3 rs3 rv3 p3 => ?_)
    exact Post.ok p3 rs3 (b := (x, y) :: ps) (show RVs Z.K ρ3 H3 (d :: e :: ds) (x :: y :: flatP ps) from .cons ((rv.up g2).up g3) (.cons (rw2.up g3) rv3))
theorem pairUp_rel {K : PySem.W.Frag} {ρ : List Addr} {H : Hp} : ∀ {ds : List D} {kvs : List (Ky × D)} {ps : List (V × V)}, pairUp ds = some kvs → RVs K ρ H ds (flatP ps) → ∃ ks : List (Key × V), ps = ks.map (fun kv => (kV kv.1, kv.2)) ∧ RK K ρ H kvs ks
  | [], kvs, ps, h, r => by
    cases h
    cases ps with
    | nil => exact ⟨[], rfl, .nil⟩
    | cons p t => cases (show flatP (p :: t) = [] from r)
  | [_], kvs, ps, h, r => by cases h
  | k :: v :: ds, kvs, ps, h, r => by
    simp only [pairUp] at h
    split at h
    · rename_i ky rest h1 h2
      cases h
      cases ps with
      | nil => obtain ⟨_, _, e, _⟩ := r; cases e
      | cons p t =>
        obtain ⟨x, r1, e, q, y, r2, e2, q2, q3⟩ := r
        have e : p.1 :: p.2 :: flatP t = x :: r1 := e
        cases e; cases e2
        obtain ⟨ks, e3, r3⟩ := pairUp_rel h2 q3
        refine ⟨(kx ky, p.2) :: ks, ?_, .cons ⟨rfl, q2⟩ r3⟩
        rw [e3, List.map_cons, ← key_rel h1 q]
    · cases h
theorem pairUp_len : ∀ {ds : List D} {kvs : List (Ky × D)}, pairUp ds = some kvs → ds.length = 2 * kvs.length
  | [], kvs, h => by cases h; rfl
  | [_], kvs, h => by cases h
  | k :: v :: ds, kvs, h => by
    simp only [pairUp] at h
    split at h
    · rename_i h1 h2
      cases h
      have := pairUp_len h2
      simp only [List.length_cons, this]
      omega
    · cases h
/-- a thing that stood aside comes into the store -/
theorem RS.adopt {K : PySem.W.Frag} {T : GA} {ρ : List Addr} {H : Hp} {S : Sto} {q : Addr} {u u' : HO} {o : Ob} (rs : RS K T ρ H S) (hq : H q = some u') (n1 : ∀ xs, u' ≠ .tup xs) (n2 : ∀ ob xs, u' ≠ .frz ob (.tup xs)) (hn : q ∉ ρ) (ho : RO K T (ρ ++ [q]) (upd H q u) q o) : RS K T (ρ ++ [q]) (upd H q u) (S ++ [o]) where
  len := by rw [List.length_append, List.length_append, rs.len]; rfl
  nd := List.nodup_append.mpr ⟨rs.nd, by simp, fun b hb c hc => by simp at hc; subst hc; intro e; subst e; exact hn hb⟩
  at_ := fun l o' a' e r => by
    by_cases hl : l < S.length
    · rw [List.getElem?_append_left hl] at e
      rw [List.getElem?_append_left (by rw [rs.len]; exact hl)] at r
      have z := rs.at_ l o' a' e r
      have hne : a' ≠ q := fun c => hn (by rw [← c]; exact List.mem_of_getElem? r)
      have pre : ∀ (l : Nat) (a : Addr), ρ[l]? = some a → (ρ ++ [q])[l]? = some a := fun l a e => by rw [List.getElem?_append_left (List.getElem?_eq_some_iff.mp e).1]; exact e
      have tup : ∀ (b : Addr) (xs : List V), SqT K H b xs → SqT K (upd H q u) b xs := fun b xs t => by
        rcases t with (t | ⟨ob, t⟩) | t
        · exact .inl (.inl (by rw [upd_ne fun c => by subst c; rw [hq] at t; exact n1 _ (Option.some.inj t)]; exact t))
        · exact .inl (.inr ⟨ob, by rw [upd_ne fun c => by subst c; rw [hq] at t; exact n2 _ _ (Option.some.inj t)]; exact t⟩)
        · exact .inr t
      have e' : upd H q u a' = H a' := upd_ne hne
      cases o' with
      | lst ds => obtain ⟨xs, w, r⟩ := z; exact ⟨xs, e'.trans w, pr_imp r fun _ _ z => z.mono pre tup⟩
      | frl ds => obtain ⟨ob, xs, w, r⟩ := z; exact ⟨ob, xs, e'.trans w, pr_imp r fun _ _ z => z.mono pre tup⟩
      | dct ds => obtain ⟨xs, w, r⟩ := z; exact ⟨xs, e'.trans w, pr_imp r fun _ _ z => ⟨z.1, z.2.mono pre tup⟩⟩
      | frd ds => obtain ⟨ob, xs, w, r⟩ := z; exact ⟨ob, xs, e'.trans w, pr_imp r fun _ _ z => ⟨z.1, z.2.mono pre tup⟩⟩
      | ins c fs => obtain ⟨dx, gs, w, r⟩ := z; exact ⟨dx, gs, e'.trans w, pr_imp r fun _ _ z => ⟨z.1, z.2.mono pre tup⟩⟩
    · have hl' : l = S.length := by
        have := (List.getElem?_eq_some_iff.mp e).1
        rw [List.length_append] at this
        simp at this; omega
      subst hl'
      have e : o = o' := by simpa using e
      rw [← rs.len] at r
      have r : q = a' := by simpa using r
      subst e r
      exact ho
theorem Gu.adopt {K : PySem.W.Frag} {ρ ρ1 : List Addr} {H H1 : Hp} {q : Addr} {u u' : HO} (hq : H q = none) (g : Gu K ρ ρ1 (upd H q u') H1) (hq1 : H1 q = some u') (n1 : ∀ xs, u' ≠ .tup xs) (n2 : ∀ ob xs, u' ≠ .frz ob (.tup xs)) : Gu K ρ (ρ1 ++ [q]) H (upd H1 q u) where
  pre := fun l a e => by have := g.pre l a e; rw [List.getElem?_append_left (List.getElem?_eq_some_iff.mp this).1]; exact this
  tup := fun b xs t => by
    have t := g.tup b xs (SqT_upd_new hq t)
    rcases t with (t | ⟨ob, t⟩) | t
    · exact .inl (.inl (by rw [upd_ne fun c => by subst c; rw [hq1] at t; exact n1 _ (Option.some.inj t)]; exact t))
    · exact .inl (.inr ⟨ob, by rw [upd_ne fun c => by subst c; rw [hq1] at t; exact n2 _ _ (Option.some.inj t)]; exact t⟩)
    · exact .inr t
  keep := fun b o e n => by
    have hb : b ≠ q := ne_of_none e hq
    rw [upd_ne hb]
    exact g.keep b o (by rw [upd_ne hb]; exact e) n
  new := fun b h => by
    rcases List.mem_append.mp h with h | h
    · rcases g.new b h with h | h
      · exact .inl h
      · right
        by_cases hb : b = q
        · subst hb; exact hq
        · rw [upd_ne hb] at h; exact h
    · simp at h; subst h; exact .inr hq
  frz := fun b o w e => by
    have hb : b ≠ q := ne_of_none e hq
    rw [upd_ne hb]
    exact g.frz b o w (by rw [upd_ne hb]; exact e)
theorem e_dct {keys : List (Option Expr)} {values : List Expr} (h : PPs X pos keys values (prs Z C xs)) (hall : keys.all (·.isSome) = true := by rfl) (hl : keys.length = values.length := by rfl) (h0 : keys ≠ [] := by simp) (h15 : keys.length ≤ 15 := by decide)
    (hx : xs.len % 2 = 0 := by decide) (hy : xs.len ≤ 30 := by decide) : PE X (.Dict keys values pos) (L Z (ev C (.dct xs))) :=
  PE_imp (pe_disp h hall hl h0 h15) fun σ H Q ⟨ρ, ε, S, re, rs, p⟩ q hq => by
    have hqn : q ∉ ρ := fun m => by
      obtain ⟨w, hw, _⟩ := rs.mem m
      rw [hq] at hw; cases hw
    have g0 : Gu Z.K ρ ρ H (upd H q (.dK [])) := Gu.aside hq
    refine prs_run hx (re.up g0) (rs.aside hq) ?_
    have p : Post Z.K Z.T Z.W (rV Z.K) ρ σ H ((evs C xs ε S).bind fun ds S1 => match pairUp ds with
      | some kvs => new S1 (.dct (kvs.foldl (fun acc kv => kput acc kv.1 kv.2) []))
      | none => .bad) Q := p
    cases hr : evs C xs ε S with
    | ok ds S1 =>
      rw [hr, Res.bind_ok] at p
      intro ρ1 H1 ps g1 rs1 rv
      cases hp : pairUp ds with
      | none => rw [hp] at p; exact p.elim
      | some kvs =>
        rw [hp] at p
        obtain ⟨ks, e, rk⟩ := pairUp_rel hp rv
        have hq1 : H1 q = some (.dK []) := g1.keep q _ upd_same hqn
        refine ⟨hq1, ks, e, ?_, ?_⟩
        · have h1 := pairUp_len hp
          have h2 := evs_len hr
          have h3 := pr_len rk
          omega
        · have hqn1 : q ∉ ρ1 := fun m => by
            rcases g1.new q m with m | m
            · exact hqn m
            · rw [upd_same] at m; cases m
          have p : Post Z.K Z.T Z.W (rV Z.K) ρ σ H (.ok (.ref S1.length) (S1 ++ [.dct (kvs.foldl (fun acc kv => kput acc kv.1 kv.2) [])])) Q := p
          refine p (ρ1 ++ [q]) _ (.ref q) (Gu.adopt hq g1 hq1 (fun _ z => nomatch z) fun _ _ z => nomatch z) (rs1.adopt hq1 (fun _ z => nomatch z) (fun _ _ z => nomatch z) hqn1 ⟨_, upd_same, ?_⟩) ⟨q, fresh_at rs1, rfl⟩
          have pre : ∀ (l : Nat) (a : Addr), ρ1[l]? = some a → (ρ1 ++ [q])[l]? = some a := fun l a e => by rw [List.getElem?_append_left (List.getElem?_eq_some_iff.mp e).1]; exact e
          have tup : ∀ (b : Addr) (xs : List V), SqT Z.K H1 b xs → SqT Z.K (upd H1 q (.dK (mergeK [] ks))) b xs := fun b xs t => by
            rcases t with (t | ⟨ob, t⟩) | t
            · exact .inl (.inl (by rw [upd_ne fun c => by subst c; rw [hq1] at t; cases t]; exact t))
            · exact .inl (.inr ⟨ob, by rw [upd_ne fun c => by subst c; rw [hq1] at t; cases t]; exact t⟩)
            · exact .inr t
          exact pr_imp (RK.merge rk .nil) fun _ _ z => ⟨z.1, z.2.mono pre tup⟩
    | ex x S1 =>
      rw [hr] at p
      exact fun ρ1 H1 c d g1 => p ρ1 H1 c d (g0.trans g1)
    | bad => rw [hr] at p; exact p.elim
end
end Mi
end

section
set_option linter.all false
set_option maxRecDepth 100000
set_option Elab.async false
/-! subscripts, slices, fields, stores -/
namespace Mi
open PySem PySem.Spec L2
open PyProof.Rows hiding St

theorem pr_atI {α β : Type} {F : α → β → Prop} {xs : List α} {ys : List β} {i : Int} {x : α} (h : Paired F xs ys) (e : atI xs i = some x) : ∃ y, atI ys i = some y ∧ F x y := by
  unfold atI at e ⊢
  rw [← pr_len h]
  cases hj : ixN xs.length i with
  | none => rw [hj] at e; cases e
  | some j =>
    rw [hj] at e
    exact pr_get h e
theorem pr_cut {α : Type} {F : α → V → Prop} {xs : List α} {ys : List V} (h : Paired F xs ys) (lo hi : Option Int) : Paired F (cut xs lo hi) (cutV ys lo hi) := by
  unfold cut cutV
  rw [← pr_len h]
  exact pr_take _ (pr_drop _ h)
section
variable {X : Cx} {Z : Cz} {C : Cf} {a b c e : Expr} {x y z : Ex} {pos : Pos} {rest : List Expr}
/-! ### a[i] -/
def rGx (Z : Cz) : R2 := fun x y H Q => ∃ ρ σ S d e, RS Z.K Z.T ρ H S ∧ RV Z.K ρ H d x ∧ RV Z.K ρ H e y ∧ Post Z.K Z.T Z.W (rV Z.K) ρ σ H (getix d e S) Q
theorem ix_all (hz : Z.K = X.K) : IxR X (rGx Z) := by
  obtain ⟨K, T, W, u⟩ := Z
  have hz : K = X.K := hz
  subst hz
  intro value slice pins s σ' H x y v u Q I rx ry ⟨ρ, σ, S, d, e, rs, rd, re, p⟩ pl
  have no : ∀ {P : Prop}, Post X.K T W (rV X.K) ρ σ H (.bad : Res D) Q → P := fun p => p.elim
  cases d with
  | str t =>
    cases e with
    | int k =>
      simp only [getix] at p
      split at p
      · rename_i hl
        split at p
        · rename_i c hc
          exact ix_str value slice pins s σ' H x y v u Q I rx ry ⟨sx t, k, c, rd, re, by rw [sx_len]; exact hl, hc, Post.ok p rs rfl⟩ pl
        · exact no p
      · exact no p
    | _ => exact no p
  | tup ds =>
    cases e with
    | int k =>
      simp only [getix] at p
      split at p
      · rename_i d hd
        obtain ⟨a, xs, e1, e2, e3⟩ := rd
        obtain ⟨w, h1, h2⟩ := pr_atI (RVs_iff.mp e3) hd
        exact ix_tup value slice pins s σ' H x y v u Q I rx ry ⟨a, xs, k, w, e1, re, e2, h1, Post.ok p rs h2⟩ pl
      · exact no p
    | _ => exact no p
  | ref l =>
    simp only [getix] at p
    split at p
    · rename_i ds hs
      cases e with
      | int k =>
        dsimp only at p
        split at p
        · rename_i d hd
          obtain ⟨a, xs, e1, e2, e3⟩ := rs.seqL hs
          obtain ⟨a', e1', rd⟩ := rd
          rw [e1] at e1'; cases e1'
          obtain ⟨w, h1, h2⟩ := pr_atI e3 hd
          exact ix_list value slice pins s σ' H x y v u Q I rx ry ⟨a, xs, k, w, rd, re, .inl e2, h1, Post.ok p rs h2⟩ pl
        · exact no p
      | _ => exact no p
    · exact no p
  | _ => exact no p
theorem e_ix (hz : Z.K = X.K) (ha : PE X a (L Z (ev C x))) (hb : PE X b (L Z (ev C y))) (hs : PlainIx b := by intro _ _; rfl) : PE X (.Subscript a b pos) (L Z (ev C (.ix x y))) :=
  PE_imp (pe_ix (ix_all hz) ha hb hs) fun σ H Q h => L_bind (m := ev C x) (f := fun ε d S => (ev C y ε S).bind fun e S2 => getix d e S2) h fun ρ ε S d v H1 re rs rv p =>
    ⟨ρ, ε, S, re, rs, p.bind fun ρ2 H2 e w S2 g rs2 rw q => ⟨ρ2, σ, S2, d, e, rs2, rv.up g, rw, q⟩⟩
/-- d[k] of a dict -/
theorem e_dget (hu : X.A.units + 80 < cLine) (ha : PE X a (L Z (ev C x))) (hb : PE X b (L Z (ev C y))) (hs : NoSl b := by intro _ _; rfl) : PE X (.Subscript a b pos) (L Z (ev C (.dget x y))) :=
  PE_imp (pe_dget (by omega) ha hb hs) fun σ H Q h => L_bind (m := ev C x) (f := fun ε d S => (ev C y ε S).bind fun e S2 => getkey d e S2) h fun ρ ε S d v H1 re rs rv p =>
    ⟨ρ, ε, S, re, rs, p.bind fun ρ2 H2 e w S2 g rs2 rw q => by
      have rv := rv.up g
      cases d with
      | ref l =>
        simp only [getkey] at q
        split at q
        · rename_i kvs k h1 h2
          split at q
          · rename_i d hd
            obtain ⟨a', ks, e1, e2, e3⟩ := rs2.dicL h1
            obtain ⟨a'', e1', rv⟩ := rv
            rw [e1] at e1'; cases e1'
            rcases RK.get e3 k with ⟨z1, _⟩ | ⟨d', v', z1, z2, z3⟩
            · rw [hd] at z1; cases z1
            · rw [hd] at z1; cases z1
              exact ⟨a', v', rv, .inl ⟨ks, kx k, e2, key_rel h2 rw, z2.symm⟩, Post.ok q rs2 z3⟩
          · exact q.elim
        · exact q.elim
      | _ => exact q.elim⟩
/-! ### a[i:j] -/
def rSl (Z : Cz) : V → Option Int → Option Int → Hp → VK → Prop := fun x lo hi H Q => ∃ ρ σ S d, RS Z.K Z.T ρ H S ∧ RV Z.K ρ H d x ∧ Post Z.K Z.T Z.W (rV Z.K) ρ σ H (slice d lo hi S) Q
theorem sl_all (hz : Z.K = X.K) : SlR X (rSl Z) := by
  obtain ⟨K, T, W, u⟩ := Z
  have hz : K = X.K := hz
  subst hz
  intro pins s σ' H x v vl vu lo hi sl Q I rx hs pl pu ⟨ρ, σ, S, d, rs, rd, p⟩
  have no : ∀ {P : Prop}, Post X.K T W (rV X.K) ρ σ H (.bad : Res D) Q → P := fun p => p.elim
  cases d with
  | str t =>
    simp only [slice] at p
    split at p
    · rename_i hl
      refine sl_str pins s σ' H x v vl vu lo hi sl Q I rx hs pl pu ⟨sx t, rd, by rw [sx_len]; exact hl, ?_⟩
      have e : cutS (sx t) lo hi = sx (cut t lo hi) := by
        unfold cutS cut
        rw [sx_len]
        rfl
      rw [e]
      exact Post.ok p rs rfl
    · exact no p
  | tup ds =>
    simp only [slice] at p
    split at p
    · exact no p
    · rename_i hw
      obtain ⟨a, xs, e1, e2, e3⟩ := rd
      have e3 := RVs_iff.mp e3
      refine sl_tup pins s σ' H x v vl vu lo hi sl Q I rx hs pl pu ⟨a, xs, e1, e2, by rw [← pr_len e3]; exact hw, fun q hq => ?_⟩
      exact Post.tup p rs hq (pr_cut e3 lo hi)
  | ref l =>
    simp only [slice] at p
    split at p
    · rename_i ds h1
      obtain ⟨a, xs, e1, e2, e3⟩ := rs.seqL h1
      obtain ⟨a', e1', rd⟩ := rd
      rw [e1] at e1'; cases e1'
      refine sl_list pins s σ' H x v vl vu lo hi sl Q I rx hs pl pu ⟨a, xs, rd, .inl e2, fun q hq => ?_⟩
      exact Post.new p rs hq (RO.lst_new hq (pr_cut e3 lo hi))
    · exact no p
  | _ => exact no p
variable {p2 : Pos}
theorem int_of {K : PySem.W.Frag} {ρ : List Addr} {H : Hp} {i : Int} {v : V} (r : RV K ρ H (.int i) v) : v = .int i := r
theorem e_slH (hz : Z.K = X.K) (ha : PE X a (L Z (ev C x))) (hb : PE X b (L Z (ev C y))) : PE X (.Subscript a (.Slice none (some b) none p2) pos) (L Z (ev C (.sl x .nil (.cons y .nil)))) :=
  PE_imp (pe_slice (sl_all hz) ha po_none (po_some hb)) fun σ H Q ⟨ρ, ε, S, re, rs, p⟩ => ⟨ρ, ε, S, re, rs, by
    simp only [ev, evs, Res.bind_ok, Res.bind_assoc, partOf] at p
    refine p.bind fun ρ1 H1 d v S1 g1 rs1 rv p => ⟨ρ1, ε, S1, re.up g1, rs1, p.bind fun ρ2 H2 e w S2 g rs2 rw q => ?_⟩
    cases e with
    | int j => exact ⟨j, rw, ρ2, σ, S2, d, rs2, rv.up g, q⟩
    | _ => exact q.elim⟩
theorem e_slL (hz : Z.K = X.K) (ha : PE X a (L Z (ev C x))) (hb : PE X b (L Z (ev C y))) : PE X (.Subscript a (.Slice (some b) none none p2) pos) (L Z (ev C (.sl x (.cons y .nil) .nil))) :=
  PE_imp (pe_slice (sl_all hz) ha (po_some hb) po_none) fun σ H Q ⟨ρ, ε, S, re, rs, p⟩ => ⟨ρ, ε, S, re, rs, by
    simp only [ev, evs, Res.bind_ok, Res.bind_assoc, partOf] at p
    refine p.bind fun ρ1 H1 d v S1 g1 rs1 rv p => ⟨ρ1, ε, S1, re.up g1, rs1, p.bind fun ρ2 H2 e w S2 g rs2 rw q => ?_⟩
    cases e with
    | int j => exact ⟨j, rw, ρ2, σ, S2, d, rs2, rv.up g, q⟩
    | _ => exact q.elim⟩
theorem e_slB (hz : Z.K = X.K) (ha : PE X a (L Z (ev C x))) (hb : PE X b (L Z (ev C y))) (hc : PE X c (L Z (ev C z))) : PE X (.Subscript a (.Slice (some b) (some c) none p2) pos) (L Z (ev C (.sl x (.cons y .nil) (.cons z .nil)))) :=
  PE_imp (pe_slice (sl_all hz) ha (po_some hb) (po_some hc)) fun σ H Q ⟨ρ, ε, S, re, rs, p⟩ => ⟨ρ, ε, S, re, rs, by
    simp only [ev, evs, Res.bind_ok, Res.bind_assoc, partOf] at p
    refine p.bind fun ρ1 H1 d v S1 g1 rs1 rv p => ⟨ρ1, ε, S1, re.up g1, rs1, p.bind fun ρ2 H2 e w S2 g rs2 rw q => ?_⟩
    cases e with
    | int j =>
      refine ⟨j, rw, ρ2, ε, S2, (re.up g1).up g, rs2, q.bind fun ρ3 H3 e' w' S3 g3 rs3 rw3 q3 => ?_⟩
      cases e' with
      | int k => exact ⟨k, rw3, ρ3, σ, S3, d, rs3, (rv.up g).up g3, q3⟩
      | _ => exact q3.elim
    | _ => exact q.elim⟩
/-! ### o.f -/
/-- what the text must say of a class for its field -/
structure FdOk (K : PySem.W.Frag) (T : GA) (c : Cl) (f : Fd) : Prop where
  cls : Cls K (T.ca c)
  no : NoAttr K (T.ca c) (fstr f)
theorem e_fld (hz : Z.K = X.K) {c : Cl} {f : Fd} {n : Str} (hn : fstr f = n) (F : FdOk X.K Z.T c f) (ha : PE X a (L Z (ev C x))) (hb : attributeBase a n X.env (eval a X.env) = eval a X.env := by rfl) : PE X (.Attribute a n pos) (L Z (ev C (.fld x c f))) := by
  subst hn
  exact PE_imp (pe_fld ha hb) fun σ H Q h => L_bind (m := ev C x) (f := fun ε d S => getfd d c f S) h fun ρ ε S d v H1 re rs rv p => by
    cases d with
    | ref l =>
      simp only [getfd] at p
      split at p
      · rename_i c' fs h1
        split at p
        · rename_i hc
          subst hc
          split at p
          · rename_i d hd
            obtain ⟨a', dx, gs, e1, e2, e3⟩ := rs.insL h1
            obtain ⟨a'', e1', rv⟩ := rv
            rw [e1] at e1'; cases e1'
            rcases RF.get e3 f with ⟨z1, _⟩ | ⟨d', v', z1, z2, z3⟩
            · rw [hd] at z1; cases z1
            · rw [hd] at z1; cases z1
              exact ⟨a', _, dx, gs, v', rv, e2, F.cls, F.no, z2, Post.ok p rs z3⟩
          · exact p.elim
        · exact p.elim
      · exact p.elim
    | _ => exact p.elim
end
end Mi
end

section
set_option linter.all false
set_option maxRecDepth 100000
set_option Elab.async false
/-! built-in functions -/
namespace Mi
open PySem PySem.Spec L2
open PyProof.Rows hiding St

/-! ### order of texts and numbers -/
theorem txLe_refl : ∀ a : Tx, txLe a a = true
  | [] => rfl
  | a :: r => by simp [txLe, txLe_refl r]
theorem txLe_anti : ∀ {a b : Tx}, txLe a b = true → txLe b a = true → a = b
  | [], [], _, _ => rfl
  | [], _ :: _, _, h => by simp [txLe] at h
  | _ :: _, [], h, _ => by simp [txLe] at h
  | a :: x, b :: y, h, h' => by
    simp only [txLe] at h h'
    by_cases e : a = b
    · subst e
      simp only [if_true] at h h'
      rw [txLe_anti h h']
    · rw [if_neg e] at h
      rw [if_neg (Ne.symm e)] at h'
      simp at h h'
      omega
theorem txLe_trans : ∀ {a b c : Tx}, txLe a b = true → txLe b c = true → txLe a c = true
  | [], _, _, _, _ => rfl
  | _ :: _, [], _, h, _ => by simp [txLe] at h
  | _ :: _, _ :: _, [], _, h => by simp [txLe] at h
  | a :: x, b :: y, c :: z, h, h' => by
    simp only [txLe] at h h' ⊢
    by_cases e : a = b
    · subst e
      rw [if_pos rfl] at h
      by_cases e2 : a = c
      · subst e2
        rw [if_pos rfl] at h' ⊢
        exact txLe_trans h h'
      · rw [if_neg e2] at h' ⊢; exact h'
    · rw [if_neg e] at h
      simp at h
      by_cases e2 : b = c
      · subst e2
        rw [if_neg e]
        simpa using h
      · rw [if_neg e2] at h'
        simp at h'
        rw [if_neg (by omega)]
        simp
        omega
theorem txLe_total : ∀ a b : Tx, txLe a b = true ∨ txLe b a = true
  | [], _ => .inl rfl
  | _ :: _, [] => .inr rfl
  | a :: x, b :: y => by
    simp only [txLe]
    by_cases e : a = b
    · subst e; simp only [if_true]; exact txLe_total x y
    · rw [if_neg e, if_neg (Ne.symm e)]
      simp
      omega
theorem txLe_cps : ∀ a b : Tx, txLe a b = !ltCps b a
  | [], [] => rfl
  | [], _ :: _ => rfl
  | _ :: _, [] => rfl
  | a :: x, b :: y => by
    simp only [txLe, ltCps, txLe_cps x y]
    by_cases e : a = b
    · subst e; simp
    · rw [if_neg e]
      have : (b == a) = false := by simpa using Ne.symm e
      rw [this, Bool.false_and, Bool.or_false]
      by_cases h : a < b
      · have h2 : ¬ b < a := by omega
        simp [h, h2]
      · have h2 : b < a := by omega
        simp [h, h2]
theorem risingS_pw : ∀ {p : Tx} {l : List Tx}, risingS (sx p) (l.map sx) = true → (p :: l).Pairwise fun a b => txLe a b = true
  | p, [], _ => by simp
  | p, x :: r, h => by
    simp only [List.map_cons, risingS, Bool.and_eq_true] at h
    have h1 : txLe p x = true := by rw [txLe_cps]; exact h.1
    have ih := risingS_pw h.2
    refine List.pairwise_cons.mpr ⟨fun y hy => ?_, ih⟩
    rcases List.mem_cons.mp hy with rfl | hy
    · exact h1
    · exact txLe_trans h1 ((List.pairwise_cons.mp ih).1 y hy)
theorem sortedS_pw : ∀ {l : List Tx}, sortedS (l.map sx) = true → l.Pairwise fun a b => txLe a b = true
  | [], _ => .nil
  | _ :: _, h => risingS_pw h
theorem insT_perm (t : Tx) : ∀ l : List Tx, (insT t l).Perm (t :: l)
  | [] => .refl _
  | u :: r => by
    unfold insT
    split
    · exact .refl _
    · exact ((insT_perm t r).cons u).trans (.swap t u r)
theorem sortT_perm : ∀ l : List Tx, (sortT l).Perm l
  | [] => .refl _
  | t :: r => (insT_perm t _).trans ((sortT_perm r).cons t)
theorem insT_pw (t : Tx) : ∀ {l : List Tx}, l.Pairwise (fun a b => txLe a b = true) → (insT t l).Pairwise fun a b => txLe a b = true
  | [], _ => by simp [insT]
  | u :: r, h => by
    unfold insT
    obtain ⟨h1, h2⟩ := List.pairwise_cons.mp h
    split
    · rename_i c
      refine List.pairwise_cons.mpr ⟨fun y hy => ?_, h⟩
      rcases List.mem_cons.mp hy with rfl | hy
      · exact c
      · exact txLe_trans c (h1 y hy)
    · rename_i c
      refine List.pairwise_cons.mpr ⟨fun y hy => ?_, insT_pw t h2⟩
      rcases List.mem_cons.mp ((insT_perm t r).mem_iff.mp hy) with rfl | hy
      · exact (txLe_total y u).resolve_left c
      · exact h1 y hy
theorem sortT_pw : ∀ l : List Tx, (sortT l).Pairwise fun a b => txLe a b = true
  | [] => .nil
  | t :: r => insT_pw t (sortT_pw r)
theorem sortT_eq {l m : List Tx} (p : m.Perm l) (h : m.Pairwise fun a b => txLe a b = true) : m = sortT l :=
  List.Perm.eq_of_pairwise (le := fun a b => txLe a b = true) (fun _ _ _ _ h h' => txLe_anti h h') h (sortT_pw l) (p.trans (sortT_perm l).symm)
theorem insI_perm (t : Int) : ∀ l : List Int, (insI t l).Perm (t :: l)
  | [] => .refl _
  | u :: r => by
    unfold insI
    split
    · exact .refl _
    · exact ((insI_perm t r).cons u).trans (.swap t u r)
theorem sortI_perm : ∀ l : List Int, (sortI l).Perm l
  | [] => .refl _
  | t :: r => (insI_perm t _).trans ((sortI_perm r).cons t)
theorem insI_pw (t : Int) : ∀ {l : List Int}, l.Pairwise (· ≤ ·) → (insI t l).Pairwise (· ≤ ·)
  | [], _ => by simp [insI]
  | u :: r, h => by
    unfold insI
    obtain ⟨h1, h2⟩ := List.pairwise_cons.mp h
    split
    · rename_i c
      refine List.pairwise_cons.mpr ⟨fun y hy => ?_, h⟩
      rcases List.mem_cons.mp hy with rfl | hy
      · exact c
      · exact Int.le_trans c (h1 y hy)
    · rename_i c
      refine List.pairwise_cons.mpr ⟨fun y hy => ?_, insI_pw t h2⟩
      rcases List.mem_cons.mp ((insI_perm t r).mem_iff.mp hy) with rfl | hy
      · omega
      · exact h1 y hy
theorem sortI_pw : ∀ l : List Int, (sortI l).Pairwise (· ≤ ·)
  | [] => .nil
  | t :: r => insI_pw t (sortI_pw r)
theorem sortI_eq {l m : List Int} (p : m.Perm l) (h : m.Pairwise (· ≤ ·)) : m = sortI l :=
  List.Perm.eq_of_pairwise (le := (· ≤ ·)) (fun _ _ _ _ h h' => Int.le_antisymm h h') h (sortI_pw l) (p.trans (sortI_perm l).symm)
theorem perm_sx {l : List Tx} {m : List Str} (p : m.Perm (l.map sx)) : ∃ k : List Tx, m = k.map sx ∧ k.Perm l := by
  refine ⟨m.map fun x => x.cps.toList, ?_, ?_⟩
  · rw [List.map_map]
    exact (List.map_id'' (fun x => TL.mk_tl x) m).symm
  · have := p.map fun x : Str => x.cps.toList
    rw [List.map_map] at this
    have e : l.map ((fun x : Str => x.cps.toList) ∘ sx) = l := by
      exact List.map_id'' (fun x => rfl) l
    rw [e] at this
    exact this
theorem txtsOf_eq : ∀ {ds : List D} {ts : List Tx}, txtsOf ds = some ts → ds = ofT ts
  | [], ts, h => by cases h; rfl
  | d :: r, ts, h => by
    cases d with
    | str t =>
      simp only [txtsOf] at h
      cases h1 : txtsOf r with
      | none => rw [h1] at h; cases h
      | some us => rw [h1] at h; cases h; rw [txtsOf_eq h1]; rfl
    | _ => simp [txtsOf] at h
theorem numsOf_eq : ∀ {ds : List D} {ts : List Int}, numsOf ds = some ts → ds = ofI ts
  | [], ts, h => by cases h; rfl
  | d :: r, ts, h => by
    cases d with
    | int t =>
      simp only [numsOf] at h
      cases h1 : numsOf r with
      | none => rw [h1] at h; cases h
      | some us => rw [h1] at h; cases h; rw [numsOf_eq h1]; rfl
    | _ => simp [numsOf] at h
/-! ### numbers as texts -/
theorem strI_ok (i : Int) : Str.ofString (toString i) = sx (strI i) := by
  apply TL.ext_tl
  unfold strI
  cases i with
  | ofNat n =>
    rw [if_neg (by simp)]
    exact TL.tl_num n
  | negSucc n =>
    rw [if_pos (Int.negSucc_lt_zero n)]
    have e : toString (Int.negSucc n) = "-" ++ toString (((n + 1 : Nat)) : Int) := rfl
    rw [TL.tl_ofString, e, String.toList_append, List.map_append, ← TL.tl_ofString (toString (((n + 1 : Nat)) : Int)), TL.tl_num]
    rfl
theorem allDig_ok {t : Tx} (h : allDig t = true) : t ≠ [] ∧ NumText.AllDigits t := by
  unfold allDig at h
  rw [Bool.and_eq_true] at h
  refine ⟨fun e => by rw [e] at h; simp at h, fun c hc => ?_⟩
  have := List.all_eq_true.mp h.2 c hc
  simpa using this
theorem intT_ok {t : Tx} {n : Int} (h : intT t = some n) (hl : t.length ≤ 640) : PySem.intText? (sx t) = some n := by
  unfold intT at h
  split at h
  · rename_i r
    split at h
    · rename_i hd
      cases h
      obtain ⟨h1, h2⟩ := allDig_ok hd
      exact PySem.intText_neg (x := sx (45 :: r)) (cs := r) rfl h2 h1 (by rw [sx_len]; omega)
    · cases h
  · split at h
    · rename_i hd
      cases h
      obtain ⟨h1, h2⟩ := allDig_ok hd
      exact PySem.intText_digits (x := sx t) h2 h1 (by rw [sx_len]; omega)
    · cases h
theorem log_small {n : Nat} (h : n < 10 ^ 500) : n.log2 < 1920 := by
  by_cases h0 : n = 0
  · subst h0; decide
  · exact (Nat.log2_lt h0).mpr (Nat.lt_of_lt_of_le h (by decide +kernel))
/-! ### calls -/
section
variable {X : Cx} {Z : Cz} {C : Cf} {a b c e : Expr} {x y z : Ex} {pos p : Pos} {rest : List Expr}
def rB1 (Z : Cz) (f : B1) : List V → Hp → VK → Prop := fun xs H Q => ∃ ρ σ S d x, xs = [x] ∧ RS Z.K Z.T ρ H S ∧ RV Z.K ρ H d x ∧ Post Z.K Z.T Z.W (rV Z.K) ρ σ H (b1 f d S) Q
theorem vals_1 {x : V} {us : List Value} (r : Vals [x] us) : ∃ u, us = [u] ∧ RelV x u := by
  cases r with
  | cons r t => cases t; exact ⟨_, rfl, r⟩
/-- a list or tuple that is read -/
theorem seq_of {K : PySem.W.Frag} {T : GA} {ρ : List Addr} {H : Hp} {S : Sto} {l : Nat} {ds : List D} {v : V} (rs : RS K T ρ H S) (h : S.seq l = some ds) (r : RV K ρ H (.ref l) v) : ∃ a xs, v = .ref a ∧ SqL K H a xs ∧ Paired (RV K ρ H) ds xs := by
  obtain ⟨a, xs, e, q, p⟩ := rs.seqL h
  obtain ⟨b, e', r⟩ := r
  rw [e] at e'; cases e'
  exact ⟨a, xs, r, .inl q, p⟩
theorem dic_of {K : PySem.W.Frag} {T : GA} {ρ : List Addr} {H : Hp} {S : Sto} {l : Nat} {ds : List (Ky × D)} {v : V} (rs : RS K T ρ H S) (h : S.dic l = some ds) (r : RV K ρ H (.ref l) v) : ∃ a xs, v = .ref a ∧ Rd H a (.dK xs) ∧ RK K ρ H ds xs := by
  obtain ⟨a, xs, e, q, p⟩ := rs.dicL h
  obtain ⟨b, e', r⟩ := r
  rw [e] at e'; cases e'
  exact ⟨a, xs, r, q, p⟩
theorem dct_of {K : PySem.W.Frag} {T : GA} {ρ : List Addr} {H : Hp} {S : Sto} {l : Nat} {ds : List (Ky × D)} {v : V} (rs : RS K T ρ H S) (h : S.dct l = some ds) (r : RV K ρ H (.ref l) v) : ∃ a xs, v = .ref a ∧ H a = some (.dK xs) ∧ RK K ρ H ds xs ∧ ρ[l]? = some a := by
  obtain ⟨a, xs, e, q, p⟩ := rs.dctL h
  obtain ⟨b, e', r⟩ := r
  rw [e] at e'; cases e'
  exact ⟨a, xs, r, q, p, e⟩
theorem lst_of {K : PySem.W.Frag} {T : GA} {ρ : List Addr} {H : Hp} {S : Sto} {l : Nat} {ds : List D} {v : V} (rs : RS K T ρ H S) (h : S.lst l = some ds) (r : RV K ρ H (.ref l) v) : ∃ a xs, v = .ref a ∧ H a = some (.lst xs) ∧ Paired (RV K ρ H) ds xs ∧ ρ[l]? = some a := by
  obtain ⟨a, xs, e, q, p⟩ := rs.lstL h
  obtain ⟨b, e', r⟩ := r
  rw [e] at e'; cases e'
  exact ⟨a, xs, r, q, p, e⟩
theorem cr_len (hz : Z.K = X.K) : CallR X (.builtin "len") (rB1 Z .len) := by
  obtain ⟨K, T, W, u⟩ := Z
  have hz : K = X.K := hz
  subst hz
  intro pins s σ' H xs us Q I r ⟨ρ, σ, S, d, x, e, rs, rd, p⟩
  subst e
  cases d with
  | str t =>
    simp only [b1] at p
    split at p
    · rename_i hl
      exact call_len_str pins s σ' H _ us Q I r ⟨sx t, by rw [show x = .str (sx t) from rd], by rw [sx_len]; exact hl, by rw [sx_len]; exact Post.ok p rs rfl⟩
    · exact p.elim
  | tup ds =>
    obtain ⟨a, xs, e1, e2, e3⟩ := rd
    subst e1
    exact call_len_seq pins s σ' H _ us Q I r ⟨a, xs, rfl, .inr e2, by rw [← RVs.len e3]; exact Post.ok p rs rfl⟩
  | ref l =>
    simp only [b1] at p
    cases h1 : S.seq l with
    | some ds =>
      rw [h1] at p
      obtain ⟨a, xs, e1, e2, e3⟩ := seq_of rs h1 rd
      subst e1
      exact call_len_seq pins s σ' H _ us Q I r ⟨a, xs, rfl, .inl e2, by rw [← pr_len e3]; exact Post.ok p rs rfl⟩
    | none =>
      rw [h1] at p
      cases h2 : S.dic l with
      | some ds =>
        rw [h2] at p
        obtain ⟨a, xs, e1, e2, e3⟩ := dic_of rs h2 rd
        subst e1
        obtain ⟨u, rfl, ru⟩ := vals_1 r
        cases (show u = Value.ref a from ru)
        exact d_len I e2 fun t s' I' => ⟨.int xs.length, H, I', ⟨t, rfl⟩, by rw [← pr_len e3]; exact Post.ok p rs rfl⟩
      | none => rw [h2] at p; exact p.elim
  | _ => exact p.elim
theorem cr_abs : CallR X (.builtin "abs") (rB1 Z .abs) := by
  intro pins s σ' H xs us Q I r ⟨ρ, σ, S, d, x, e, rs, rd, p⟩
  subst e
  cases d with
  | int i => exact call_abs pins s σ' H _ us Q I r ⟨i, by rw [show x = .int i from rd], Post.ok p rs rfl⟩
  | _ => exact p.elim
theorem cr_int : CallR X (.type "int") (rB1 Z .int) := by
  intro pins s σ' H xs us Q I r ⟨ρ, σ, S, d, x, e, rs, rd, p⟩
  subst e
  cases d with
  | bl i => exact call_int1 pins s σ' H _ us Q I r (.inr ⟨i, by rw [show x = .bl i from rd], Post.ok p rs rfl⟩)
  | str t =>
    simp only [b1] at p
    split at p
    · rename_i n hn
      split at p
      · rename_i hl
        exact call_int_str pins s σ' H _ us Q I r ⟨sx t, n, by rw [show x = .str (sx t) from rd], intT_ok hn hl, by rw [sx_len]; exact hl, Post.ok p rs rfl⟩
      · exact p.elim
    · exact p.elim
  | _ => exact p.elim
theorem cr_str : CallR X (.type "str") (rB1 Z .str) := by
  intro pins s σ' H xs us Q I r ⟨ρ, σ, S, d, x, e, rs, rd, p⟩
  subst e
  cases d with
  | int i =>
    simp only [b1] at p
    split at p
    · rename_i hl
      refine call_str_int pins s σ' H _ us Q I r ⟨i, by rw [show x = .int i from rd], log_small hl, ?_⟩
      have e : (↑(toString i) : Str) = sx (strI i) := strI_ok i
      rw [e]
      exact Post.ok p rs rfl
    · exact p.elim
  | str t => exact SkE.call_str_str pins s σ' H _ us Q I r ⟨sx t, by rw [show x = .str (sx t) from rd], Post.ok p rs rfl⟩
  | _ => exact p.elim
theorem cr_list (hz : Z.K = X.K) (hc : X.calm = true) : CallR X (.type "list") (rB1 Z .lst) := by
  obtain ⟨K, T, W, u⟩ := Z
  have hz : K = X.K := hz
  subst hz
  intro pins s σ' H xs us Q I r ⟨ρ, σ, S, d, x, e, rs, rd, p⟩
  subst e
  cases d with
  | tup ds =>
    obtain ⟨a, xs, e1, e2, e3⟩ := rd
    subst e1
    exact call_list_of pins s σ' H _ us Q I r ⟨a, xs, rfl, .inr e2, fun q hq => Post.new p rs hq (RO.lst_new hq (RVs_iff.mp e3))⟩
  | ref l =>
    simp only [b1] at p
    cases h1 : S.seq l with
    | some ds =>
      rw [h1] at p
      obtain ⟨a, xs, e1, e2, e3⟩ := seq_of rs h1 rd
      subst e1
      exact call_list_of pins s σ' H _ us Q I r ⟨a, xs, rfl, .inl e2, fun q hq => Post.new p rs hq (RO.lst_new hq e3)⟩
    | none =>
      rw [h1] at p
      cases h2 : S.dct l with
      | some ds =>
        rw [h2] at p
        obtain ⟨a, xs, e1, e2, e3, _⟩ := dct_of rs h2 rd
        subst e1
        exact call_list_dK hc pins s σ' H _ us Q I r ⟨a, xs, rfl, e2, fun q hq => Post.new p rs hq (RO.lst_new hq (RK.keys e3))⟩
      | none => rw [h2] at p; exact p.elim
  | _ => exact p.elim
theorem cr_tuple (hz : Z.K = X.K) : CallR X (.type "tuple") (rB1 Z .tup) := by
  obtain ⟨K, T, W, u⟩ := Z
  have hz : K = X.K := hz
  subst hz
  intro pins s σ' H xs us Q I r ⟨ρ, σ, S, d, x, e, rs, rd, p⟩
  subst e
  cases d with
  | ref l =>
    simp only [b1] at p
    cases h1 : S.seq l with
    | some ds =>
      rw [h1] at p
      obtain ⟨a, xs, e1, e2, e3⟩ := seq_of rs h1 rd
      subst e1
      exact call_tuple_of pins s σ' H _ us Q I r ⟨a, xs, rfl, .inl ⟨e2, fun q hq => Post.tup p rs hq e3⟩⟩
    | none => rw [h1] at p; exact p.elim
  | _ => exact p.elim
theorem cr_dict (hz : Z.K = X.K) : CallR X (.type "dict") (rB1 Z .dct) := by
  obtain ⟨K, T, W, u⟩ := Z
  have hz : K = X.K := hz
  subst hz
  intro pins s σ' H xs us Q I r ⟨ρ, σ, S, d, x, e, rs, rd, p⟩
  subst e
  cases d with
  | ref l =>
    simp only [b1] at p
    cases h2 : S.dic l with
    | some ds =>
      rw [h2] at p
      obtain ⟨a, xs, e1, e2, e3⟩ := dic_of rs h2 rd
      subst e1
      obtain ⟨u, rfl, ru⟩ := vals_1 r
      cases (show u = Value.ref a from ru)
      exact d_copyOf I e2 fun q s' hq I' => ⟨.ref q, _, I', rfl, Post.new p rs hq (RO.dct_new hq e3)⟩
    | none => rw [h2] at p; exact p.elim
  | _ => exact p.elim
theorem sort_list {K : PySem.W.Frag} {ρ : List Addr} {H : Hp} {ts : List Tx} {xs : List V} (r : Paired (RV K ρ H) (ofT ts) xs) : xs = (ts.map sx).map V.str := RVs.txts (RVs_iff.mpr r)
theorem sort_listI {K : PySem.W.Frag} {ρ : List Addr} {H : Hp} {ts : List Int} {xs : List V} (r : Paired (RV K ρ H) (ofI ts) xs) : xs = ts.map V.int := RVs.ints (RVs_iff.mpr r)
theorem cr_sortedM (hz : Z.K = X.K) (hc : X.calm = true) : CallR X (.builtin "sorted") (rB1 Z .sorted) := by
  obtain ⟨K, T, W, u⟩ := Z
  have hz : K = X.K := hz
  subst hz
  intro pins s σ' H xs us Q I r ⟨ρ, σ, S, d, x, e, rs, rd, p⟩
  subst e
  cases d with
  | ref l =>
    simp only [b1] at p
    cases h1 : S.seq l with
    | some ds =>
      rw [h1] at p
      obtain ⟨a, xs, e1, e2, e3⟩ := seq_of rs h1 rd
      subst e1
      dsimp only at p
      split at p
      · rename_i es hs
        unfold sortD at hs
        split at hs
        · rename_i h64
          split at hs
          · rename_i ts ht
            cases hs
            have hd := txtsOf_eq ht
            subst hd
            have hx := sort_list e3
            subst hx
            refine cr_sortedS pins s σ' H _ us Q I r ⟨a, ts.map sx, rfl, e2, by simpa [ofT] using h64, fun ys q pm so hq => ?_⟩
            obtain ⟨k, rfl, pm'⟩ := perm_sx pm
            have := sortT_eq pm' (sortedS_pw so)
            subst this
            exact Post.new p rs hq (RO.lst_new hq (RVs_iff.mp RVs.of_txts))
          · obtain ⟨ns, hn, hs⟩ := Option.map_eq_some_iff.mp hs
            subst hs
            have hd := numsOf_eq hn
            subst hd
            have hx := sort_listI e3
            subst hx
            refine cr_sorted pins s σ' H _ us Q I r ⟨a, ns, rfl, e2, by simpa [ofI] using h64, fun ys q pm so hq => ?_⟩
            have := sortI_eq pm so
            subst this
            exact Post.new p rs hq (RO.lst_new hq (RVs_iff.mp RVs.of_ints))
        · cases hs
      · exact p.elim
    | none =>
      rw [h1] at p
      cases h2 : S.dct l with
      | some kvs =>
        rw [h2] at p
        obtain ⟨a, xs, e1, e2, e3, _⟩ := dct_of rs h2 rd
        subst e1
        dsimp only at p
        have hk := RK.keys e3
        split at p
        · rename_i es hs
          unfold sortD at hs
          split at hs
          · rename_i h64
            split at hs
            · rename_i ts ht
              cases hs
              rw [txtsOf_eq ht] at hk
              have hx := sort_list hk
              refine call_sortedD hc pins s σ' H _ us Q I r ⟨a, xs, ts.map sx, rfl, .inl e2, ?_, ?_, fun ys q pm so hq => ?_⟩
              · have : (xs.map (·.1)).map kV = ((ts.map sx).map Sum.inr).map kV := by
                  rw [List.map_map, List.map_map, List.map_map]
                  rw [List.map_map] at hx
                  exact hx
                exact List.map_inj_right (fun _ _ h => kV_inj h) |>.mp this
              · rw [List.length_map, ← List.length_map (f := D.str), show ts.map D.str = ofT ts from rfl, ← txtsOf_eq ht]; exact h64
              · obtain ⟨k, rfl, pm'⟩ := perm_sx pm
                have := sortT_eq pm' (sortedS_pw so)
                subst this
                exact Post.new p rs hq (RO.lst_new hq (RVs_iff.mp RVs.of_txts))
            · obtain ⟨ns, hn, hs⟩ := Option.map_eq_some_iff.mp hs
              subst hs
              rw [numsOf_eq hn] at hk
              have hx := sort_listI hk
              refine call_sortedDI hc pins s σ' H _ us Q I r ⟨a, xs, ns, rfl, .inl e2, ?_, ?_, fun ys q pm so hq => ?_⟩
              · have : (xs.map (·.1)).map kV = (ns.map Sum.inl).map kV := by
                  rw [List.map_map, List.map_map]
                  exact hx
                exact List.map_inj_right (fun _ _ h => kV_inj h) |>.mp this
              · rw [← List.length_map (f := D.int), show ns.map D.int = ofI ns from rfl, ← numsOf_eq hn]; exact h64
              · have := sortI_eq pm so
                subst this
                exact Post.new p rs hq (RO.lst_new hq (RVs_iff.mp RVs.of_ints))
          · cases hs
        · exact p.elim
      | none => rw [h2] at p; exact p.elim
  | _ => exact p.elim
end
end Mi
end

section
set_option linter.all false
set_option maxRecDepth 100000
set_option Elab.async false
/-! calls of built-ins by name, methods of built-in types -/
namespace Mi
open PySem PySem.Spec L2
open PyProof.Rows hiding St

section
variable {X : Cx} {Z : Cz} {C : Cf} {a b c e o : Expr} {x y z : Ex} {pos p apos : Pos} {rest : List Expr} {n : Str} {id T : String}
theorem e_b1B (f : B1) (hcr : CallR X (.builtin id) (rB1 Z f)) (hg : Gl X n) (hm : X.mg n = none) (hv : bootBuiltins n = some (.builtin id)) (ha : PE X a (L Z (ev C x))) (hn : n ≠ "__name__" := by decide +kernel) (hdb : (n == ("__debug__" : Str)) = false := by decide +kernel)
    (he : starEach [a] X.env = (false, eval a X.env) :: starEach [] X.env := by rfl) (hpl : (backTo pos (starEach [] X.env)).any (·.1) = false := by rfl) : PE X (.Call (.Name n p) [a] [] pos) (L Z (ev C (.b1 f x))) :=
  PE_imp (pe_callB hcr hg hm hv (pa_cons ha pa_nil he) hn hdb he hpl) fun σ H Q h => L_bind (m := ev C x) (f := fun ε d S => b1 f d S) h fun ρ ε S d v H1 re rs rv p => ⟨ρ, σ, S, d, v, rfl, rs, rv, p⟩
theorem e_b1T (f : B1) (hcr : CallR X (.type T) (rB1 Z f)) (hg : Gl X n) (hm : X.mg n = none) (hv : bootBuiltins n = some (.type T)) (ha : PE X a (L Z (ev C x))) (hn : n ≠ "__name__" := by decide +kernel) (hdb : (n == ("__debug__" : Str)) = false := by decide +kernel)
    (he : starEach [a] X.env = (false, eval a X.env) :: starEach [] X.env := by rfl) (hpl : (backTo pos (starEach [] X.env)).any (·.1) = false := by rfl) : PE X (.Call (.Name n p) [a] [] pos) (L Z (ev C (.b1 f x))) :=
  PE_imp (pe_callTy hcr hg hm hv (pa_cons ha pa_nil he) hn hdb he hpl) fun σ H Q h => L_bind (m := ev C x) (f := fun ε d S => b1 f d S) h fun ρ ε S d v H1 re rs rv p => ⟨ρ, σ, S, d, v, rfl, rs, rv, p⟩
def rB2 (Z : Cz) (f : B2) : List V → Hp → VK → Prop := fun xs H Q => ∃ ρ σ S d e x y, xs = [x, y] ∧ RS Z.K Z.T ρ H S ∧ RV Z.K ρ H d x ∧ RV Z.K ρ H e y ∧ Post Z.K Z.T Z.W (rV Z.K) ρ σ H (b2 f d e S) Q
theorem cr_max (hc : X.calm = true) : CallR X (.builtin "max") (rB2 Z .max) := by
  intro pins s σ' H xs us Q I r ⟨ρ, σ, S, d, e, x, y, e1, rs, rd, re, p⟩
  subst e1
  cases d with
  | int i => cases e with
    | int j => exact call_max2 hc pins s σ' H _ us Q I r ⟨i, j, by rw [show x = .int i from rd, show y = .int j from re], Post.ok p rs rfl⟩
    | _ => exact p.elim
  | _ => exact p.elim
theorem cr_min (hc : X.calm = true) : CallR X (.builtin "min") (rB2 Z .min) := by
  intro pins s σ' H xs us Q I r ⟨ρ, σ, S, d, e, x, y, e1, rs, rd, re, p⟩
  subst e1
  cases d with
  | int i => cases e with
    | int j => exact call_min2 hc pins s σ' H _ us Q I r ⟨i, j, by rw [show x = .int i from rd, show y = .int j from re], Post.ok p rs rfl⟩
    | _ => exact p.elim
  | _ => exact p.elim
theorem e_b2 (f : B2) (hcr : CallR X (.builtin id) (rB2 Z f)) (hg : Gl X n) (hm : X.mg n = none) (hv : bootBuiltins n = some (.builtin id)) (ha : PE X a (L Z (ev C x))) (hb : PE X b (L Z (ev C y))) (hn : n ≠ "__name__" := by decide +kernel) (hdb : (n == ("__debug__" : Str)) = false := by decide +kernel)
    (he : starEach [a, b] X.env = (false, eval a X.env) :: starEach [b] X.env := by rfl) (he2 : starEach [b] X.env = (false, eval b X.env) :: starEach [] X.env := by rfl) (hpl : (backTo pos (starEach [b] X.env)).any (·.1) = false := by rfl) : PE X (.Call (.Name n p) [a, b] [] pos) (L Z (ev C (.b2 f x y))) :=
  PE_imp (pe_callB hcr hg hm hv (pa_cons ha (pa_cons hb pa_nil he2) he) hn hdb he hpl) fun σ H Q h => L_bind (m := ev C x) (f := fun ε d S => (ev C y ε S).bind fun e S2 => b2 f d e S2) h fun ρ ε S d v H1 re rs rv p =>
    ⟨ρ, ε, S, re, rs, p.bind fun ρ2 H2 e w S2 g rs2 rw q => ⟨ρ2, σ, S2, d, e, v, w, rfl, rs2, rv.up g, rw, q⟩⟩
/-! ### isinstance -/
def tyN : Ty → String
  | .int => "int" | .bool => "bool" | .str => "str" | .tup => "tuple" | .lst => "list" | .dct => "dict"
theorem kit_all (t : Ty) : kitB "NoneType" (tyN t) = some false ∧ kitB "bool" (tyN t) = some (decide (t = .bool) || decide (t = .int)) ∧ kitB "int" (tyN t) = some (decide (t = .int)) ∧ kitB "str" (tyN t) = some (decide (t = .str)) ∧
    kitB "tuple" (tyN t) = some (decide (t = .tup)) ∧ kitB "list" (tyN t) = some (decide (t = .lst)) ∧ kitB "dict" (tyN t) = some (decide (t = .dct)) := by
  cases t <;> refine ⟨?_, ?_, ?_, ?_, ?_, ?_, ?_⟩ <;> decide +kernel
theorem isTy_ok {K : PySem.W.Frag} {Tg : GA} {ρ : List Addr} {H : Hp} {S : Sto} {t : Ty} {d : D} {v : V} {k : Bool} (rs : RS K Tg ρ H S) (rv : RV K ρ H d v) (h : isTy t d S = some k) : ∃ u, TyX K H v u ∧ PySem.W.kitOne K u (.type (tyN t)) = some k := by
  obtain ⟨k1, k2, k3, k4, k5, k6, k7⟩ := kit_all t
  cases d with
  | non => cases (show v = _ from rv); cases h; exact ⟨_, .base .non, kit_ty k1⟩
  | bl b => cases (show v = _ from rv); cases h; exact ⟨_, .base (.bl b), kit_ty k2⟩
  | int b => cases (show v = _ from rv); cases h; exact ⟨_, .base (.int b), kit_ty k3⟩
  | str b => cases (show v = _ from rv); cases h; exact ⟨_, .base (.str _), kit_ty k4⟩
  | tup ds =>
    obtain ⟨a, xs, e1, e2, _⟩ := rv
    subst e1
    cases h
    rcases e2 with (q | ⟨o, q⟩) | ⟨o, its, n, q, q2, _⟩
    · exact ⟨_, .base (.tup q), kit_ty k5⟩
    · exact ⟨_, .fTuple q, kit_ty k5⟩
    · exact ⟨_, .kTuple q q2, kit_ty k5⟩
  | ref l =>
    simp only [isTy] at h
    obtain ⟨a, e1, rv⟩ := rv
    subst rv
    split at h
    · rename_i ds hs
      cases h
      obtain ⟨a', e1', xs, q, _⟩ := rs.obj hs
      rw [e1] at e1'; cases e1'
      exact ⟨_, .base (.lst q), kit_ty k6⟩
    · rename_i ds hs
      cases h
      obtain ⟨a', e1', xs, q, _⟩ := rs.obj hs
      rw [e1] at e1'; cases e1'
      exact ⟨_, .base (.dK q), kit_ty k7⟩
    · cases h
theorem e_isi (t : Ty) (hz : Z.K = X.K) {m : Str} {p2 : Pos} (hg : Gl X n) (hm : X.mg n = none) (hv : bootBuiltins n = some (.builtin "isinstance")) (hg2 : Gl X m) (hm2 : X.mg m = none) (hv2 : bootBuiltins m = some (.type (tyN t))) (ha : PE X a (L Z (ev C x)))
    (hn : n ≠ "__name__" := by decide +kernel) (hdb : (n == ("__debug__" : Str)) = false := by decide +kernel) (hn2 : m ≠ "__name__" := by decide +kernel) (hdb2 : (m == ("__debug__" : Str)) = false := by decide +kernel)
    (he : starEach [a, .Name m p2] X.env = (false, eval a X.env) :: starEach [.Name m p2] X.env := by rfl) (he2 : starEach [.Name m p2] X.env = (false, eval (.Name m p2) X.env) :: starEach [] X.env := by rfl) (hpl : (backTo pos (starEach [.Name m p2] X.env)).any (·.1) = false := by rfl) :
    PE X (.Call (.Name n p) [a, .Name m p2] [] pos) (L Z (ev C (.b1 (.isi t) x))) :=
  PE_imp (pe_callB call_isi hg hm hv (pa_cons ha (pa_cons (pe_bltn (v := .ty (tyN t)) hg2 hm2 hv2 rfl hn2 hdb2) pa_nil he2) he) hn hdb he hpl) fun σ H Q h => L_bind (m := ev C x) (f := fun ε d S => b1 (.isi t) d S) h fun ρ ε S d v H1 re rs rv p => by
    simp only [b1] at p
    split at p
    · rename_i k hk
      rw [hz] at rs rv
      obtain ⟨u, ty, ki⟩ := isTy_ok rs rv hk
      exact ⟨v, .ty (tyN t), u, .type (tyN t), k, rfl, .ty _, ty, ki, Post.ok p (hz ▸ rs) rfl⟩
    · exact p.elim
/-! ### PARTS -/
def PartsOk (K : PySem.W.Frag) (w : World) (mg : Str → Option Value) (n : Str) : Prop := ∃ d es m, mg n = some (.ref d) ∧ KDict K w d es m ∧ ∀ t : Tx, ∃ r, PySem.W.nsIn K d (sx t) = some r ∧ (match partsOf t with
  | none => r = none
  | some k => ∃ tok, r = some (.int k tok))
theorem e_parts {q : Pos} (hg : Gl X n) (P : PartsOk X.K X.w X.mg n) (ha : PE X a (L Z (ev C x))) (hdb : (n == ("__debug__" : Str)) = false := by decide +kernel) (hs : PlainIx a := by intro _ _; rfl) : PE X (.Subscript (.Name n q) a pos) (L Z (ev C (.parts x))) := by
  obtain ⟨d, es, m, hm, D, hp⟩ := P
  exact PE_imp (pe_ix ix_kdict (pe_glob (v := .ref d) hg hm rfl hdb) ha hs) fun σ H Q h => L_bind (m := ev C x) (f := fun ε d S => match d with
    | .str t => (match partsOf t with
      | some n => .ok (.int n) S
      | none => .bad)
    | _ => .bad) h fun ρ ε S dd v H1 re rs rv p => by
      cases dd with
      | str t =>
        obtain ⟨r, h1, h2⟩ := hp t
        dsimp only at p
        split at p
        · rename_i k hk
          rw [hk] at h2
          obtain ⟨tok, h2⟩ := h2
          subst h2
          exact ⟨d, sx t, .int k, rfl, rv, ⟨es, m, _, D.at_, D.lit, h1, ⟨tok, rfl⟩⟩, Post.ok p rs rfl⟩
        · exact p.elim
      | _ => exact p.elim
theorem in_parts {d : Addr} {es : Array DictEntry} {m : Nat} (D : KDict X.K X.w d es m) (hp : ∀ t : Tx, ∃ r, PySem.W.nsIn X.K d (sx t) = some r ∧ (match partsOf t with
  | none => r = none
  | some k => ∃ tok, r = some (.int k tok))) {σ : St} {H : Hp} {Q : VK} (h : L Z (ev C (.inParts x)) σ H Q) : L Z (ev C x) σ H fun v H1 => ∃ (z : Str) (r : Option Value), v = .str z ∧ (V.ref d) = .ref d ∧ PySem.W.nsIn X.K d z = some r ∧ Q (.bl r.isSome) H1 :=
  L_bind (m := ev C x) (f := fun ε d S => match d with
    | .str t => .ok (.bl (partsOf t).isSome) S
    | _ => .bad) h fun ρ ε S dd v H1 re rs rv p => by
      cases dd with
      | str t =>
        obtain ⟨r, h1, h2⟩ := hp t
        refine ⟨sx t, r, rv, rfl, h1, ?_⟩
        have : r.isSome = (partsOf t).isSome := by
          split at h2
          · rename_i h; rw [h2, h]; rfl
          · rename_i k h; obtain ⟨tok, h2⟩ := h2; rw [h2, h]; rfl
        rw [this]
        exact Post.ok p rs rfl
      | _ => exact p.elim
theorem e_inParts {q : Pos} (hg : Gl X n) (P : PartsOk X.K X.w X.mg n) (ha : PE X a (L Z (ev C x))) (hm : behindInMarks .In (.Name n q) = false := by rfl) (hdb : (n == ("__debug__" : Str)) = false := by decide +kernel) : PE X (.Compare a [.In] [.Name n q] pos) (L Z (ev C (.inParts x))) := by
  obtain ⟨d, es, m, hm', D, hp⟩ := P
  exact PE_imp (pe_cmpR (op_in_kd D) ha (pe_glob (v := .ref d) hg hm' rfl hdb) hm) fun σ H Q h => in_parts D hp h
theorem t_inParts {q : Pos} (hg : Gl X n) (P : PartsOk X.K X.w X.mg n) (ha : PE X a (L Z (ev C x))) (hm : behindInMarks .In (.Name n q) = false := by rfl) (hdb : (n == ("__debug__" : Str)) = false := by decide +kernel) : PT X (.Compare a [.In] [.Name n q] pos) (LT Z (ev C (.inParts x))) := by
  obtain ⟨d, es, m, hm', D, hp⟩ := P
  exact PT_imp (pt_cmpR (op_in_kd D) ha (pe_glob (v := .ref d) hg hm' rfl hdb) hm) fun σ H Q h => in_parts D hp h
/-! ### methods of lists -/
def rM0 (Z : Cz) (m : M0) : V → List V → Hp → VK → Prop := fun x xs H Q => ∃ ρ σ S d, xs = [] ∧ RS Z.K Z.T ρ H S ∧ RV Z.K ρ H d x ∧ Post Z.K Z.T Z.W (rV Z.K) ρ σ H (m0 m d S) Q
def rM1 (Z : Cz) (m : M1) : V → List V → Hp → VK → Prop := fun x xs H Q => ∃ ρ σ S d e y, xs = [y] ∧ RS Z.K Z.T ρ H S ∧ RV Z.K ρ H d x ∧ RV Z.K ρ H e y ∧ Post Z.K Z.T Z.W (rV Z.K) ρ σ H (m1 m d e S) Q
theorem mt_lpop0 (hz : Z.K = X.K) : MtR X "list.pop" (rM0 Z .pop) := by
  intro pins s σ' H x xs v us Q I rx r ⟨ρ, σ, S, d, e1, rs, rd, p⟩
  subst e1
  cases d with
  | ref l =>
    simp only [m0] at p
    split at p
    · rename_i ds hs
      split at p
      · rename_i d hd
        obtain ⟨a, ys, e2, e3, e4, e5⟩ := lst_of rs hs rd
        subst e2
        rw [pr_len e4] at hd
        obtain ⟨w, h1, h2⟩ := pr_get e4 hd
        have g : Gu Z.K ρ ρ H (upd H a (.lst ys.dropLast)) := Gu.write rs e5 (nfz e3 rfl)
        exact mt_pop pins s σ' H _ _ v us Q I rx r ⟨a, ys, w, rfl, rfl, e3, h1, Post.ok' p g (rs.write e5 (nfz e3 rfl) ⟨_, upd_same, RVp.up g (pr_dropLast e4)⟩) (h2.up g)⟩
      · exact p.elim
    · exact p.elim
  | _ => exact p.elim
theorem mt_lclear (hz : Z.K = X.K) : MtR X "list.clear" (rM0 Z .lclear) := by
  intro pins s σ' H x xs v us Q I rx r ⟨ρ, σ, S, d, e1, rs, rd, p⟩
  subst e1
  cases d with
  | ref l =>
    simp only [m0] at p
    split at p
    · rename_i ds hs
      obtain ⟨a, ys, e2, e3, e4, e5⟩ := lst_of rs hs rd
      subst e2
      have g : Gu Z.K ρ ρ H (upd H a (.lst [])) := Gu.write rs e5 (nfz e3 rfl)
      exact mt_clear pins s σ' H _ _ v us Q I rx r ⟨a, ys, rfl, rfl, e3, Post.ok' p g (rs.write e5 (nfz e3 rfl) ⟨_, upd_same, .nil⟩) rfl⟩
    · exact p.elim
  | _ => exact p.elim
theorem mt_dclear (hz : Z.K = X.K) : MtR X "dict.clear" (rM0 Z .dclear) := by
  intro pins s σ' H x xs v us Q I rx r ⟨ρ, σ, S, d, e1, rs, rd, p⟩
  subst e1
  cases d with
  | ref l =>
    simp only [m0] at p
    split at p
    · rename_i ds hs
      obtain ⟨a, ys, e2, e3, e4, e5⟩ := dct_of rs hs rd
      subst e2
      have g : Gu Z.K ρ ρ H (upd H a (.dK [])) := Gu.write rs e5 (nfz e3 rfl)
      exact mtd_clear pins s σ' H _ _ v us Q I rx r ⟨a, ys, rfl, rfl, e3, Post.ok' p g (rs.write e5 (nfz e3 rfl) ⟨_, upd_same, .nil⟩) rfl⟩
    · exact p.elim
  | _ => exact p.elim
theorem mt_lappend (hz : Z.K = X.K) : MtR X "list.append" (rM1 Z .append) := by
  intro pins s σ' H x xs v us Q I rx r ⟨ρ, σ, S, d, e, y, e1, rs, rd, re, p⟩
  subst e1
  cases d with
  | ref l =>
    simp only [m1] at p
    split at p
    · rename_i ds hs
      split at p
      · rename_i hl
        obtain ⟨a, ys, e2, e3, e4, e5⟩ := lst_of rs hs rd
        subst e2
        have g : Gu Z.K ρ ρ H (upd H a (.lst (ys ++ [y]))) := Gu.write rs e5 (nfz e3 rfl)
        exact mt_append pins s σ' H _ _ v us Q I rx r ⟨a, ys, y, rfl, rfl, e3, by rw [← pr_len e4]; exact hl, Post.ok' p g (rs.write e5 (nfz e3 rfl) ⟨_, upd_same, RVp.up g (pr_app e4 (.cons re .nil))⟩) rfl⟩
      · exact p.elim
    · exact p.elim
  | _ => exact p.elim
theorem mt_lextend (hz : Z.K = X.K) : MtR X "list.extend" (rM1 Z .extend) := by
  intro pins s σ' H x xs v us Q I rx r ⟨ρ, σ, S, d, e, y, e1, rs, rd, re, p⟩
  subst e1
  cases d with
  | ref l =>
    cases e with
    | ref m =>
      simp only [m1] at p
      split at p
      · rename_i ds es hs ht
        split at p
        · rename_i hl
          obtain ⟨a, ys, e2, e3, e4, e5⟩ := lst_of rs hs rd
          obtain ⟨b, zs, f2, f3, f4, f5⟩ := lst_of rs ht re
          subst e2 f2
          have g : Gu Z.K ρ ρ H (upd H a (.lst (ys ++ zs))) := Gu.write rs e5 (nfz e3 rfl)
          exact mt_extend pins s σ' H _ _ v us Q I rx r ⟨a, b, ys, zs, rfl, rfl, e3, f3, by rw [← pr_len e4, ← pr_len f4]; exact hl, Post.ok' p g (rs.write e5 (nfz e3 rfl) ⟨_, upd_same, RVp.up g (pr_app e4 f4)⟩) rfl⟩
        · exact p.elim
      · exact p.elim
    | _ => exact p.elim
  | _ => exact p.elim
theorem mt_lpop1 (hz : Z.K = X.K) : MtR X "list.pop" (rM1 Z .lpop) := by
  intro pins s σ' H x xs v us Q I rx r ⟨ρ, σ, S, d, e, y, e1, rs, rd, re, p⟩
  subst e1
  cases d with
  | ref l =>
    simp only [m1] at p
    split at p
    · rename_i ds hs
      split at p
      · rename_i i
        split at p
        · rename_i hl
          split at p
          · rename_i k hk
            split at p
            · rename_i d hd
              obtain ⟨a, ys, e2, e3, e4, e5⟩ := lst_of rs hs rd
              subst e2
              have re : y = .int i := re
              subst re
              obtain ⟨w, h1, h2⟩ := pr_get e4 hd
              have g : Gu Z.K ρ ρ H (upd H a (.lst (ys.eraseIdx k))) := Gu.write rs e5 (nfz e3 rfl)
              exact mt_popAt pins s σ' H _ _ v us Q I rx r ⟨a, ys, i, k, w, rfl, rfl, e3, hl.1, hl.2, by rw [← pr_len e4]; exact (ixN_seq hk).1, h1, Post.ok' p g (rs.write e5 (nfz e3 rfl) ⟨_, upd_same, RVp.up g (pr_erase k e4)⟩) (h2.up g)⟩
            · exact p.elim
          · exact p.elim
        · exact p.elim
      · exact p.elim
    · exact p.elim
  | _ => exact p.elim
theorem mt_lindex (hz : Z.K = X.K) : MtR X "list.index" (rM1 Z .index) := by
  obtain ⟨K, T, W, u⟩ := Z
  have hz : K = X.K := hz
  subst hz
  intro pins s σ' H x xs v us Q I rx r ⟨ρ, σ, S, d, e, y, e1, rs, rd, re, p⟩
  subst e1
  cases d with
  | ref l =>
    simp only [m1] at p
    split at p
    · rename_i ds hs
      split at p
      · rename_i hf
        rw [Bool.and_eq_true] at hf
        split at p
        · rename_i k hk
          obtain ⟨a, ys, e2, e3, e4⟩ := seq_of rs hs rd
          subst e2
          unfold idxOf at hk
          obtain ⟨hlt, hhit, hno⟩ := List.findIdx?_eq_some_iff_getElem.mp hk
          obtain ⟨w, h1, h2⟩ := pr_get (x := ds[k]) e4 (List.getElem?_eq_getElem hlt)
          refine mt_index pins s σ' H _ _ v us Q I rx r ⟨a, ys, y, k, w, rfl, rfl, e3, flat_V hf.1 re, flat_all e4 hf.2, h1, ?_, fun m z' hm hz' => ?_, Post.ok p rs rfl⟩
          · rw [flat_eq (List.all_eq_true.mp hf.2 _ (List.getElem_mem hlt)) hf.1 h2 re]; exact hhit
          · have hm' : m < ds.length := by omega
            obtain ⟨w', h3, h4⟩ := pr_get (x := ds[m]) e4 (List.getElem?_eq_getElem hm')
            rw [h3] at hz'; cases hz'
            rw [flat_eq (List.all_eq_true.mp hf.2 _ (List.getElem_mem hm')) hf.1 h4 re]
            simpa using hno m hm
        · exact p.elim
      · exact p.elim
    · exact p.elim
  | _ => exact p.elim
/-! ### methods of texts -/
theorem find_one (t : Tx) (c : Nat) : Txt.find (sx t) (sx [c]) = findC c t := by
  unfold Txt.find findC
  have at_ : ∀ i, StrLaws.At (sx t) (sx [c]) (sx t).length i ↔ t[i]? = some c := fun i => StrLaws.subAt_one (sx t) c i
  rcases StrLaws.occ_head (sx t) (sx [c]) 1 (Nat.le_refl _) with ⟨h0, hn⟩ | ⟨i, r, h0, hi, hn⟩
  · rw [h0]
    have : t.findIdx? (· == c) = none := by
      rw [List.findIdx?_eq_none_iff]
      intro x hx
      cases hb : x == c with
      | false => rfl
      | true =>
        have hb : x = c := by simpa using hb
        subst hb
        obtain ⟨i, hi⟩ := List.getElem?_of_mem hx
        exact absurd ((at_ i).mpr hi) (hn i)
    rw [this]
  · rw [h0]
    have hi := (at_ i).mp hi
    obtain ⟨hl, he⟩ := List.getElem?_eq_some_iff.mp hi
    have : t.findIdx? (· == c) = some i := by
      rw [List.findIdx?_eq_some_iff_getElem]
      refine ⟨hl, by simpa using he, fun j hj => ?_⟩
      intro hb
      have hb : t[j] = c := by simpa using hb
      exact hn j hj ((at_ j).mpr (by rw [List.getElem?_eq_getElem (by omega), hb]))
    rw [this]
theorem mt_tfind : MtR X "str.find" (rM1 Z .find) := by
  intro pins s σ' H x xs v us Q I rx r ⟨ρ, σ, S, d, e, y, e1, rs, rd, re, p⟩
  subst e1
  cases d with
  | str t =>
    cases e with
    | str u =>
      match u, re, p with
      | [c], re, p =>
        refine mt_find pins s σ' H _ _ v us Q I rx r ⟨sx t, sx [c], rd, by rw [show y = .str (sx [c]) from re], ?_⟩
        have := find_one t c
        rw [this]
        exact Post.ok p rs rfl
      | [], re, p => exact p.elim
      | _ :: _ :: _, re, p => exact p.elim
    | _ => exact p.elim
  | _ => cases e <;> exact p.elim
theorem mt_tsplit (hz : Z.K = X.K) : MtR X "str.split" (rM1 Z .split) := by
  intro pins s σ' H x xs v us Q I rx r ⟨ρ, σ, S, d, e, y, e1, rs, rd, re, p⟩
  subst e1
  cases d with
  | str t =>
    cases e with
    | str u =>
      simp only [m1] at p
      split at p
      · rename_i hl
        have hk : (sx u).cps.all (· < 256) = true := by
          simpa [sx] using hl.2.1
        refine mt_split pins s σ' H _ _ v us Q I rx r ⟨sx t, sx u, rd, by rw [show y = .str (sx u) from re], ?_, by rw [sx_len]; exact hl.2.2, fun q hq => ?_⟩
        · rw [sx_len]
          cases u with
          | nil => exact absurd rfl hl.1
          | cons _ _ => rfl
        · have := TL.split_spl (sx t) (sx u) hl.1 (TL.kind_ok hk)
          have e : Txt.split (sx t) (sx u) = (TL.spl u 0 [] t).map sx := TL.map_tl_inj (by rw [this, List.map_map]; exact (List.map_id'' (fun x => rfl) _).symm)
          rw [e]
          exact Post.new p rs hq (RO.lst_new hq (RVs_iff.mp RVs.of_txts))
      · exact p.elim
    | _ => exact p.elim
  | _ => cases e <;> exact p.elim
theorem mt_tpart (hz : Z.K = X.K) : MtR X "str.partition" (rM1 Z .partition) := by
  intro pins s σ' H x xs v us Q I rx r ⟨ρ, σ, S, d, e, y, e1, rs, rd, re, p⟩
  subst e1
  cases d with
  | str t =>
    cases e with
    | str u =>
      simp only [m1] at p
      split at p
      · rename_i hl
        have hk : (sx u).cps.all (· < 256) = true := by
          simpa [sx] using hl.2.1
        refine mt_partition pins s σ' H _ _ v us Q I rx r ⟨sx t, sx u, rd, by rw [show y = .str (sx u) from re], ?_, by rw [sx_len]; exact hl.2.2, fun q hq => ?_⟩
        · rw [sx_len]
          cases u with
          | nil => exact absurd rfl hl.1
          | cons _ _ => rfl
        · have e := TL.partition_par (sx t) (sx u) hl.1
          have e' : TL.par (TL.tl (sx u)) [] (TL.tl (sx t)) = TL.par u [] t := rfl
          rw [e'] at e
          split at p
          · rename_i a b hab
            rw [hab] at e
            rw [e]
            exact Post.tup p rs hq (.cons rfl (.cons rfl (.cons rfl .nil)))
          · rename_i hab
            rw [hab] at e
            rw [e]
            exact Post.tup p rs hq (.cons rfl (.cons rfl (.cons rfl .nil)))
      · exact p.elim
    | _ => exact p.elim
  | _ => cases e <;> exact p.elim
theorem join_size (t : Tx) : ∀ ts : List Tx, ((ts.map sx).map (·.length)).sum + ts.length * t.length ≤ (TL.joinL t ts).length + t.length
  | [] => by simp
  | [a] => by simp [TL.joinL, sx_len]
  | a :: b :: r => by
    have ih := join_size t (b :: r)
    simp only [List.map_cons, List.sum_cons, List.length_cons, TL.joinL, List.length_append, sx_len] at ih ⊢
    have : (r.length + 1 + 1) * t.length = (r.length + 1) * t.length + t.length := by rw [Nat.succ_mul]
    omega
end
end Mi
end

section
set_option linter.all false
set_option maxRecDepth 100000
set_option Elab.async false
/-! methods: the rules -/
namespace Mi
open PySem PySem.Spec L2
open PyProof.Rows hiding St

section
variable {X : Cx} {Z : Cz} {C : Cf} {a b c e o : Expr} {x y z : Ex} {pos p apos : Pos} {rest : List Expr} {n : Str} {id T : String}
theorem mt_tjoin (hz : Z.K = X.K) : MtR X "str.join" (rM1 Z .join) := by
  obtain ⟨K, T, W, u⟩ := Z
  have hz : K = X.K := hz
  subst hz
  intro pins s σ' H x xs v us Q I rx r ⟨ρ, σ, S, d, e, y, e1, rs, rd, re, p⟩
  subst e1
  cases d with
  | str t =>
    cases e with
    | ref l =>
      simp only [m1] at p
      split at p
      · rename_i ds hs
        split at p
        · rename_i ts hts
          split at p
          · rename_i hl
            obtain ⟨a, ys, e2, e3, e4⟩ := seq_of rs hs re
            subst e2
            have := txtsOf_eq hts
            subst this
            have := sort_list e4
            subst this
            refine mt_join pins s σ' H _ _ v us Q I rx r ⟨sx t, a, ts.map sx, rd, rfl, .inl e3, ?_, ?_⟩
            · have h := join_size t ts
              rw [List.length_map, sx_len]
              exact Nat.le_trans h hl
            · have e : Txt.join (sx t) (ts.map sx) = sx (TL.joinL t ts) := by
                rw [TL.join_eq]
                apply TL.ext_tl
                rw [TL.tl_join, List.map_map]
                have : ts.map (TL.tl ∘ sx) = ts := List.map_id'' (fun x => rfl) ts
                rw [this]
                rfl
              rw [e]
              exact Post.ok p rs rfl
          · exact p.elim
        · exact p.elim
      · exact p.elim
    | _ => exact p.elim
  | _ => cases e <;> exact p.elim
theorem tyList {K : PySem.W.Frag} {Tg : GA} {ρ : List Addr} {H : Hp} {S : Sto} {d : D} {v : V} (rs : RS K Tg ρ H S) (rv : RV K ρ H d v) (h : isSeq d S = true) : tyV K "list" v H := by
  cases d with
  | ref l =>
    obtain ⟨ds, h⟩ := Option.isSome_iff_exists.mp h
    obtain ⟨a, xs, e, q, _⟩ := seq_of rs h rv
    subst e
    exact .inl ⟨rfl, xs, q⟩
  | _ => cases h
theorem isD_of {K : PySem.W.Frag} {Tg : GA} {ρ : List Addr} {H : Hp} {S : Sto} {d : D} {v : V} (rs : RS K Tg ρ H S) (rv : RV K ρ H d v) (h : isDic d S = true) : ∃ a, v = .ref a ∧ IsD H a := by
  cases d with
  | ref l =>
    obtain ⟨ds, h⟩ := Option.isSome_iff_exists.mp h
    obtain ⟨a, xs, e, q, _⟩ := dic_of rs h rv
    exact ⟨a, e, .inl ⟨xs, q⟩⟩
  | _ => cases h
/-- the run behind a receiver -/
theorem recv_bind {f : D → D → Sto → Res D} {P : D → Sto → Bool} {σ : St} {H : Hp} {Q : VK} {k : V → Hp → Prop} (h : L Z (fun ε S => (ev C x ε S).bind fun d S1 => if P d S1 = true then (ev C y ε S1).bind fun e S2 => f d e S2 else .bad) σ H Q)
    (hk : ∀ ρ S d v H1, RS Z.K Z.T ρ H1 S → RV Z.K ρ H1 d v → P d S = true → (∀ k2 : V → Hp → Prop, (∀ ρ2 S2 e w H2, Gu Z.K ρ ρ2 H1 H2 → RS Z.K Z.T ρ2 H2 S2 → RV Z.K ρ2 H2 d v → RV Z.K ρ2 H2 e w → Post Z.K Z.T Z.W (rV Z.K) ρ2 σ H2 (f d e S2) Q → k2 w H2) → L Z (ev C y) σ H1 k2) → k v H1) : L Z (ev C x) σ H k :=
  L_bind (m := ev C x) (f := fun ε d S1 => if P d S1 = true then (ev C y ε S1).bind fun e S2 => f d e S2 else .bad) h fun ρ ε S d v H1 re rs rv p => by
    split at p
    · rename_i hp
      exact hk ρ S d v H1 rs rv hp fun k2 hk2 => ⟨ρ, ε, S, re, rs, p.bind fun ρ2 H2 e w S2 g rs2 rw q => hk2 ρ2 S2 e w H2 g rs2 (rv.up g) rw q⟩
    · exact p.elim
theorem e_m0L (m : M0) {name : Str} (slot : Slot "list" name id) (hty : typeOf (.builtin id) = pure (.type "method_descriptor")) (hm : MtR X id (rM0 Z m)) (hz : Z.K = X.K) (hk : m = .pop ∨ m = .lclear) (ho : PE X o (L Z (ev C x)))
    (hbase : attributeBase o name X.env (eval o X.env) = eval o X.env := by rfl) (hline : (apos.endLine == pos.line) = true := by rfl) : PE X (.Call (.Attribute o name apos) [] [] pos) (L Z (ev C (.m0 m x))) :=
  PE_imp (pe_bm0 PySem.F.plainAttrs_list slot hty hm ho hbase hline) fun σ H Q h => L_bind (m := ev C x) (f := fun ε d S => m0 m d S) h fun ρ ε S d v H1 re rs rv p => by
    refine ⟨?_, ρ, σ, S, d, rfl, rs, rv, p⟩
    rw [← hz]
    cases d with
    | ref l =>
      refine tyList rs rv ?_
      have : ∃ ds, S.lst l = some ds := by
        rcases hk with rfl | rfl <;> simp only [m0] at p <;> split at p <;> first | exact ⟨_, by assumption⟩ | exact p.elim
      obtain ⟨ds, h⟩ := this
      unfold Sto.lst at h
      unfold isSeq Sto.seq
      dsimp only
      split at h
      · rename_i hh; rw [hh]; rfl
      · cases h
    | _ => exact p.elim
theorem e_pop0 (hz : Z.K = X.K) (ho : PE X o (L Z (ev C x))) (hbase : attributeBase o "pop" X.env (eval o X.env) = eval o X.env := by rfl) (hline : (apos.endLine == pos.line) = true := by rfl) : PE X (.Call (.Attribute o "pop" apos) [] [] pos) (L Z (ev C (.m0 .pop x))) :=
  e_m0L .pop PySem.F.slot_list_pop PySem.F.type_list_pop (mt_lpop0 hz) hz (.inl rfl) ho hbase hline
theorem e_lclear (hz : Z.K = X.K) (ho : PE X o (L Z (ev C x))) (hbase : attributeBase o "clear" X.env (eval o X.env) = eval o X.env := by rfl) (hline : (apos.endLine == pos.line) = true := by rfl) : PE X (.Call (.Attribute o "clear" apos) [] [] pos) (L Z (ev C (.m0 .lclear x))) :=
  e_m0L .lclear PySem.F.slot_list_clear PySem.F.type_list_clear (mt_lclear hz) hz (.inr rfl) ho hbase hline
theorem e_dclear (hz : Z.K = X.K) (ho : PE X o (L Z (ev C x))) (hbase : attributeBase o "clear" X.env (eval o X.env) = eval o X.env := by rfl) (hline : (apos.endLine == pos.line) = true := by rfl) : PE X (.Call (.Attribute o "clear" apos) [] [] pos) (L Z (ev C (.m0 .dclear x))) :=
  PE_imp (pe_bm0 PySem.F.plainAttrs_dict PySem.F.slot_dict_clear PySem.F.type_dict_clear (mt_dclear hz) ho hbase hline) fun σ H Q h => L_bind (m := ev C x) (f := fun ε d S => m0 .dclear d S) h fun ρ ε S d v H1 re rs rv p => by
    refine ⟨?_, ρ, σ, S, d, rfl, rs, rv, p⟩
    cases d with
    | ref l =>
      simp only [m0] at p
      split at p
      · rename_i ds hs
        obtain ⟨a, ys, e2, e3, _⟩ := dct_of rs hs rv
        subst e2
        exact .inr (.inr (.inl ⟨rfl, .inl ⟨ys, e3⟩⟩))
      · exact p.elim
    | _ => exact p.elim
theorem e_m1L (m : M1) {name : Str} (slot : Slot "list" name id) (hty : typeOf (.builtin id) = pure (.type "method_descriptor")) (hm : MtR X id (rM1 Z m)) (hz : Z.K = X.K) (hk : ∀ d S, recv1 m d S = isSeq d S) (ho : PE X o (L Z (ev C x))) (ha : PE X a (L Z (ev C y)))
    (hbase : attributeBase o name X.env (eval o X.env) = eval o X.env := by rfl)
    (hfew : ((backTo pos (starEach [a] X.env)).all (fun x => !x.1) && (backToKw pos (keywordEach [] X.env)).all (fun x => x.1.isSome)
      && decide (([a] : List Expr).length + ([] : List Keyword).length + (if ([] : List Keyword).isEmpty then 0 else 1) < 30)) = true := by rfl)
    (hline : (apos.endLine == pos.line) = true := by rfl) (hs : starEach [a] X.env = (false, eval a X.env) :: starEach [] X.env := by rfl) (hplain : (backTo pos (starEach [] X.env)).any (·.1) = false := by rfl) :
    PE X (.Call (.Attribute o name apos) [a] [] pos) (L Z (ev C (.m1 m x y))) :=
  PE_imp (pe_bm PySem.F.plainAttrs_list slot hty hm ho (pa_cons ha pa_nil hs) hbase hfew hline hs hplain) fun σ H Q h => recv_bind (f := m1 m) (P := recv1 m) h fun ρ S d v H1 rs rv hp go => by
    refine ⟨?_, go _ fun ρ2 S2 e w H2 g rs2 rv2 rw2 q => ⟨ρ2, σ, S2, d, e, w, rfl, rs2, rv2, rw2, q⟩⟩
    rw [← hz]
    exact tyList rs rv (by rw [← hk]; exact hp)
section
variable (hz : Z.K = X.K) (ho : PE X o (L Z (ev C x))) (ha : PE X a (L Z (ev C y)))
    (hbase : ∀ name : Str, attributeBase o name X.env (eval o X.env) = eval o X.env := by intro _; rfl)
    (hfew : ((backTo pos (starEach [a] X.env)).all (fun x => !x.1) && (backToKw pos (keywordEach [] X.env)).all (fun x => x.1.isSome)
      && decide (([a] : List Expr).length + ([] : List Keyword).length + (if ([] : List Keyword).isEmpty then 0 else 1) < 30)) = true := by rfl)
    (hline : (apos.endLine == pos.line) = true := by rfl) (hs : starEach [a] X.env = (false, eval a X.env) :: starEach [] X.env := by rfl) (hplain : (backTo pos (starEach [] X.env)).any (·.1) = false := by rfl)
include hz ho ha hbase hfew hline hs hplain
theorem e_append : PE X (.Call (.Attribute o "append" apos) [a] [] pos) (L Z (ev C (.m1 .append x y))) := e_m1L .append PySem.F.slot_list_append PySem.F.type_list_append (mt_lappend hz) hz (fun _ _ => rfl) ho ha (hbase _) hfew hline hs hplain
theorem e_extend : PE X (.Call (.Attribute o "extend" apos) [a] [] pos) (L Z (ev C (.m1 .extend x y))) := e_m1L .extend PySem.F.slot_list_extend PySem.F.type_list_extend (mt_lextend hz) hz (fun _ _ => rfl) ho ha (hbase _) hfew hline hs hplain
theorem e_lpop : PE X (.Call (.Attribute o "pop" apos) [a] [] pos) (L Z (ev C (.m1 .lpop x y))) := e_m1L .lpop PySem.F.slot_list_pop PySem.F.type_list_pop (mt_lpop1 hz) hz (fun _ _ => rfl) ho ha (hbase _) hfew hline hs hplain
theorem e_index : PE X (.Call (.Attribute o "index" apos) [a] [] pos) (L Z (ev C (.m1 .index x y))) := e_m1L .index PySem.F.slot_list_index PySem.F.type_list_index (mt_lindex hz) hz (fun _ _ => rfl) ho ha (hbase _) hfew hline hs hplain
end
theorem e_m1T (m : M1) {name : Str} (slot : Slot "str" name id) (hty : typeOf (.builtin id) = pure (.type "method_descriptor")) (hm : MtR X id (rM1 Z m)) (hk : ∀ d S, recv1 m d S = isTxt d) (ho : PE X o (L Z (ev C x))) (ha : PE X a (L Z (ev C y)))
    (hs : starEach [a] X.env = [(false, eval a X.env)] := by rfl) (hbase : attributeBase o name X.env (eval o X.env) = eval o X.env := by rfl) (hline : (apos.endLine == pos.line) = true := by rfl) :
    PE X (.Call (.Attribute o name apos) [a] [] pos) (L Z (ev C (.m1 m x y))) :=
  PE_imp (pe_m1 slot hty hm ho ha hs hbase hline) fun σ H Q h => recv_bind (f := m1 m) (P := recv1 m) h fun ρ S d v H1 rs rv hp go => by
    rw [hk] at hp
    refine ⟨?_, go _ fun ρ2 S2 e w H2 g rs2 rv2 rw2 q => ⟨ρ2, σ, S2, d, e, w, rfl, rs2, rv2, rw2, q⟩⟩
    cases d with
    | str t => exact ⟨sx t, rv⟩
    | _ => cases hp
section
variable (hz : Z.K = X.K) (ho : PE X o (L Z (ev C x))) (ha : PE X a (L Z (ev C y)))
    (hs : starEach [a] X.env = [(false, eval a X.env)] := by rfl) (hbase : ∀ name : Str, attributeBase o name X.env (eval o X.env) = eval o X.env := by intro _; rfl) (hline : (apos.endLine == pos.line) = true := by rfl)
include hz ho ha hs hbase hline
theorem e_find : PE X (.Call (.Attribute o "find" apos) [a] [] pos) (L Z (ev C (.m1 .find x y))) := e_m1T .find PySem.F.slot_str_find PySem.F.type_str_find mt_tfind (fun _ _ => rfl) ho ha hs (hbase _) hline
theorem e_split : PE X (.Call (.Attribute o "split" apos) [a] [] pos) (L Z (ev C (.m1 .split x y))) := e_m1T .split PySem.F.slot_str_split PySem.F.type_str_split (mt_tsplit hz) (fun _ _ => rfl) ho ha hs (hbase _) hline
theorem e_join : PE X (.Call (.Attribute o "join" apos) [a] [] pos) (L Z (ev C (.m1 .join x y))) := e_m1T .join PySem.F.slot_str_join PySem.F.type_str_join (mt_tjoin hz) (fun _ _ => rfl) ho ha hs (hbase _) hline
theorem e_partition : PE X (.Call (.Attribute o "partition" apos) [a] [] pos) (L Z (ev C (.m1 .partition x y))) := e_m1T .partition PySem.F.slot_str_partition PySem.F.type_str_partition (mt_tpart hz) (fun _ _ => rfl) ho ha hs (hbase _) hline
end
/-! ### methods of dicts -/
theorem e_dpop (M : L2.M1 X o "pop" apos a pos) (ho : PE X o (L Z (ev C x))) (ha : PE X a (L Z (ev C y))) : PE X (.Call (.Attribute o "pop" apos) [a] [] pos) (L Z (ev C (.m1 .dpop x y))) :=
  PE_imp (pe_dpop1 ho ha M) fun σ H Q h => recv_bind (f := m1 .dpop) (P := recv1 .dpop) h fun ρ S d v H1 rs rv hp go => by
    obtain ⟨a', e1, e2⟩ := isD_of rs rv hp
    refine ⟨a', e1, e2, go _ fun ρ2 S2 e w H2 g rs2 rv2 rw2 q => ?_⟩
    cases d with
    | ref l =>
      simp only [m1] at q
      split at q
      · rename_i kvs ky h1 h2
        split at q
        · rename_i d hd
          obtain ⟨b, ys, f2, f3, f4, f5⟩ := dct_of rs2 h1 rv2
          subst e1
          cases f2
          rcases RK.get f4 ky with ⟨z, _⟩ | ⟨d', v', z1, z2, z3⟩
          · rw [hd] at z; cases z
          · rw [hd] at z1; cases z1
            have g : Gu Z.K ρ2 ρ2 H2 (upd H2 a' (.dK (dropK ys (kx ky)))) := Gu.write rs2 f5 (nfz f3 rfl)
            exact ⟨ys, kx ky, v', f3, key_rel h2 rw2, z2, Post.ok' q g (rs2.write f5 (nfz f3 rfl) ⟨_, upd_same, RK.up g (RK.drop ky f4)⟩) (z3.up g)⟩
        · exact q.elim
      · exact q.elim
    | _ => exact q.elim
theorem e_dget1 (hu : X.A.units + 80 < cLine) (M : L2.M1 X o "get" apos a pos) (ho : PE X o (L Z (ev C x))) (ha : PE X a (L Z (ev C y))) : PE X (.Call (.Attribute o "get" apos) [a] [] pos) (L Z (ev C (.m1 .get x y))) :=
  PE_imp (pe_dget1 (by omega) ho ha M) fun σ H Q h => recv_bind (f := m1 .get) (P := recv1 .get) h fun ρ S d v H1 rs rv hp go => by
    obtain ⟨a', e1, e2⟩ := isD_of rs rv hp
    refine ⟨a', e1, e2, go _ fun ρ2 S2 e w H2 g rs2 rv2 rw2 q => ?_⟩
    cases d with
    | ref l =>
      simp only [m1] at q
      split at q
      · rename_i kvs ky h1 h2
        obtain ⟨b, ys, f2, f3, f4⟩ := dic_of rs2 h1 rv2
        subst e1
        cases f2
        refine ⟨valV ys (kx ky), .inl ⟨ys, kx ky, f3, key_rel h2 rw2, rfl⟩, ?_⟩
        rcases RK.get f4 ky with ⟨z1, z2⟩ | ⟨d', v', z1, z2, z3⟩
        · rw [z1] at q; rw [z2]; exact Post.ok q rs2 rfl
        · rw [z1] at q; rw [z2]; exact Post.ok q rs2 z3
      · exact q.elim
    | _ => exact q.elim
theorem recv_bind2 {f : D → D → D → Sto → Res D} {P : D → Sto → Bool} {σ : St} {H : Hp} {Q : VK} {k : V → Hp → Prop} (h : L Z (fun ε S => (ev C x ε S).bind fun d S1 => if P d S1 = true then (ev C y ε S1).bind fun e S2 => (ev C z ε S2).bind fun g S3 => f d e g S3 else .bad) σ H Q)
    (hk : ∀ ρ S d v H1, RS Z.K Z.T ρ H1 S → RV Z.K ρ H1 d v → P d S = true → (∀ k2 : V → V → Hp → Prop, (∀ ρ2 S2 e w e' w' H2, RS Z.K Z.T ρ2 H2 S2 → RV Z.K ρ2 H2 d v → RV Z.K ρ2 H2 e w → RV Z.K ρ2 H2 e' w' → Post Z.K Z.T Z.W (rV Z.K) ρ2 σ H2 (f d e e' S2) Q → k2 w w' H2) →
      L Z (ev C y) σ H1 fun w H2 => L Z (ev C z) σ H2 fun w' H3 => k2 w w' H3) → k v H1) : L Z (ev C x) σ H k :=
  L_bind (m := ev C x) (f := fun ε d S1 => if P d S1 = true then (ev C y ε S1).bind fun e S2 => (ev C z ε S2).bind fun g S3 => f d e g S3 else .bad) h fun ρ ε S d v H1 re rs rv p => by
    split at p
    · rename_i hp
      exact hk ρ S d v H1 rs rv hp fun k2 hk2 => ⟨ρ, ε, S, re, rs, p.bind fun ρ2 H2 e w S2 g rs2 rw q => ⟨ρ2, ε, S2, re.up g, rs2, q.bind fun ρ3 H3 e' w' S3 g3 rs3 rw3 q3 => hk2 ρ3 S3 e w e' w' H3 rs3 ((rv.up g).up g3) (rw.up g3) rw3 q3⟩⟩
    · exact p.elim
theorem e_dget2 (hu : X.A.units + 80 < cLine) (M : L2.M2 X o "get" apos a b pos) (ho : PE X o (L Z (ev C x))) (ha : PE X a (L Z (ev C y))) (hb : PE X b (L Z (ev C z))) : PE X (.Call (.Attribute o "get" apos) [a, b] [] pos) (L Z (ev C (.m2 .get x y z))) :=
  PE_imp (pe_dget2 (by omega) ho ha hb M) fun σ H Q h => recv_bind2 (f := m2 .get) (P := isDic) h fun ρ S d v H1 rs rv hp go => by
    obtain ⟨a', e1, e2⟩ := isD_of rs rv hp
    refine ⟨a', e1, e2, go (fun w w' H3 => ∃ o, DGet H3 a' w o ∧ Q (o.getD w') H3) fun ρ2 S2 e w e' w' H2 rs2 rv2 rw2 rw3 q => ?_⟩
    cases d with
    | ref l =>
      simp only [m2] at q
      split at q
      · rename_i kvs ky h1 h2
        obtain ⟨b, ys, f2, f3, f4⟩ := dic_of rs2 h1 rv2
        subst e1
        cases f2
        refine ⟨valV ys (kx ky), .inl ⟨ys, kx ky, f3, key_rel h2 rw2, rfl⟩, ?_⟩
        rcases RK.get f4 ky with ⟨z1, z2⟩ | ⟨d', v', z1, z2, z3⟩
        · rw [z1] at q; rw [z2]; exact Post.ok q rs2 rw3
        · rw [z1] at q; rw [z2]; exact Post.ok q rs2 z3
      · exact q.elim
    | _ => exact q.elim
theorem e_dpop2 (M : L2.M2 X o "pop" apos a b pos) (ho : PE X o (L Z (ev C x))) (ha : PE X a (L Z (ev C y))) (hb : PE X b (L Z (ev C z))) : PE X (.Call (.Attribute o "pop" apos) [a, b] [] pos) (L Z (ev C (.m2 .pop x y z))) :=
  PE_imp (pe_dpop2 ho ha hb M) fun σ H Q h => recv_bind2 (f := m2 .pop) (P := isDic) h fun ρ S d v H1 rs rv hp go => by
    obtain ⟨a', e1, e2⟩ := isD_of rs rv hp
    refine ⟨a', e1, e2, go (fun w w' H3 => ∃ kvs k, H3 a' = some (.dK kvs) ∧ w = kV k ∧ (∀ v, valV kvs k = some v → Q v (upd H3 a' (.dK (dropK kvs k)))) ∧ (valV kvs k = none → Q w' H3)) fun ρ2 S2 e w e' w' H2 rs2 rv2 rw2 rw3 q => ?_⟩
    cases d with
    | ref l =>
      simp only [m2] at q
      split at q
      · rename_i kvs ky h1 h2
        obtain ⟨b, ys, f2, f3, f4, f5⟩ := dct_of rs2 h1 rv2
        subst e1
        cases f2
        refine ⟨ys, kx ky, f3, key_rel h2 rw2, fun v hv => ?_, fun hv => ?_⟩
        · rcases RK.get f4 ky with ⟨_, z⟩ | ⟨d', v', z1, z2, z3⟩
          · rw [hv] at z; cases z
          · rw [hv] at z2; cases z2
            rw [z1] at q
            have g : Gu Z.K ρ2 ρ2 H2 (upd H2 a' (.dK (dropK ys (kx ky)))) := Gu.write rs2 f5 (nfz f3 rfl)
            exact Post.ok' q g (rs2.write f5 (nfz f3 rfl) ⟨_, upd_same, RK.up g (RK.drop ky f4)⟩) (z3.up g)
        · rcases RK.get f4 ky with ⟨z, _⟩ | ⟨d', v', z1, z2, z3⟩
          · rw [z] at q; exact Post.ok q rs2 rw3
          · rw [hv] at z2; cases z2
      · exact q.elim
    | _ => exact q.elim
end
end Mi
end

section
set_option linter.all false
set_option maxRecDepth 100000
set_option Elab.async false
/-! statements -/
namespace Mi
open PySem PySem.Spec L2
open PyProof.Rows hiding St

/-- the slot is not the held exception's -/
def NoCu (u : Option Cu) (i : Nat) : Prop := ∀ z, u = some z → z.slot ≠ some i
section
variable {K : PySem.W.Frag} {T : GA} {u : Option Cu} {ρ : List Addr} {H : Hp} {ε ε' : Mi.Env} {σ : St} {i : Nat} {d : D} {v : V}
theorem RE.put (h : RE K T u ρ H ε σ) (r : RV K ρ H d v) (n : NoCu u i) : RE K T u ρ H (ε.put i d) (σ.set i (some v)) where
  len := by simp only [Env.put, List.length_set]; exact h.len
  get := fun j e he => by
    simp only [Env.put] at he
    by_cases hj : i = j
    · subst hj
      have hl : i < ε.sl.length := by
        have := (List.getElem?_eq_some_iff.mp he).1
        simpa using this
      rw [List.getElem?_set_self hl] at he
      cases he
      exact ⟨v, by rw [List.getElem?_set_self (by rw [← h.len]; exact hl)], r⟩
    · rw [List.getElem?_set_ne hj] at he
      obtain ⟨w, h1, h2⟩ := h.get j e he
      exact ⟨w, by rw [List.getElem?_set_ne hj]; exact h1, h2⟩
  cur := by
    have c := h.cur
    show RC T H ρ (σ.set i (some v)) u ε.cur
    unfold RC at c ⊢
    cases u with
    | none => exact c
    | some z =>
      cases hc : ε.cur with
      | none => rw [hc] at c; exact c
      | some x =>
        rw [hc] at c
        exact ⟨c.1, c.2.1, fun j hj => by rw [List.getElem?_set_ne (fun e => n z rfl (by rw [e]; exact hj))]; exact c.2.2 j hj⟩
end
/-- several names -/
def gNames : List Nat → TGs
  | [] => gNil
  | i :: r => gCons (gName i) (gNames r)
theorem names_run {Z : Cz} {ρ : List Addr} {H : Hp} {Q : St → Hp → Prop} : ∀ {is : List Nat} {ds : List D} {xs : List V} {ε ε' : Mi.Env} {σ : St}, putAll is ds ε = some ε' → (∀ i ∈ is, NoCu Z.u i) → Paired (RV Z.K ρ H) ds xs → RE Z.K Z.T Z.u ρ H ε σ →
    (∀ σ', RE Z.K Z.T Z.u ρ H ε' σ' → Q σ' H) → gNames is xs σ H Q
  | [], [], [], ε, ε', σ, h, _, _, re, q => by cases h; exact ⟨rfl, q σ re⟩
  | [], [], _ :: _, ε, ε', σ, h, _, rr, re, q => by cases rr
  | [], _ :: _, xs, ε, ε', σ, h, _, _, re, q => by cases h
  | _ :: _, _ :: _, [], ε, ε', σ, h, _, rr, re, q => by cases rr
  | _ :: _, [], xs, ε, ε', σ, h, _, _, re, q => by cases h
  | i :: is, d :: ds, x :: r, ε, ε', σ, h, n, .cons rx rr, re, q => ⟨x, r, rfl, names_run (is := is) (ds := ds) h (fun j hj => n j (List.mem_cons_of_mem _ hj)) rr (re.put rx (n i List.mem_cons_self)) q⟩
theorem putAll_len : ∀ {is : List Nat} {ds : List D} {ε ε' : Mi.Env}, putAll is ds ε = some ε' → ds.length = is.length
  | [], [], ε, ε', h => rfl
  | [], _ :: _, ε, ε', h => by cases h
  | _ :: _, [], ε, ε', h => by cases h
  | _ :: is, _ :: ds, ε, ε', h => by simp [putAll_len (is := is) (ds := ds) h]

section
variable {X : Cx} {Z : Cz} {C : Cf} {a b c e o : Expr} {x y z : Ex} {pos p apos pos' : Pos} {st : Stmt} {rest : List Stmt} {s : Sm} {r : Sms}
theorem b_nil : PSs X [] (LS Z (exs C .nil)) := PSs_imp pss_nil fun E σ H ⟨ρ, ε, S, re, rs, p⟩ => p ρ H σ .refl rs re
theorem b_cons (h1 : PS X st (LS Z (ex C s))) (h2 : PSs X rest (LS Z (exs C r))) : PSs X (st :: rest) (LS Z (exs C (.cons s r))) :=
  PSs_imp (pss_cons h1 h2) fun E σ H ⟨ρ, ε, S, re, rs, p⟩ => ⟨ρ, ε, S, re, rs, PostS.then_ (f := fun ε' S' => exs C r ε' S') p rfl fun ρ1 H1 σ1 ε1 S1 g rs1 re1 p1 => ⟨ρ1, ε1, S1, re1, rs1, p1⟩⟩
theorem s_pass : PS X (.Pass pos) (LS Z (ex C .pass)) := PS_imp ps_pass fun E σ H ⟨ρ, ε, S, re, rs, p⟩ => p ρ H σ .refl rs re
theorem s_set {i : Nat} {n : Str} (hN : X.N.Nodup) (hi : X.N[i]? = some n) (hx : Loc X.env.scope n) (he : PE X e (L Z (ev C x))) (hcu : NoCu Z.u i := by intro z h; cases h; try decide) (hs : swapsWith e (some (.Name n pos')) pos.line X.env = pure false := by rfl) (hf : X.fn n = true ∨ X.env.scope.names.lookup n = some .local := by first | exact .inl rfl | exact .inr rfl | assumption) :
    PS X (.Assign [.Name n pos'] e pos) (LS Z (ex C (.set i x))) :=
  PS_imp (ps_set hN hi hx he hs hf) fun E σ H ⟨ρ, ε, S, re, rs, p⟩ => ⟨ρ, ε, S, re, rs, PostS.toS (f := fun d S1 => .nx (ε.put i d) S1) re p fun ρ1 H1 d v S1 g rs1 rv re1 p1 => p1 ρ1 H1 _ .refl rs1 (re1.put rv hcu)⟩
theorem s_unp {is : List Nat} {ts : List Expr} {k : Nat} {pt : Pos} {m : Nat} (hz : Z.K = X.K) (hc : X.calm = true) (hg : PGs X ts (gNames is)) (he : PE X e (L Z (ev C x))) (hcu : ∀ i ∈ is, NoCu Z.u i := by intro i _ z h; cases h)
    (hn : (assignEach ts X.env).length = m := by rfl) (hm : m = is.length := by rfl) (hst : (assignEach ts X.env).findIdx? (·.1) = none := by rfl) (hs : swapsWithSole [.Tuple ts k pt] e pos.line X.env = pure false := by rfl) (hw : swappedStores [.Tuple ts k pt] e X.env = pure none := by rfl)
    (h1 : (assignEach [.Tuple ts k pt] X.env).map (·.2) = [assign (.Tuple ts k pt) X.env] := by rfl) : PS X (.Assign [.Tuple ts k pt] e pos) (LS Z (ex C (.unp is x))) :=
  PS_imp (ps_asg he (pg_tup hc hg hn hst) hs hw h1) fun E σ H ⟨ρ, ε, S, re, rs, p⟩ => ⟨ρ, ε, S, re, rs, PostS.toS (R := rV Z.K) (f := fun (d : Mi.D) (S1 : Sto) => match d with
    | .tup ds => (match putAll is ds ε with
      | some ε' => .nx ε' S1
      | none => .bad)
    | _ => .bad) re p fun ρ1 H1 d v S1 g rs1 rv re1 p1 => by
      cases d with
      | tup ds =>
        dsimp only at p1
        split at p1
        · rename_i ε' hp
          obtain ⟨a, xs, e1, e2, e3⟩ := rv
          refine ⟨a, xs, e1, hz ▸ e2, by rw [← RVs.len e3, putAll_len hp, hm], names_run hp hcu (RVs_iff.mp e3) re1 fun σ' re' => p1 ρ1 H1 σ' .refl rs1 re'⟩
        · exact p1.elim
      | _ => exact p1.elim⟩
theorem s_par {i j : Nat} {n m : Str} {px py pt : Pos} {kt k2 : Nat} {pt2 : Pos} (hc : X.calm = true) (hN : X.N.Nodup) (hi : X.N[i]? = some n) (hj : X.N[j]? = some m) (hij : i ≠ j) (hx : X.env.scope.names.lookup n = some .local) (hy : X.env.scope.names.lookup m = some .local)
    (ha : PA X [a, b] (LA Z (evs C (.cons x (.cons y .nil))))) (hcu : NoCu Z.u i := by intro z h; cases h; try decide) (hcu2 : NoCu Z.u j := by intro z h; cases h; try decide) (hw : swappedStores [.Tuple [.Name n px, .Name m py] kt pt] (.Tuple [a, b] k2 pt2) X.env = pure (some [n, m]) := by rfl)
    (hs : swapsWithSole [.Tuple [.Name n px, .Name m py] kt pt] (.Tuple [a, b] k2 pt2) pos.line X.env = pure false := by rfl) : PS X (.Assign [.Tuple [.Name n px, .Name m py] kt pt] (.Tuple [a, b] k2 pt2) pos) (LS Z (ex C (.unp [i, j] (.tup (.cons x (.cons y .nil)))))) :=
  PS_imp (ps_par hc hN hi hj hij hx hy ha hw hs) fun E σ H ⟨ρ, ε, S, re, rs, p⟩ => ⟨ρ, ε, S, re, rs, by
    simp only [ex, ev] at p
    cases hr : evs C (.cons x (.cons y .nil)) ε S with
    | ok ds S1 =>
      rw [hr, Res.bind_ok, Res.toS_ok] at p
      have hl := evs_len hr
      intro ρ1 H1 vs g rs1 rv
      match ds, hl with
      | [d1, d2], _ =>
        obtain ⟨v, r1, e1, q1, w, r2, e2, q2, e3⟩ := rv
        subst e1 e2
        have e3 : r2 = [] := e3
        subst e3
        exact ⟨v, w, rfl, p ρ1 H1 _ g rs1 (((re.up g).put q1 hcu).put q2 hcu2)⟩
    | ex z S1 =>
      rw [hr] at p
      exact fun ρ1 H1 c d g rs rx n => p ρ1 H1 σ c d g rs (re.up g) rx n
    | bad => rw [hr] at p; exact p⟩
theorem s_setf {c : Cl} {f : Fd} {n : Str} (hz : Z.K = X.K) (hn : fstr f = n) (F : FdOk X.K Z.T c f) (ha : PE X o (L Z (ev C y))) (hv : PE X e (L Z (ev C x))) (hs : swapsWith e (some (.Attribute o n pos')) pos.line X.env = pure false := by rfl) : PS X (.Assign [.Attribute o n pos'] e pos) (LS Z (ex C (.setf y c f x))) := by
  subst hn
  exact PS_imp (ps_fld ha hv hs) fun E σ H ⟨ρ, ε, S, re, rs, p⟩ => ⟨ρ, ε, S, re, rs, PostS.toS (f := fun d S1 => (ev C y ε S1).toS ε fun x S2 => match setfd x c f d S2 with
    | some S3 => .nx ε S3
    | none => .bad) re p fun ρ1 H1 d v S1 g rs1 rv re1 p1 => ⟨ρ1, ε, S1, re1, rs1, PostS.toS re1 p1 fun ρ2 H2 d2 w S2 g2 rs2 rw2 re2 p2 => by
      have rv := rv.up g2
      cases d2 with
      | ref l =>
        cases hs : setfd (.ref l) c f d S2 with
        | none => rw [hs] at p2; exact p2.elim
        | some S3 =>
          rw [hs] at p2
          simp only [setfd] at hs
          split at hs
          · rename_i c' fs h1
            split at hs
            · rename_i hc
              obtain ⟨rfl, hl⟩ := hc
              cases hs
              obtain ⟨a', dx, gs, e1, e2, e3⟩ := rs2.insL h1
              obtain ⟨a'', e1', rw2⟩ := rw2
              rw [e1] at e1'; cases e1'
              have g3 : Gu Z.K ρ2 ρ2 H2 (upd H2 a' (.ins (Z.T.ca c') dx (putF (fstr f) v gs))) := Gu.write rs2 e1 (nfz e2 rfl)
              exact ⟨a', _, dx, gs, rw2, e2, F.cls, F.no, by rw [← pr_len e3]; exact hl, p2 ρ2 _ σ g3 (rs2.write e1 (nfz e2 rfl) ⟨dx, _, upd_same, RF.up g3 (RF.put rv e3)⟩) (re2.up g3)⟩
            · cases hs
          · cases hs
      | _ => exact p2.elim⟩⟩
theorem s_setk (hu : X.A.units + 80 < cLine) (ho : PE X o (L Z (ev C y))) (hi : PE X b (L Z (ev C z))) (hv : PE X e (L Z (ev C x))) (hs : swapsWith e (some (.Subscript o b pos')) pos.line X.env = pure false := by rfl) : PS X (.Assign [.Subscript o b pos'] e pos) (LS Z (ex C (.setk y z x))) :=
  PS_imp (ps_dput (by omega) ho hi hv hs) fun E σ H ⟨ρ, ε, S, re, rs, p⟩ => ⟨ρ, ε, S, re, rs, PostS.toS (f := fun d S1 => (ev C y ε S1).toS ε fun x S2 => (ev C z ε S2).toS ε fun i S3 => match setkx x i d S3 with
    | some S4 => .nx ε S4
    | none => .bad) re p fun ρ1 H1 d v S1 g rs1 rv re1 p1 => ⟨ρ1, ε, S1, re1, rs1, PostS.toS re1 p1 fun ρ2 H2 d2 w S2 g2 rs2 rw2 re2 p2 => ⟨ρ2, ε, S2, re2, rs2, PostS.toS re2 p2 fun ρ3 H3 d3 w3 S3 g3 rs3 rw3 re3 p3 => by
      cases hs : setkx d2 d3 d S3 with
      | none => rw [hs] at p3; exact p3.elim
      | some S4 =>
        rw [hs] at p3
        cases d2 with
        | ref l =>
          simp only [setkx] at hs
          split at hs
          · rename_i kvs ky h1 h2
            split at hs
            · rename_i hl
              cases hs
              obtain ⟨a, xs, e1, e2, e3, e4⟩ := dct_of rs3 h1 (rw2.up g3)
              have g4 : Gu Z.K ρ3 ρ3 H3 (upd H3 a (.dK (putK xs (kx ky) v))) := Gu.write rs3 e4 (nfz e2 rfl)
              exact ⟨a, _, e1, .inl ⟨xs, kx ky, e2, key_rel h2 rw3, by rw [← pr_len e3]; exact hl, rfl⟩, p3 ρ3 _ σ g4 (rs3.write e4 (nfz e2 rfl) ⟨_, upd_same, RK.up g4 (RK.put e3 ((rv.up g2).up g3) ky)⟩) (re3.up g4)⟩
            · cases hs
          · cases hs
        | _ => cases hs⟩⟩⟩
theorem s_seti (ho : PE X o (L Z (ev C y))) (hi : PE X b (L Z (ev C z))) (hv : PE X e (L Z (ev C x)))
    (ha : ∀ v, assign (.Subscript o b pos') X.env v = (do
      let ov ← holding [v] (eval o X.env)
      let iv ← holding [v, ov] (eval b X.env)
      standAt pos'
      holding [v, ov, iv] (setItem ov iv v)
      release [v, ov, iv] []) := by intro _; rfl) (hs : swapsWithSole [.Subscript o b pos'] e pos.line X.env = pure false := by rfl) (hw : swappedStores [.Subscript o b pos'] e X.env = pure none := by rfl)
    (h1 : (assignEach [.Subscript o b pos'] X.env).map (·.2) = [assign (.Subscript o b pos') X.env] := by rfl) : PS X (.Assign [.Subscript o b pos'] e pos) (LS Z (ex C (.seti y z x))) :=
  PS_imp (ps_asg hv (pg_sub ho hi set_list ha) hs hw h1) fun E σ H ⟨ρ, ε, S, re, rs, p⟩ => ⟨ρ, ε, S, re, rs, PostS.toS (f := fun d S1 => (ev C y ε S1).toS ε fun x S2 => (ev C z ε S2).toS ε fun i S3 => match setlx x i d S3 with
    | some S4 => .nx ε S4
    | none => .bad) re p fun ρ1 H1 d v S1 g rs1 rv re1 p1 => ⟨ρ1, ε, S1, re1, rs1, PostS.toS re1 p1 fun ρ2 H2 d2 w S2 g2 rs2 rw2 re2 p2 => ⟨ρ2, ε, S2, re2, rs2, PostS.toS re2 p2 fun ρ3 H3 d3 w3 S3 g3 rs3 rw3 re3 p3 => by
      cases hs : setlx d2 d3 d S3 with
      | none => rw [hs] at p3; exact p3.elim
      | some S4 =>
        rw [hs] at p3
        cases d2 with
        | ref l =>
          cases d3 with
          | int k =>
            simp only [setlx] at hs
            split at hs
            · rename_i ds h1
              split at hs
              · rename_i j hj
                cases hs
                obtain ⟨a, xs, e1, e2, e3, e4⟩ := lst_of rs3 h1 (rw2.up g3)
                have g4 : Gu Z.K ρ3 ρ3 H3 (upd H3 a (.lst (xs.set j v))) := Gu.write rs3 e4 (nfz e2 rfl)
                exact ⟨a, xs, k, j, e1, rw3, e2, by rw [← pr_len e3]; exact hj, p3 ρ3 _ σ g4 (rs3.write e4 (nfz e2 rfl) ⟨_, upd_same, RVp.up g4 (pr_set ((rv.up g2).up g3) j e3)⟩) (re3.up g4)⟩
              · cases hs
            · cases hs
          | _ => cases hs
        | _ => cases hs⟩⟩⟩
theorem s_ex (he : PE X e (L Z (ev C x))) (hs : swapsWith e none pos.line X.env = pure false := by rfl) : PS X (.Expr e pos) (LS Z (ex C (.ex x))) :=
  PS_imp (ps_expr he hs) fun E σ H ⟨ρ, ε, S, re, rs, p⟩ => ⟨ρ, ε, S, re, rs, PostS.toS (f := fun _ S1 => .nx ε S1) re p fun ρ1 H1 d v S1 g rs1 rv re1 p1 => p1 ρ1 H1 σ .refl rs1 re1⟩
theorem s_ret (he : PE X e (L Z (ev C x))) : PS X (.Return (some e) pos) (LS Z (ex C (.ret x))) :=
  PS_imp (ps_ret he) fun E σ H ⟨ρ, ε, S, re, rs, p⟩ => ⟨ρ, ε, S, re, rs, PostS.toS (f := fun d S1 => .rt d S1) re p fun ρ1 H1 d v S1 g rs1 rv re1 p1 => p1 ρ1 H1 v .refl rs1 rv⟩
theorem s_retN : PS X (.Return none pos) (LS Z (ex C .retN)) := PS_imp ps_retN fun E σ H ⟨ρ, ε, S, re, rs, p⟩ => p ρ H .non .refl rs rfl
theorem s_if {bs cs : List Stmt} {xs ys : Sms} (hc : PT X c (LT Z (ev C x))) (ha : PSs X bs (LS Z (exs C xs))) (hb : PSs X cs (LS Z (exs C ys))) : PS X (.If c bs cs pos) (LS Z (ex C (.iff x xs ys))) :=
  PS_imp (ps_if hc ha hb) fun E σ H ⟨ρ, ε, S, re, rs, p⟩ => ⟨ρ, ε, S, re, rs, PostS.toS (R := rV Z.K) (f := fun (k : Mi.D) (S1 : Sto) => match k with
    | .bl true => exs C xs ε S1
    | .bl false => exs C ys ε S1
    | _ => .bad) re p fun ρ1 H1 d v S1 g rs1 rv re1 p1 => by
      cases d with
      | bl b =>
        refine ⟨b, rv, ?_⟩
        cases b with
        | true => rw [if_pos rfl]; exact ⟨ρ1, ε, S1, re1, rs1, p1⟩
        | false => rw [if_neg (by decide)]; exact ⟨ρ1, ε, S1, re1, rs1, p1⟩
      | _ => exact p1.elim⟩
theorem s_while {bs : List Stmt} {xs : Sms} (hp : PassesOwn (model X.prog X.w) X.A X.env X.xe) (hc : PT X c (LT Z (ev C x))) (hb : PSs X bs (LS Z (exs C xs))) : PS X (.While c bs [] pos) (LS Z (ex C (.whl x xs))) :=
  PS_imp (ps_while hp hc hb) fun E σ H ⟨ρ, ε, S, re, rs, p⟩ => by
    refine ⟨fun m σ H => ∃ ρ ε S, RE Z.K Z.T Z.u ρ H ε σ ∧ RS Z.K Z.T ρ H S ∧ PostS Z ρ H (whileW (fun ε S => ev C x ε S) (fun ε S => exs C xs ε S) m ε S) E, ⟨FU, ρ, ε, S, re, rs, p⟩, ?_⟩
    rintro m σ H ⟨ρ, ε, S, re, rs, p⟩
    cases m with
    | zero => exact p.elim
    | succ m =>
      refine ⟨ρ, ε, S, re, rs, PostS.toS (R := rV Z.K) (f := fun (k : Mi.D) (S1 : Sto) => match k with
        | .bl true => (exs C xs ε S1).then_ fun ε' S' => whileW (fun ε S => ev C x ε S) (fun ε S => exs C xs ε S) m ε' S'
        | .bl false => .nx ε S1
        | _ => .bad) re p fun ρ1 H1 d v S1 g rs1 rv re1 p1 => ?_⟩
      cases d with
      | bl b =>
        refine ⟨b, rv, ?_⟩
        cases b with
        | true =>
          rw [if_pos rfl]
          exact ⟨fun σ H => ∃ ρ ε S, RE Z.K Z.T Z.u ρ H ε σ ∧ RS Z.K Z.T ρ H S ∧ PostS Z ρ H (whileW (fun ε S => ev C x ε S) (fun ε S => exs C xs ε S) m ε S) E, fun σ' H' h => ⟨m, Nat.lt_succ_self _, h⟩, ρ1, ε, S1, re1, rs1,
            PostS.then_ (f := fun ε' S' => whileW (fun ε S => ev C x ε S) (fun ε S => exs C xs ε S) m ε' S') p1 rfl fun ρ2 H2 σ2 ε2 S2 g2 rs2 re2 p2 => ⟨ρ2, ε2, S2, re2, rs2, p2⟩⟩
        | false => rw [if_neg (by decide)]; exact p1 ρ1 H1 σ .refl rs1 re1
      | _ => exact p1.elim
end
end Mi
end

section
set_option linter.all false
set_option maxRecDepth 100000
set_option Elab.async false
/-! for loops -/
namespace Mi
open PySem PySem.Spec L2
open PyProof.Rows hiding St

/-- what is walked against the layer's iterators (a dict apart) -/
def rJ (K : PySem.W.Frag) : Rel Mi.It L2.It := fun ρ H j J => match j with
  | .live l => ∃ a, ρ[l]? = some a ∧ J = Itl K a
  | .items ds => (∃ a xs, SqT K H a xs ∧ Paired (RV K ρ H) ds xs ∧ J = Itt K a) ∨ (∃ t : Tx, ds = t.map (fun c => .str [c]) ∧ J = Its (sx t)) ∨ ∃ (lo : Int) (n : Nat), ds = (List.range n).map (fun k : Nat => .int (lo + k)) ∧ J = Itr lo n
  | .rev l n => ∃ a, ρ[l]? = some a ∧ J = Itv K a n
  | .dic _ _ => False
  | .enm l => ∃ a, ρ[l]? = some a ∧ J = Ite K a
def LI (Z : Cz) (m : Mi.Env → Sto → Res Mi.It) : TI := fun σ H R => ∃ ρ ε S, RE Z.K Z.T Z.u ρ H ε σ ∧ RS Z.K Z.T ρ H S ∧ Post Z.K Z.T Z.W (rJ Z.K) ρ σ H (m ε S) R
/-- list, tuple or text -/
def iAny (K : PySem.W.Frag) (te : TE) : TI := fun σ H R => te σ H fun x H1 => (∃ a, x = .ref a ∧ (∃ xs, SqL K H1 a xs) ∧ R (Itl K a) H1) ∨ (∃ a, x = .ref a ∧ (∃ xs, SqT K H1 a xs) ∧ R (Itt K a) H1) ∨ ∃ t, x = .str t ∧ R (Its t) H1
/-- a dict, which is locked from here on -/
def iDic (X : Cx) (te : TE) : TI := fun σ H R => te σ H fun x H1 => ∃ a ks, x = .ref a ∧ H1 a = some (.dK ks) ∧ ∀ o, (∀ o' u', X.H_0 a ≠ some (.frz o' u')) → R (Itk a o ks) (upd H1 a (.frz o (.dK ks)))
section
variable {X : Cx} {Z : Cz} {C : Cf} {a b c e o tg : Expr} {x y z : Ex} {pos p apos pos' : Pos} {n : Str}
theorem pi_any {te : TE} (he : PE X e te) : PI X tg e (iAny X.K te) := by
  refine ⟨fun pins s σ H R I h => ?_⟩
  refine thn (he.run pins s σ H _ I h) fun v s1 ⟨x, H1, I1, r1, q1⟩ => ?_
  rcases q1 with ⟨a, ex, ⟨xs, hq⟩, q⟩ | ⟨a, ex, ⟨xs, hq⟩, q⟩ | ⟨t, ex, q⟩
  · subst ex
    obtain rfl : v = Value.ref a := r1
    obtain ⟨its, rv, p, hz⟩ := I1.list hq
    exact wpAny_pyIter_list p.isList (pi_one (tk := s1.toks) I1 _ (turn_list a _) ⟨_, Heap.get?_push_size _ rfl, rfl, rfl⟩ q)
  · subst ex
    obtain rfl : v = Value.ref a := r1
    obtain ⟨its, rv, p, hz⟩ := I1.tuple hq
    exact wpAny_pyIter_tuple (show s1.heap.IsTuple a its.toArray from p) (pi_one (tk := s1.toks) I1 _ (turn_tuple a _) ⟨_, Heap.get?_push_size _ rfl, rfl, rfl⟩ q)
  · subst ex
    obtain ⟨k, rfl⟩ := r1
    cases ha : t.cps.all (· < 128)
    · exact wpAny_pyIter_wide ha (pi_one (tk := s1.toks) I1 _ (turn_str _ t k "str_iterator" (.inr rfl)) ⟨_, Heap.get?_push_size _ rfl, rfl, rfl⟩ q)
    · exact wpAny_pyIter_ascii ha (pi_one (tk := s1.toks) I1 _ (turn_str _ t k "str_ascii_iterator" (.inl rfl)) ⟨_, Heap.get?_push_size _ rfl, rfl, rfl⟩ q)
theorem pi_dic {te : TE} (he : PE X e te) : PI X tg e (iDic X te) := by
  refine ⟨fun pins s σ H R I h => ?_⟩
  refine thn (he.run pins s σ H _ I h) fun v s1 ⟨x, H1, I1, r1, a, ks, ex, hd, q⟩ => ?_
  subst ex
  obtain rfl : v = Value.ref a := r1
  obtain ⟨od, I2⟩ := I1.lock hd trivial
  have hn := I1.nofrz hd trivial
  obtain ⟨hs, hgd, hx, es, ep, vs, hdt, hsz, kv, hm⟩ := I2.frzK (d := a) (o := od) (kvs := ks) upd_same
  refine iter_keys hs hgd hx hdt (pi_one (tk := s1.toks) I2 _ (turn_keys _ hdt) ⟨_, Heap.get?_push_size _ rfl, rfl, ?_⟩ (q od hn))
  rw [hsz] <;> rfl
/-! ### what is walked -/
theorem toIt_seq {K : PySem.W.Frag} {T : GA} {ρ : List Addr} {H : Hp} {S : Sto} {d : D} {v : V} {J : Mi.It} (rs : RS K T ρ H S) (rv : RV K ρ H d v) (h : toIt (.seq .non) [d] S = some J) :
    (∃ a, v = .ref a ∧ (∃ xs, SqL K H a xs) ∧ rJ K ρ H J (Itl K a)) ∨ (∃ a, v = .ref a ∧ (∃ xs, SqT K H a xs) ∧ rJ K ρ H J (Itt K a)) ∨ ∃ t, v = .str t ∧ rJ K ρ H J (Its t) := by
  cases d with
  | ref l =>
    simp only [toIt] at h
    split at h
    · rename_i hs
      cases h
      obtain ⟨ds, hs⟩ := Option.isSome_iff_exists.mp hs
      obtain ⟨a, xs, e, q, r⟩ := rs.seqL hs
      obtain ⟨b, e', rv⟩ := rv
      rw [e] at e'; cases e'
      exact .inl ⟨a, rv, ⟨xs, .inl q⟩, a, e, rfl⟩
    · cases h
  | tup ds =>
    cases h
    obtain ⟨a, xs, e, q, r⟩ := rv
    exact .inr (.inl ⟨a, e, ⟨xs, q⟩, .inl ⟨a, xs, q, RVs_iff.mp r, rfl⟩⟩)
  | str t =>
    cases h
    exact .inr (.inr ⟨sx t, rv, .inr (.inl ⟨t, rfl, rfl⟩)⟩)
  | _ => cases h
theorem i_seq (hz : Z.K = X.K) (he : PE X e (L Z (ev C x))) : PI X tg e (LI Z (evI C (.seq x))) :=
  PI_imp (pi_any he) fun σ H R ⟨ρ, ε, S, re, rs, p⟩ => ⟨ρ, ε, S, re, rs, Post.bind (R := rV Z.K) (R' := rJ Z.K) (f := fun (a : Mi.D) (S1 : Sto) => match toIt (.seq .non) [a] S1 with
    | some J => .ok J S1
    | none => .bad) p fun ρ1 H1 d v S1 g rs1 rv q => by
      cases hJ : toIt (.seq .non) [d] S1 with
      | none => rw [hJ] at q; exact q.elim
      | some J =>
        rw [hJ] at q
        rw [← hz]
        rcases toIt_seq rs1 rv hJ with ⟨a, e1, e2, e3⟩ | ⟨a, e1, e2, e3⟩ | ⟨t, e1, e3⟩
        · exact .inl ⟨a, e1, e2, Post.ok q rs1 e3⟩
        · exact .inr (.inl ⟨a, e1, e2, Post.ok q rs1 e3⟩)
        · exact .inr (.inr ⟨t, e1, Post.ok q rs1 e3⟩)⟩
theorem i_rng1 (hg : Gl X "range") (hm : X.mg "range" = none) (he : PE X a (L Z (ev C x))) (hs : starEach [a] X.env = [(false, eval a X.env)] := by rfl) : PI X tg (.Call (.Name "range" p) [a] [] pos) (LI Z (evI C (.rng1 x))) :=
  PI_imp (pi_range1 hg hm (pa_cons he pa_nil hs) hs) fun σ H R ⟨ρ, ε, S, re, rs, p⟩ => ⟨ρ, ε, S, re, rs, Post.bind (R := rV Z.K) (R' := rJ Z.K) (f := fun (a : Mi.D) (S1 : Sto) => match toIt (.rng1 .non) [a] S1 with
    | some J => .ok J S1
    | none => .bad) p fun ρ1 H1 d v S1 g rs1 rv q => by
      cases d with
      | int j =>
        simp only [toIt] at q
        split at q
        · rename_i J hJ
          split at hJ
          · rename_i hl
            cases hJ
            refine ⟨j, by rw [show v = .int j from rv], hl.1, hl.2, Post.ok q rs1 (.inr (.inr ⟨0, j.toNat, ?_, rfl⟩))⟩
            exact List.map_congr_left fun k _ => by simp
          · cases hJ
        · exact q.elim
      | _ => exact q.elim⟩
theorem i_rng2 (hg : Gl X "range") (hm : X.mg "range" = none) (he : PE X a (L Z (ev C x))) (hb : PE X b (L Z (ev C y))) (hs : starEach [a, b] X.env = [(false, eval a X.env), (false, eval b X.env)] := by rfl) (hs2 : starEach [b] X.env = [(false, eval b X.env)] := by rfl) : PI X tg (.Call (.Name "range" p) [a, b] [] pos) (LI Z (evI C (.rng2 x y))) :=
  PI_imp (pi_range2 hg hm (pa_cons he (pa_cons hb pa_nil hs2) (by rw [hs, hs2])) hs hs2) fun σ H R ⟨ρ, ε, S, re, rs, p⟩ => ⟨ρ, ε, S, re, rs, Post.bind (R := rV Z.K) (R' := rJ Z.K) (f := fun (a : Mi.D) (S1 : Sto) => (ev C y ε S1).bind fun b S2 => match toIt (.rng2 .non .non) [a, b] S2 with
    | some J => .ok J S2
    | none => .bad) p fun ρ1 H1 d v S1 g rs1 rv q => ⟨ρ1, ε, S1, re.up g, rs1, Post.bind (R := rV Z.K) (R' := rJ Z.K) (f := fun (b : Mi.D) (S2 : Sto) => match toIt (.rng2 .non .non) [d, b] S2 with
    | some J => .ok J S2
    | none => .bad) q fun ρ2 H2 d2 v2 S2 g2 rs2 rv2 q => by
      have rv := rv.up g2
      cases d with
      | int i =>
        cases d2 with
        | int j =>
          simp only [toIt] at q
          split at q
          · rename_i J hJ
            split at hJ
            · rename_i hl
              cases hJ
              exact ⟨i, j, by rw [show v = .int i from rv, show v2 = .int j from rv2], hl, Post.ok q rs2 (.inr (.inr ⟨i, (j - i).toNat, rfl, rfl⟩))⟩
            · cases hJ
          · exact q.elim
        | _ => exact q.elim
      | _ => cases d2 <;> exact q.elim⟩⟩
theorem i_rev (hz : Z.K = X.K) (hg : Gl X "reversed") (hm : X.mg "reversed" = none) (he : PE X a (L Z (ev C x))) (hs : starEach [a] X.env = [(false, eval a X.env)] := by rfl) : PI X tg (.Call (.Name "reversed" p) [a] [] pos) (LI Z (evI C (.rev x))) :=
  PI_imp (pi_reversed hg hm (pa_cons he pa_nil hs) hs) fun σ H R ⟨ρ, ε, S, re, rs, p⟩ => ⟨ρ, ε, S, re, rs, Post.bind (R := rV Z.K) (R' := rJ Z.K) (f := fun (a : Mi.D) (S1 : Sto) => match toIt (.rev .non) [a] S1 with
    | some J => .ok J S1
    | none => .bad) p fun ρ1 H1 d v S1 g rs1 rv q => by
      cases d with
      | ref l =>
        simp only [toIt] at q
        cases hs : S1.seq l with
        | none => rw [hs] at q; exact q.elim
        | some ds =>
          rw [hs] at q
          obtain ⟨a, xs, e, q1, r⟩ := rs1.seqL hs
          obtain ⟨b, e', rv⟩ := rv
          rw [e] at e'; cases e'
          exact ⟨a, xs, by rw [rv], .inl q1, Post.ok q rs1 ⟨a, e, by rw [hz, pr_len r]⟩⟩
      | _ => exact q.elim⟩
theorem i_enm {elts : List Expr} {kk : Nat} {tpos : Pos} (hz : Z.K = X.K) (hg : Gl X "enumerate") (hm : X.mg "enumerate" = none) (he : PE X a (L Z (ev C x))) (hs : starEach [a] X.env = [(false, eval a X.env)] := by rfl) : PI X (.Tuple elts kk tpos) (.Call (.Name "enumerate" p) [a] [] pos) (LI Z (evI C (.enm x))) :=
  PI_imp (pi_enum hg hm (pa_cons he pa_nil hs) hs) fun σ H R ⟨ρ, ε, S, re, rs, p⟩ => ⟨ρ, ε, S, re, rs, Post.bind (R := rV Z.K) (R' := rJ Z.K) (f := fun (a : Mi.D) (S1 : Sto) => match toIt (.enm .non) [a] S1 with
    | some J => .ok J S1
    | none => .bad) p fun ρ1 H1 d v S1 g rs1 rv q => by
      cases d with
      | ref l =>
        simp only [toIt] at q
        cases hs : S1.seq l with
        | none => rw [hs] at q; exact q.elim
        | some ds =>
          rw [hs] at q
          obtain ⟨a, xs, e, q1, r⟩ := rs1.seqL hs
          obtain ⟨b, e', rv⟩ := rv
          rw [e] at e'; cases e'
          exact ⟨a, xs, by rw [rv], .inl q1, Post.ok q rs1 ⟨a, e, by rw [hz]⟩⟩
      | _ => exact q.elim⟩
/-! ### the loop -/
/-- the body at one item -/
def Turn1 (Z : Cz) (bf : D → Mi.Env → Sto → SR) (g : TG) (tb : TS) : Prop := ∀ (x : V) (d : D) (σ : St) (H : Hp) (ρ : List Addr) (ε : Mi.Env) (S : Sto) (E : Ends), RE Z.K Z.T Z.u ρ H ε σ → RS Z.K Z.T ρ H S → RV Z.K ρ H d x → PostS Z ρ H (bf d ε S) E → g x σ H fun σ2 H2 => tb E σ2 H2
/-- the loop's conditions -/
def Wk (J : L2.It) (g : TG) (tb : TS) (E : Ends) (σ : St) (H : Hp) : Prop := ∃ W : Nat → Nat → St → Hp → Prop, (∃ m, W 0 m σ H) ∧ ∀ i m σ H, W i m σ H →
  (J.stop i H ∧ E.nx σ H) ∨ (J.go i H ∧ ∃ N : St → Hp → Prop, (∀ σ' H', N σ' H' → ∃ m', m' < m ∧ W (i + 1) m' σ' H') ∧ ∀ x H', J.yld i H x H' → g x σ H' fun σ2 H2 => tb { E with nx := N, ct := N, bk := E.nx } σ2 H2)
variable {g : TG} {tb : TS} {bf : D → Mi.Env → Sto → SR} {E : Ends} {σ : St} {H : Hp} {ρ : List Addr} {ε : Mi.Env} {S : Sto} {l : Nat} {ad : Addr}
theorem k_live (T1 : Turn1 Z bf g tb) (hl : ρ[l]? = some ad) (re : RE Z.K Z.T Z.u ρ H ε σ) (rs : RS Z.K Z.T ρ H S) (p : PostS Z ρ H (loopL bf l FU 0 ε S) E) : Wk (Itl Z.K ad) g tb E σ H := by
  refine ⟨fun i m σ H => ∃ ρ ε S, RE Z.K Z.T Z.u ρ H ε σ ∧ RS Z.K Z.T ρ H S ∧ ρ[l]? = some ad ∧ PostS Z ρ H (loopL bf l m i ε S) E, ⟨FU, ρ, ε, S, re, rs, hl, p⟩, ?_⟩
  rintro i m σ H ⟨ρ, ε, S, re, rs, hl, p⟩
  cases m with
  | zero => exact p.elim
  | succ m =>
    simp only [loopL] at p
    cases hs : S.seq l with
    | none => rw [hs] at p; exact p.elim
    | some ds =>
      rw [hs] at p
      obtain ⟨a, xs, e, q, r⟩ := rs.seqL hs
      rw [hl] at e; cases e
      dsimp only at p
      cases hd : ds[i]? with
      | none =>
        rw [hd] at p
        refine .inl ⟨⟨xs, .inl q, ?_⟩, p ρ H σ .refl rs re⟩
        rw [← pr_len r]
        exact List.getElem?_eq_none_iff.mp hd
      | some d =>
        rw [hd] at p
        obtain ⟨x, hx, rx⟩ := pr_get r hd
        refine .inr ⟨⟨xs, x, .inl q, hx⟩, fun σ H => ∃ ρ ε S, RE Z.K Z.T Z.u ρ H ε σ ∧ RS Z.K Z.T ρ H S ∧ ρ[l]? = some ad ∧ PostS Z ρ H (loopL bf l m (i + 1) ε S) E, fun σ' H' h => ⟨m, Nat.lt_succ_self _, h⟩, fun x' H' y => ?_⟩
        obtain ⟨e, y⟩ := y
        subst e
        have := y xs (.inl q)
        rw [hx] at this; cases this
        exact T1 x d σ H' ρ ε S _ re rs rx (PostS.then_ (f := fun ε' S' => loopL bf l m (i + 1) ε' S') p rfl fun ρ2 H2 σ2 ε2 S2 g2 rs2 re2 p2 => ⟨ρ2, ε2, S2, re2, rs2, g2.pre _ _ hl, p2⟩)
theorem k_rev (T1 : Turn1 Z bf g tb) {n : Nat} (hl : ρ[l]? = some ad) (re : RE Z.K Z.T Z.u ρ H ε σ) (rs : RS Z.K Z.T ρ H S) (p : PostS Z ρ H (loopR bf l n ε S) E) : Wk (Itv Z.K ad n) g tb E σ H := by
  refine ⟨fun i m σ H => i + m = n ∧ ∃ ρ ε S, RE Z.K Z.T Z.u ρ H ε σ ∧ RS Z.K Z.T ρ H S ∧ ρ[l]? = some ad ∧ PostS Z ρ H (loopR bf l m ε S) E, ⟨n, Nat.zero_add n, ρ, ε, S, re, rs, hl, p⟩, ?_⟩
  rintro i m σ H ⟨hi, ρ, ε, S, re, rs, hl, p⟩
  cases m with
  | zero => exact .inl ⟨show n ≤ i by omega, p ρ H σ .refl rs re⟩
  | succ m =>
    simp only [loopR] at p
    cases hs : S.seq l with
    | none => rw [hs] at p; exact p.elim
    | some ds =>
      rw [hs] at p
      obtain ⟨a, xs, e, q, r⟩ := rs.seqL hs
      rw [hl] at e; cases e
      dsimp only at p
      cases hd : ds[m]? with
      | none => rw [hd] at p; exact p.elim
      | some d =>
        rw [hd] at p
        obtain ⟨x, hx, rx⟩ := pr_get r hd
        have em : n - 1 - i = m := by omega
        refine .inr ⟨⟨by omega, xs, x, .inl q, by rw [em]; exact hx⟩, fun σ H => ∃ ρ ε S, RE Z.K Z.T Z.u ρ H ε σ ∧ RS Z.K Z.T ρ H S ∧ ρ[l]? = some ad ∧ PostS Z ρ H (loopR bf l m ε S) E, fun σ' H' h => ⟨m, Nat.lt_succ_self _, by omega, h⟩, fun x' H' y => ?_⟩
        obtain ⟨e, y⟩ := y
        subst e
        have := y xs (.inl q)
        rw [em, hx] at this; cases this
        exact T1 x d σ H' ρ ε S _ re rs rx (PostS.then_ (f := fun ε' S' => loopR bf l m ε' S') p rfl fun ρ2 H2 σ2 ε2 S2 g2 rs2 re2 p2 => ⟨ρ2, ε2, S2, re2, rs2, g2.pre _ _ hl, p2⟩)
theorem k_enm (T1 : Turn1 Z bf g tb) (hl : ρ[l]? = some ad) (re : RE Z.K Z.T Z.u ρ H ε σ) (rs : RS Z.K Z.T ρ H S) (p : PostS Z ρ H (loopE bf l FU 0 ε S) E) : Wk (Ite Z.K ad) g tb E σ H := by
  refine ⟨fun i m σ H => ∃ ρ ε S, RE Z.K Z.T Z.u ρ H ε σ ∧ RS Z.K Z.T ρ H S ∧ ρ[l]? = some ad ∧ PostS Z ρ H (loopE bf l m i ε S) E, ⟨FU, ρ, ε, S, re, rs, hl, p⟩, ?_⟩
  rintro i m σ H ⟨ρ, ε, S, re, rs, hl, p⟩
  cases m with
  | zero => exact p.elim
  | succ m =>
    simp only [loopE] at p
    cases hs : S.seq l with
    | none => rw [hs] at p; exact p.elim
    | some ds =>
      rw [hs] at p
      obtain ⟨a, xs, e, q, r⟩ := rs.seqL hs
      rw [hl] at e; cases e
      dsimp only at p
      cases hd : ds[i]? with
      | none =>
        rw [hd] at p
        refine .inl ⟨⟨xs, .inl q, ?_⟩, p ρ H σ .refl rs re⟩
        rw [← pr_len r]
        exact List.getElem?_eq_none_iff.mp hd
      | some d =>
        rw [hd] at p
        obtain ⟨x, hx, rx⟩ := pr_get r hd
        refine .inr ⟨⟨xs, x, .inl q, hx⟩, fun σ H => ∃ ρ ε S, RE Z.K Z.T Z.u ρ H ε σ ∧ RS Z.K Z.T ρ H S ∧ ρ[l]? = some ad ∧ PostS Z ρ H (loopE bf l m (i + 1) ε S) E, fun σ' H' h => ⟨m, Nat.lt_succ_self _, h⟩, fun x' H' y => ?_⟩
        obtain ⟨Tp, x0, e1, e2, e3, y⟩ := y
        have := y xs (.inl q)
        rw [hx] at this; cases this
        subst e1 e3
        have g0 : Gu Z.K ρ ρ H (upd H Tp (.tup [.int (i : Nat), x])) := Gu.aside e2
        exact T1 (.ref Tp) (.tup [.int i, d]) σ _ ρ ε S _ (re.up g0) (rs.aside e2) ⟨Tp, _, rfl, SqT.of upd_same, .cons rfl (.cons (rx.up g0) rfl)⟩
          (PostS.then_ (f := fun ε' S' => loopE bf l m (i + 1) ε' S') (PostS.shift g0 p) rfl fun ρ2 H2 σ2 ε2 S2 g2 rs2 re2 p2 => ⟨ρ2, ε2, S2, re2, rs2, g2.pre _ _ hl, p2⟩)
theorem k_tup (T1 : Turn1 Z bf g tb) {ds : List D} {xs : List V} (hq : SqT Z.K H ad xs) (hr : Paired (RV Z.K ρ H) ds xs) (re : RE Z.K Z.T Z.u ρ H ε σ) (rs : RS Z.K Z.T ρ H S) (p : PostS Z ρ H (loopX bf ds ε S) E) : Wk (Itt Z.K ad) g tb E σ H := by
  refine ⟨fun i m σ H => i + m = ds.length ∧ ∃ ρ ε S, RE Z.K Z.T Z.u ρ H ε σ ∧ RS Z.K Z.T ρ H S ∧ SqT Z.K H ad xs ∧ Paired (RV Z.K ρ H) ds xs ∧ PostS Z ρ H (loopX bf (ds.drop i) ε S) E, ⟨ds.length, Nat.zero_add _, ρ, ε, S, re, rs, hq, hr, p⟩, ?_⟩
  rintro i m σ H ⟨hi, ρ, ε, S, re, rs, hq, hr, p⟩
  cases m with
  | zero =>
    have : ds.drop i = [] := List.drop_eq_nil_of_le (by omega)
    rw [this] at p
    exact .inl ⟨⟨xs, hq, by rw [← pr_len hr]; omega⟩, p ρ H σ .refl rs re⟩
  | succ m =>
    have hlt : i < ds.length := by omega
    rw [List.drop_eq_getElem_cons hlt] at p
    obtain ⟨x, hx, rx⟩ := pr_get hr (List.getElem?_eq_getElem hlt)
    refine .inr ⟨⟨xs, x, hq, hx⟩, fun σ H => ∃ ρ ε S, RE Z.K Z.T Z.u ρ H ε σ ∧ RS Z.K Z.T ρ H S ∧ SqT Z.K H ad xs ∧ Paired (RV Z.K ρ H) ds xs ∧ PostS Z ρ H (loopX bf (ds.drop (i + 1)) ε S) E, fun σ' H' h => ⟨m, Nat.lt_succ_self _, by omega, h⟩, fun x' H' y => ?_⟩
    obtain ⟨e, y⟩ := y
    subst e
    have := y xs hq
    rw [hx] at this; cases this
    exact T1 x _ σ H' ρ ε S _ re rs rx (PostS.then_ (f := fun ε' S' => loopX bf (ds.drop (i + 1)) ε' S') p rfl fun ρ2 H2 σ2 ε2 S2 g2 rs2 re2 p2 => ⟨ρ2, ε2, S2, re2, rs2, g2.tup _ _ hq, RVp.up g2 hr, p2⟩)
/-- over values that stand by themselves -/
theorem k_own (T1 : Turn1 Z bf g tb) {ds : List D} {J : L2.It} {vs : List V} (hv : ∀ ρ H, Paired (RV Z.K ρ H) ds vs) (hgo : ∀ i H, i < ds.length → J.go i H) (hst : ∀ H, J.stop ds.length H) (hy : ∀ i H x H', i < ds.length → J.yld i H x H' → H' = H ∧ vs[i]? = some x)
    (re : RE Z.K Z.T Z.u ρ H ε σ) (rs : RS Z.K Z.T ρ H S) (p : PostS Z ρ H (loopX bf ds ε S) E) : Wk J g tb E σ H := by
  refine ⟨fun i m σ H => i + m = ds.length ∧ ∃ ρ ε S, RE Z.K Z.T Z.u ρ H ε σ ∧ RS Z.K Z.T ρ H S ∧ PostS Z ρ H (loopX bf (ds.drop i) ε S) E, ⟨ds.length, Nat.zero_add _, ρ, ε, S, re, rs, p⟩, ?_⟩
  rintro i m σ H ⟨hi, ρ, ε, S, re, rs, p⟩
  cases m with
  | zero =>
    have : ds.drop i = [] := List.drop_eq_nil_of_le (by omega)
    rw [this] at p
    exact .inl ⟨by rw [show i = ds.length by omega]; exact hst H, p ρ H σ .refl rs re⟩
  | succ m =>
    have hlt : i < ds.length := by omega
    rw [List.drop_eq_getElem_cons hlt] at p
    obtain ⟨x, hx, rx⟩ := pr_get (hv ρ H) (List.getElem?_eq_getElem hlt)
    refine .inr ⟨hgo i H hlt, fun σ H => ∃ ρ ε S, RE Z.K Z.T Z.u ρ H ε σ ∧ RS Z.K Z.T ρ H S ∧ PostS Z ρ H (loopX bf (ds.drop (i + 1)) ε S) E, fun σ' H' h => ⟨m, Nat.lt_succ_self _, by omega, h⟩, fun x' H' y => ?_⟩
    obtain ⟨e, y'⟩ := hy i H x' H' hlt y
    subst e
    rw [hx] at y'; cases y'
    exact T1 x _ σ H' ρ ε S _ re rs rx (PostS.then_ (f := fun ε' S' => loopX bf (ds.drop (i + 1)) ε' S') p rfl fun ρ2 H2 σ2 ε2 S2 g2 rs2 re2 p2 => ⟨ρ2, ε2, S2, re2, rs2, p2⟩)
theorem k_str (T1 : Turn1 Z bf g tb) {t : Tx} (re : RE Z.K Z.T Z.u ρ H ε σ) (rs : RS Z.K Z.T ρ H S) (p : PostS Z ρ H (loopX bf (t.map fun c => .str [c]) ε S) E) : Wk (Its (sx t)) g tb E σ H := by
  refine k_own T1 (ds := t.map fun c => .str [c]) (vs := t.map fun c => .str (sx [c])) (fun ρ H => pr_of_map (F := RV Z.K ρ H) (f := fun c : Nat => D.str [c]) (g := fun c : Nat => V.str (sx [c])) (fun c => rfl) t) (fun i H hi => ?_) (fun H => ?_) (fun i H x H' _ y => ?_) re rs p
  · show i < t.toArray.size
    simpa using hi
  · show t.toArray.size ≤ _
    simp
  · obtain ⟨e, c, hc, hx⟩ := y
    refine ⟨e, ?_⟩
    have hc : t.toArray[i]? = some c := hc
    have hc : t[i]? = some c := by simpa using hc
    rw [List.getElem?_map, hc, hx]
    rfl
theorem k_rng (T1 : Turn1 Z bf g tb) {lo : Int} {n : Nat} (re : RE Z.K Z.T Z.u ρ H ε σ) (rs : RS Z.K Z.T ρ H S) (p : PostS Z ρ H (loopX bf ((List.range n).map fun k : Nat => .int (lo + k)) ε S) E) : Wk (Itr lo n) g tb E σ H := by
  refine k_own T1 (ds := (List.range n).map fun k : Nat => .int (lo + k)) (vs := (List.range n).map fun k : Nat => .int (lo + k)) (fun ρ H => pr_of_map (F := RV Z.K ρ H) (f := fun k : Nat => D.int (lo + k)) (g := fun k : Nat => V.int (lo + k)) (fun c => rfl) _) (fun i H hi => ?_) (fun H => ?_) (fun i H x H' hi y => ?_) re rs p
  · show i < n
    simpa using hi
  · show n ≤ _
    simp
  · obtain ⟨e, hx⟩ := y
    have hi : i < n := by simpa using hi
    exact ⟨e, by rw [hx, List.getElem?_map, List.getElem?_range hi]; rfl⟩
theorem k_all (T1 : Turn1 Z bf g tb) {j : Mi.It} {J : L2.It} (hJ : rJ Z.K ρ H j J) (re : RE Z.K Z.T Z.u ρ H ε σ) (rs : RS Z.K Z.T ρ H S) (p : PostS Z ρ H (loopI bf j ε S) E) : Wk J g tb E σ H := by
  cases j with
  | live l => obtain ⟨a, e, rfl⟩ := hJ; exact k_live T1 e re rs p
  | rev l n => obtain ⟨a, e, rfl⟩ := hJ; exact k_rev T1 e re rs p
  | enm l => obtain ⟨a, e, rfl⟩ := hJ; exact k_enm T1 e re rs p
  | dic l kvs => exact hJ.elim
  | items ds =>
    rcases hJ with ⟨a, xs, q, r, rfl⟩ | ⟨t, rfl, rfl⟩ | ⟨lo, n, rfl, rfl⟩
    · exact k_tup T1 q r re rs p
    · exact k_str T1 re rs p
    · exact k_rng T1 re rs p
/-! ### targets -/
theorem g_one {xs : Sms} {i : Nat} (hcu : NoCu Z.u i) : Turn1 Z (fun d ε S => match (Tg.one i).bind d ε with
    | some ε' => exs C xs ε' S
    | none => .bad) (gName i) (LS Z (exs C xs)) := fun x d σ H ρ ε S E re rs rx p => ⟨ρ, _, S, re.put rx hcu, rs, p⟩
theorem g_tup {is : List Nat} {xs : Sms} {m : Nat} (hm : m = is.length) (hcu : ∀ i ∈ is, NoCu Z.u i) : Turn1 Z (fun d ε S => match (Tg.tup is).bind d ε with
    | some ε' => exs C xs ε' S
    | none => .bad) (gTup Z.K m (gNames is)) (LS Z (exs C xs)) := fun x d σ H ρ ε S E re rs rx p => by
  cases d with
  | tup ds =>
    simp only [Tg.bind] at p
    split at p
    · rename_i ε' hp
      obtain ⟨a, vs, e1, e2, e3⟩ := rx
      exact ⟨a, vs, e1, e2, by rw [← RVs.len e3, putAll_len hp, hm], names_run hp hcu (RVs_iff.mp e3) re fun σ' re' => ⟨ρ, ε', S, re', rs, p⟩⟩
    · exact p.elim
  | _ => exact p.elim
theorem s_for {t : Tg} {sr : Src} {bs : List Stmt} {xs : Sms} (hp : PassesOwn (model X.prog X.w) X.A X.env X.xe) (hc : X.calm = true) (hi : PI X tg e (LI Z (evI C sr))) (hg : PG X tg g) (hb : PSs X bs (LS Z (exs C xs)))
    (T1 : Turn1 Z (fun d ε S => match t.bind d ε with
      | some ε' => exs C xs ε' S
      | none => .bad) g (LS Z (exs C xs))) (hs : ∀ x, foldedSetIterable e X.env x = pure x := by intro _; rfl) : PS X (.For tg e bs [] pos) (LS Z (ex C (.for_ t sr xs))) :=
  PS_imp (ps_for hp hc hi hg hb hs) fun E σ H ⟨ρ, ε, S, re, rs, p⟩ => ⟨ρ, ε, S, re, rs, PostS.toS (R := rJ Z.K) (f := fun (J : Mi.It) (S1 : Sto) => loopI (fun d ε S => match t.bind d ε with
      | some ε' => exs C xs ε' S
      | none => .bad) J ε S1) re p fun ρ1 H1 j J S1 g1 rs1 hJ re1 p1 => k_all T1 hJ re1 rs1 p1⟩
end
end Mi
end

section
set_option linter.all false
set_option maxRecDepth 100000
set_option Elab.async false
/-! exceptions out of a comprehension -/
namespace Mi
open PySem PySem.Spec L2
open PyProof.Rows hiding St

/-- the frame that runs stands first -/
def FrOk (X : Cx) : Prop := ∃ d out L, X.stack = d :: out ∧ d.frame = some L ∧ X.env.frame = some L
/-- an exception in the air, flying or noted by the frame that runs -/
def XF (X : Cx) (W : WX) (u : Value) (s' : Shared) : Prop :=
  ∃ (a : Addr) (B : Heap) (sI : Shared) (pins : List (Addr × Obj)) (σ : St) (H : Hp) (cls : Value) (d : Option Addr),
    u = .ref a ∧ Inv X pins σ H sI ∧ (∀ b o, sI.heap.get? b = some o → b ∉ frs X.stack → B.get? b = some o) ∧ sI.heap.UpToSlots s'.heap ∧
      (HandSPX.FlyingZ B X.stack a (Zc cls d) s'.heap ∨ ∃ L, X.env.frame = some L ∧ HandSPX.HeldZ B X.stack a (Zc cls d) L s'.heap) ∧ H a = none ∧ s'.os = sI.os ∧ AllBare s'.gens ∧ W cls d σ H
def TakesF (X : Cx) (W : WX) : Prop := ∀ u s', XF X W u s' → X.xe u s'
theorem Takes.f {X : Cx} {W : WX} (tk : Takes X W) (hf : X.env.frame = some X.env.locals) : TakesF X W := fun u s' ⟨a, B, sI, pins, σ, H, cls, d, h1, h2, h3, h4, h5, h6⟩ =>
  tk u s' ⟨a, B, sI, pins, σ, H, cls, d, h1, h2, h3, h4, h5.elim (fun z => .inr (.inl z)) (fun ⟨L, e, z⟩ => .inr (.inr (by rw [hf] at e; cases e; exact z))), h6⟩
section
variable {X : Cx} {pins : List (Addr × Obj)} {σ : St} {H : Hp} {s s' : Shared} {W : WX} {E : XK}
theorem XF.of_call (I : Inv X pins σ H s) (hW : ∀ cls d H', E cls d H' → W cls d σ H') {u : Value} (c : L2.CX X.prog X.w X.stack H s E u s') : XF X W u s' := by
  obtain ⟨a, B, H', cls, d, rfl, fl, hok, ub, na, os, ag, hE⟩ := c
  obtain ⟨G, g1, g2⟩ := restrict s'.heap fun b => (B.get? b).isSome || decide (b ∈ frs X.stack)
  have st : B.StaysIn s'.heap := fl.1
  have gB : ∀ b o, B.get? b = some o → G.get? b = some o := fun b o e => by
    rw [g1 b (by simp [e])]
    exact st b o e
  have gF : ∀ b, b ∈ frs X.stack → G.get? b = s'.heap.get? b := fun b hb => g1 b (by simp [hb])
  have og : ∀ b o, G.get? b = some o → s'.heap.get? b = some o ∧ ((B.get? b).isSome = true ∨ b ∈ frs X.stack) := fun b o e => by
    cases q : ((B.get? b).isSome || decide (b ∈ frs X.stack)) with
    | false => rw [g2 b q] at e; cases e
    | true =>
      rw [g1 b q] at e
      exact ⟨e, by simpa [Bool.or_eq_true] using q⟩
  refine ⟨a, B, { s with heap := G, gens := s'.gens, drawn := s'.drawn, toks := s'.toks }, pins, σ, H', cls, d, rfl, ?_, fun b o e hb => ?_, Heap.UpToSlots.of_keeps fun b o e => (og b o e).1, .inl fl, na, os, ag, hW _ _ _ hE⟩
  · refine I.call (ch := []) ⟨fun b o e n hb _ => gB b o (ub.keep b o e n hb), fun b o e n hb _ => ?_, fun b o e n _ => ub.free b o e n, fun b o e _ => ?_, ub.tups, ub.frzs, ub.tbls⟩ (hok.kept gB) ag (fun _ z => nomatch z)
    · obtain ⟨sl, q⟩ := ub.slot b o e hb
      exact ⟨sl, by rw [gF b hb]; exact q⟩
    · by_cases hb : b ∈ frs X.stack
      · obtain ⟨sl, q⟩ := ub.slot b o e hb
        exact ⟨_, by rw [gF b hb]; exact q⟩
      · obtain ⟨o', q⟩ := ub.there b o e hb
        exact ⟨o', gB b o' q⟩
  · obtain ⟨e, z⟩ := og b o e
    rcases z with z | z
    · obtain ⟨o', q⟩ := Option.isSome_iff_exists.mp z
      have := st b o' q
      rw [e] at this
      cases this
      exact q
    · exact absurd z hb
theorem passF (tk : TakesF X W) (σ : St) : PassesAt (L2.CX X.prog X.w) X σ (WE W σ) := fun _ _ _ e s' I c => tk e s' (XF.of_call I (fun _ _ _ h => h) c)
end
/-! ### the block lets it go -/
/-- a block's wish: the exception is noted, the block's names are let go, it flies on in the def's frame -/
def goB (X : Cx) (ce : PySem.Env) : Value → Shared → Prop := notedBy (model X.prog X.w) X.A ce (CompFails (model X.prog X.w) X.A X.xe ce)
theorem tracedZ_but {h h₂ base : Heap} {e C : Addr} {Z : Obj → Prop} {fl : Value} {m : Str → Option Value} (hn : h.Ns C m) (hs : Heap.SameBut C h h₂) (t : HandSPX.TracedZ h base e Z fl) : HandSPX.TracedZ h₂ base e Z fl := by
  obtain ⟨oe, vs, T, oT, ts, h1, h2, h3, h4, h5, h6, h7, h8, h9⟩ := t
  obtain ⟨oC, es, ep, hC, dC, _⟩ := hn
  have ne : ∀ b o ws, h.get? b = some o → o.data = .fields ws → b ≠ C := fun b o ws q d c => by
    subst c
    rw [hC] at q; cases q
    rw [dC] at d; cases d
  exact ⟨oe, vs, T, oT, ts, (hs.2 _ (ne _ _ _ h1 h3)).trans h1, h2, h3, h4, h5, h6, (hs.2 _ (ne _ _ _ h7 h8)).trans h7, h8, h9⟩
theorem tracedZ_base {h base base' : Heap} {e : Addr} {Z : Obj → Prop} {fl : Value} (hb : ∀ b, base.get? b = none → base'.get? b = none) (t : HandSPX.TracedZ h base e Z fl) : HandSPX.TracedZ h base' e Z fl := by
  obtain ⟨oe, vs, T, oT, ts, h1, h2, h3, h4, h5, h6⟩ := t
  exact ⟨oe, vs, T, oT, ts, h1, h2, h3, h4, hb _ h5, h6⟩
/-- the heap B with C as it is in h -/
theorem replaced (B h : Heap) (C : Addr) : ∃ G : Heap, (∀ b, b ≠ C → G.get? b = B.get? b) ∧ ((B.get? C).isSome = true → G.get? C = h.get? C) ∧ (B.get? C = none → G.get? C = none) := by
  cases hC : B.get? C with
  | none => exact ⟨B, fun _ _ => rfl, fun z => by simp at z, fun _ => hC⟩
  | some o =>
    cases hc : h.get? C with
    | none =>
      obtain ⟨G, g1, g2⟩ := restrict B fun b => decide (b ≠ C)
      exact ⟨G, fun b hb => g1 b (by simpa using hb), fun _ => (g2 C (by simp)), fun z => nomatch z⟩
    | some o' =>
      have hf : o'.isFreed = false := (Heap.get?_some_iff.mp hc).2
      exact ⟨B.update C fun _ => o', fun b hb => Heap.get?_update_other _ _ (Ne.symm hb), fun _ => Heap.get?_update_self _ hC hf, fun z => nomatch z⟩
/-- the context of a block that exceptions may leave -/
abbrev blkX (X : Cx) (s : Shared) (H : Hp) (scope : Scope) (cenv : PySem.Env) (fp : List Addr) : Cx := { X with s_0 := s, H_0 := H, env := cenv, outer := X.stack, ex := fp, fn := fun x => scope.names.lookup x == some .cell, pn := [], xe := goB X cenv }
theorem goB_takes {X : Cx} {W : WX} {pins : List (Addr × Obj)} {σ : St} {H3 : Hp} {s3 : Shared} {scope : Scope} {ce : PySem.Env} {fp : List Addr} (tk : TakesF X W) (fr : FrOk X) (I3 : Inv X pins σ H3 s3) (hcf : ce.frame = X.env.frame) (hC : s3.heap.objs.size ≤ ce.locals)
    (f3 : ∀ b ∈ fp, FpOk X pins H3 b) : TakesF (blkX X s3 H3 scope ce fp) (fun cls d _ H => W cls d σ H) := by
  rintro u s' ⟨a, B, sI, pinsb, σb, H, cls, d, rfl, Ib, kept, up, air, na, os, ag, w⟩
  obtain ⟨d0, out, L, hst, hd0, hX⟩ := fr
  have hfr : X.A.frames = some (d0 :: out) := by rw [I3.ok.frames, hst]
  have hce : ce.frame = some L := hcf.trans hX
  have IX : Inv X pins σ H sI := I3.call' (ch := fp) Ib.os Ib.base Ib.hok Ib.bare fun b hb => ⟨(f3 b hb).2.2.2.1, (f3 b hb).2.1, (f3 b hb).2.2.2.2.1, (f3 b hb).2.2.2.2.2⟩
  have nC : H ce.locals = none := Ib.free
  obtain ⟨m, hn, _⟩ := Ib.loc
  have hn : sI.heap.Ns ce.locals m := hn
  have hCf : ce.locals ∉ frs X.stack := fun hm => by
    obtain ⟨_, o, e, _⟩ := I3.stack.mem hm
    exact absurd (Heap.lt_size e) (Nat.not_lt.mpr hC)
  have sC : ∃ o, sI.heap.get? ce.locals = some o := by
    obtain ⟨o, _, _, e, _⟩ := hn
    exact ⟨o, e⟩
  obtain ⟨oC, eC⟩ := sC
  have bC : B.get? ce.locals = some oC := kept _ _ eC hCf
  obtain ⟨g0, g1, g2, g3, g4, g5⟩ := I3.fpOk hC nC
  have key : ∀ h', HandSPX.HeldZ B X.stack a (Zc cls d) L h' → s'.heap.UpToSlots h' → CompFails (model X.prog X.w) X.A X.xe ce (.ref a) { s' with heap := h' } := fun h' hh up' => by
    have upI : sI.heap.UpToSlots h' := up.trans up'
    have hn' : h'.Ns ce.locals m := upI.ns hn
    refine ⟨m, hn', fun h₂ m₂ hn₂ hs₂ => ?_⟩
    have hs₂ : Heap.SameBut ce.locals h' h₂ := hs₂
    obtain ⟨b1, b0, f1, t1⟩ := hh
    obtain ⟨G, hG1, hG2, _⟩ := replaced B h₂ ce.locals
    have hG2 := hG2 (by rw [bC]; rfl)
    have hh₂ : HandSPX.HeldZ G X.stack a (Zc cls d) L h₂ := by
      refine ⟨fun b o e => ?_, ?_, ?_, ?_⟩
      · by_cases hb : b = ce.locals
        · subst hb; rw [hG2] at e; exact e
        · rw [hG1 b hb] at e
          exact (hs₂.2 b hb).trans (b1 b o e)
      · rw [hG1 a fun c => by subst c; rw [b0] at bC; cases bC]; exact b0
      · refine funFrames_none (Heap.FunFrames.sameBut hs₂ hn₂ f1) fun b hb => ?_
        rw [hG1 b fun c => by subst c; exact hCf hb]
        exact (f1.mem hb).1
      · refine tracedZ_base (fun b e => ?_) (tracedZ_but hn' hs₂ t1)
        rw [hG1 b fun c => by subst c; rw [e] at bC; cases bC]; exact e
    obtain ⟨oe, vs, T, oT, ts, he, hz, hd, h1, hr⟩ := hh₂.2.2.2
    unfold PySem.passOn
    refine wpAny_bind (wpAny_field he hd h1 ?_)
    rw [if_neg (show ¬ ((Value.ref T == Value.none) = true) from by simp), hce]
    refine wpAny_bind (HandSPX.setFlight_onZ (s := { s' with heap := h₂ }) hh₂ fun h₃ hh₃ up₃ => wpAny_throw ?_)
    obtain ⟨G2, k1, k2, _⟩ := replaced sI.heap h₂ ce.locals
    have k2 := k2 (by rw [eC]; rfl)
    refine tk _ _ ⟨a, G, { sI with heap := G2, toks := sI.toks }, pins, σ, H, cls, d, rfl, IX.turned (it := ce.locals) (t' := sI.toks) (fun b o hb e => by rw [k1 b hb]; exact e) g0 g1 g3 g4 g5, fun b o e hb => ?_, fun b o e hd => ?_, .inr ⟨L, hX, hh₃⟩, na, os, ag, w⟩
    · have e : G2.get? b = some o := e
      by_cases hc : b = ce.locals
      · subst hc; rw [k2] at e; rw [hG2]; exact e
      · rw [k1 b hc] at e
        rw [hG1 b hc]
        exact kept b o e hb
    · have e : G2.get? b = some o := e
      by_cases hc : b = ce.locals
      · subst hc; rw [k2] at e; exact up₃ _ o e hd
      · rw [k1 b hc] at e
        obtain ⟨sl, q⟩ := upI b o e hd
        exact up₃ b { o with slots := sl } ((hs₂.2 b hc).trans q) hd
  show wpAny (model X.prog X.w) X.A (noteFrame (.ref a) ce) (fun _ s'' => CompFails (model X.prog X.w) X.A X.xe ce (.ref a) s'') (CompFails (model X.prog X.w) X.A X.xe ce) s'
  rcases air with fl | ⟨L', e, hh⟩
  · rw [noteFrame_env _ (hce.trans hd0.symm)]
    have fl : HandSPX.FlyingZ B (d0 :: out) a (Zc cls d) s'.heap := by rw [← hst]; exact fl
    exact HandSPX.looks_onZ Zc.steady hfr hd0 fl fun h' hh up' => key h' (by rw [hst]; exact hh) up'
  · have e : ce.frame = some L' := e
    rw [hce] at e; cases e
    exact HandSPX.againZ hce hh.2.2.2 (key s'.heap hh (Heap.UpToSlots.refl _))
end Mi
end

section
set_option linter.all false
set_option maxRecDepth 100000
set_option Elab.async false
/-! calls: one unit of depth a level -/
namespace Mi
open PySem PySem.Spec L2
open PyProof.Rows hiding St

structure RoomT (k : Nat) (A : Around) : Prop where
  hd : A.handled = none
  dp : A.depth + k + 5 < recursionLimit
  un : A.units + 4 * k + 200 < cLine
theorem RoomT.mono {j k : Nat} {A : Around} (r : RoomT k A) (h : j ≤ k) : RoomT j A := ⟨r.hd, by have := r.dp; omega, by have := r.un; omega⟩
theorem RoomT.deeper {k : Nat} {A : Around} (r : RoomT (k + 1) A) (env : PySem.Env) : RoomT k (A.deeper env) :=
  ⟨r.hd, by have := r.dp; show A.depth + 1 + k + 5 < _; omega, by have := r.un; show A.units + 3 + 4 * k + 200 < _; omega⟩
theorem RoomT.make {k : Nat} {A : Around} (r : RoomT (k + 1) A) (C : Addr) (us : List Value) (kw : List (Str × Value)) : RoomT k (A.under (.builtin "type.__call__" ⟨.ref C :: us, kw⟩)) :=
  ⟨r.hd, by have := r.dp; rw [make_depth]; omega, by have := r.un; rw [make_units]; omega⟩
theorem RoomT.of {k : Nat} {A : Around} (r : Room k A) : RoomT (3 * k) A := ⟨r.hd, by have := r.dp; omega, by have := r.un; omega⟩
theorem RoomT.units {k : Nat} {A : Around} (r : RoomT k A) : A.units + 80 < cLine := by have := r.un; omega

structure FnT (P : Program) (w : World) (K : PySem.W.Frag) (mg : Str → Option Value) (base : Heap) (CX : CXT) (k : Nat) (f : Addr) (fd : FuncData) (ps : List Str) (sp : Sp) : Prop where
  len : ∀ vs H Q E, sp vs H Q E → vs.length = ps.length
  run : ∀ (A : Around) (outer : List PySem.Env) (s : Shared) (H : Hp) (args : Args) (us : List Value) (vs : List V) (Q : VK) (E : XK), RoomT k A → Env0 P w K mg base A outer s H → BindsTo s fd args (ps.zip us) → Vals vs us → sp vs H Q E →
    codeAny (model P w) A (.call (.ref f) args) (CR CX outer P w H s Q E) s
theorem FnT.ok {P : Program} {w : World} {K : PySem.W.Frag} {mg : Str → Option Value} {base : Heap} {CX : CXT} {k : Nat} {f : Addr} {fd : FuncData} {ps : List Str} {sp : Sp} (F : FnT P w K mg base CX (3 * k) f fd ps sp) : FnOk P w K mg base CX k f fd ps sp :=
  ⟨F.len, fun A outer s H args us vs Q E r => F.run A outer s H args us vs Q E (.of r)⟩
section
variable {X : Cx} {CX : CXT} {k : Nat} {f C : Addr} {fd : FuncData} {ps : List Str} {sp : Sp} {E : St → XK} {x m : Str} {p pos apos : Pos} {e o : Expr} {es : List Expr} {ta : TE} {t : TA}
theorem run_fnT {pins : List (Addr × Obj)} {σ : St} {H : Hp} {s : Shared} {Q : VK} {us : List Value} {vs : List V} (F : FnT X.prog X.w X.K X.mg X.base CX k f fd ps sp) (hr : RoomT k X.A) (hb : Binds X.K fd ps []) (hx : PassesAt CX X σ (E σ))
    (I : Inv X pins σ H s) (r : Vals vs us) (h : sp vs H Q (E σ)) : wpAny (model X.prog X.w) X.A (call (.ref f) us) (EP X pins σ Q) X.xe s := by
  have hl : us.length = ps.length := by rw [← r.length]; exact F.len _ _ _ _ h
  have b := hb s us I.kIn (by rw [List.append_nil]; exact hl)
  rw [List.append_nil] at b
  refine wpAny_call (codeAny_mono (F.run X.A X.stack s H ⟨us, []⟩ us vs Q (E σ) hr I.env0 b r h) fun r s' hq => ?_)
  cases r with
  | error e => exact hx pins H s e s' I hq
  | ok fl =>
    cases fl with
    | ret u => exact I.after hq
    | next => exact False.elim hq
    | brk => exact False.elim hq
    | cont => exact False.elim hq
theorem pe_callT (F : FnT X.prog X.w X.K X.mg X.base CX k f fd ps sp) (hr : RoomT k X.A) (hg : Gl X x) (hm : X.mg x = some (.ref f)) (hk : PySem.W.keepIn X.K (.ref f) = true) (hb : Binds X.K fd ps []) (hx : ∀ σ, PassesAt CX X σ (E σ))
    (ha : PA X (e :: es) t) (hdb : (x == ("__debug__" : Str)) = false) (he : starEach (e :: es) X.env = (false, eval e X.env) :: starEach es X.env) (hpl : (backTo pos (starEach es X.env)).any (·.1) = false) :
    PE X (.Call (.Name x p) (e :: es) [] pos) (tCallS sp E t) := by
  refine ⟨fun pins s σ H Q I h => ?_⟩
  refine wpAny_Call_Name_kw (ld_glob I hg hm ?_ hdb)
  refine PySem.W.callWith_K (h₀ := X.base) I.ok.mod.kin hk (thn (ha.run pos pins s σ H _ I h) fun us s1 ⟨vs, H1, I1, r, q⟩ => ⟨I1.kIn, ?_⟩) he hpl
  exact run_fnT F hr hb (hx σ) I1 r q
theorem pe_callT0 (F : FnT X.prog X.w X.K X.mg X.base CX k f fd ps sp) (hr : RoomT k X.A) (hg : Gl X x) (hm : X.mg x = some (.ref f)) (hk : PySem.W.keepIn X.K (.ref f) = true) (hb : Binds X.K fd ps []) (hx : ∀ σ, PassesAt CX X σ (E σ))
    (hdb : (x == ("__debug__" : Str)) = false) : PE X (.Call (.Name x p) [] [] pos) (tCallS sp E tNil) := by
  refine ⟨fun pins s σ H Q I h => ?_⟩
  refine wpAny_Call_Name_kw (ld_glob I hg hm ?_ hdb)
  exact PySem.W.callWith_K0 I.kIn hk (run_fnT (us := []) F hr hb (hx σ) I .nil h)
def tMethS (C : Addr) (m : Str) (sp : Sp) (E : St → XK) (ta : TE) (t : TA) : TE := fun σ H Q => ta σ H fun x H1 => ∃ a dx fs, x = .ref a ∧ H1 a = some (.ins C dx fs) ∧ fs.lookup m = none ∧ t σ H1 fun vs H2 => sp (x :: vs) H2 Q (E σ)
theorem pe_methT {pl : Sem Bool} (he : PE X o ta) (c : Cls X.K C) (hm : Meth X.K C m f) (F : FnT X.prog X.w X.K X.mg X.base CX k f fd ps sp) (hr : RoomT k X.A) (hb : Binds X.K fd ps []) (hx : ∀ σ, PassesAt CX X σ (E σ)) (ha : PA X (e :: es) t)
    (hst : starEach (e :: es) X.env = (false, eval e X.env) :: starEach es X.env) (hpl : (backTo pos (starEach es X.env)).any (·.1) = false)
    (ht : eval (.Call (.Attribute o m apos) (e :: es) [] pos) X.env = (do
      let ov ← eval o X.env
      standAt apos.atName
      let (f, first) ← holding [ov] (getMethod ov m pl)
      callWith pos f first (backTo pos (starEach (e :: es) X.env)) (backToKw pos (keywordEach [] X.env)))) :
    PE X (.Call (.Attribute o m apos) (e :: es) [] pos) (tMethS C m sp E ta t) := by
  refine ⟨fun pins s σ H Q I h => ?_⟩
  refine PySem.W.methodCall_KW (pl := pl) (thn (he.run pins s σ H _ I h) fun u s1 ⟨x, H1, I1, rx, a, dx, fs, ex, ea, l, q⟩ => ?_) ht
  subst ex
  obtain rfl : u = Value.ref a := rx
  refine getmeth_ok I1 ea c hm l ?_
  refine PySem.W.callWith_K (first := [.ref a]) (h₀ := X.base) I.ok.mod.kin hm.kp (thn (ha.run pos pins s1 σ H1 _ I1 q) fun us s2 ⟨vs, H2, I2, r, q2⟩ => ⟨I2.kIn, ?_⟩) hst hpl
  exact run_fnT (us := .ref a :: us) (vs := .ref a :: vs) F hr hb (hx σ) I2 (.cons rfl r) q2
theorem pe_methT0 {pl : Sem Bool} (he : PE X o ta) (c : Cls X.K C) (hm : Meth X.K C m f) (F : FnT X.prog X.w X.K X.mg X.base CX k f fd ps sp) (hr : RoomT k X.A) (hb : Binds X.K fd ps []) (hx : ∀ σ, PassesAt CX X σ (E σ))
    (ht : eval (.Call (.Attribute o m apos) [] [] pos) X.env = (do
      let ov ← eval o X.env
      standAt apos.atName
      let (f, first) ← holding [ov] (getMethod ov m pl)
      callWith pos f first (backTo pos (starEach [] X.env)) (backToKw pos (keywordEach [] X.env)))) :
    PE X (.Call (.Attribute o m apos) [] [] pos) (tMethS C m sp E ta tNil) := by
  refine ⟨fun pins s σ H Q I h => ?_⟩
  refine PySem.W.methodCall_KW (pl := pl) (thn (he.run pins s σ H _ I h) fun u s1 ⟨x, H1, I1, rx, a, dx, fs, ex, ea, l, q⟩ => ?_) ht
  subst ex
  obtain rfl : u = Value.ref a := rx
  refine getmeth_ok I1 ea c hm l ?_
  exact PySem.W.callWith_K0 (first := [.ref a]) I1.kIn hm.kp (run_fnT (us := [.ref a]) (vs := [.ref a]) F hr hb (hx σ) I1 (.cons rfl .nil) q)
def tMakeS (C : Addr) (sp : Sp) (E : St → XK) (t : TA) : TE := fun σ H Q => t σ H fun vs H1 => ∀ x dx, H1 x = none → H1 dx = none → dx ≠ x →
  sp (.ref x :: vs) (upd (upd H1 dx (.own x)) x (.ins C dx [])) (fun v H2 => v = .non ∧ Q (.ref x) H2) (E σ)
theorem run_makeT {pins : List (Addr × Obj)} {σ : St} {H : Hp} {s : Shared} {Q : VK} {us : List Value} {vs : List V} (M : Mk X.K C f) (F : FnT X.prog X.w X.K X.mg X.base CX k f fd ps sp) (hr : RoomT (k + 1) X.A) (hb : Binds X.K fd ps [])
    (hx : PassesAt CX X σ (E σ)) (I : Inv X pins σ H s) (r : Vals vs us)
    (h : ∀ x dx, H x = none → H dx = none → dx ≠ x → sp (.ref x :: vs) (upd (upd H dx (.own x)) x (.ins C dx [])) (fun v H2 => v = .non ∧ Q (.ref x) H2) (E σ)) :
    wpAny (model X.prog X.w) X.A (call (.ref C) us) (EP X pins σ Q) X.xe s := by
  have hq := h (s.heap.objs.size + 1) s.heap.objs.size (I.hok.fresh (Nat.le_succ _)) (I.hok.fresh (Nat.le_refl _)) (Nat.ne_of_lt (Nat.lt_succ_self _))
  have I2 := Inv.made (C := C) I
  have r2 : Vals (V.ref (s.heap.objs.size + 1) :: vs) (Value.ref (s.heap.objs.size + 1) :: us) := .cons rfl r
  have hl : (Value.ref (s.heap.objs.size + 1) :: us ++ []).length = ps.length := by
    have e := r2.length
    rw [F.len _ _ _ _ hq] at e
    rw [List.append_nil]
    exact e.symm
  have b := hb _ (Value.ref (s.heap.objs.size + 1) :: us) I2.kIn hl
  rw [List.append_nil] at b
  refine wpAny_call (make_map (f := f) I.kIn M.makes M.init (beq_iff_eq.mp M.fn) (codeAny_mono (F.run _ X.stack _ _ ⟨Value.ref (s.heap.objs.size + 1) :: us, []⟩ (Value.ref (s.heap.objs.size + 1) :: us) _ _ (E σ) (hr.make C us [])
    (I2.env0.make C us []) b r2 hq) fun r s' hq' => ?_))
  cases r with
  | error e => exact hx pins _ _ e s' I2 hq'
  | ok fl =>
    cases fl with
    | ret u =>
      obtain ⟨v, H', I3, rv, ev, q3⟩ := I2.after hq'
      subst ev
      exact ⟨rv, ⟨V.ref (s.heap.objs.size + 1), H', I3, rfl, q3⟩⟩
    | next => exact False.elim hq'
    | brk => exact False.elim hq'
    | cont => exact False.elim hq'
theorem pe_makeT (M : Mk X.K C f) (F : FnT X.prog X.w X.K X.mg X.base CX k f fd ps sp) (hr : RoomT (k + 1) X.A) (hg : Gl X x) (hm : X.mg x = some (.ref C)) (hb : Binds X.K fd ps []) (hx : ∀ σ, PassesAt CX X σ (E σ))
    (ha : PA X (e :: es) t) (hdb : (x == ("__debug__" : Str)) = false) (he : starEach (e :: es) X.env = (false, eval e X.env) :: starEach es X.env) (hpl : (backTo pos (starEach es X.env)).any (·.1) = false) :
    PE X (.Call (.Name x p) (e :: es) [] pos) (tMakeS C sp E t) := by
  refine ⟨fun pins s σ H Q I h => ?_⟩
  refine wpAny_Call_Name_kw (ld_glob I hg hm ?_ hdb)
  refine PySem.W.callWith_K (h₀ := X.base) I.ok.mod.kin M.kp (thn (ha.run pos pins s σ H _ I h) fun us s1 ⟨vs, H1, I1, r, q⟩ => ⟨I1.kIn, ?_⟩) he hpl
  exact run_makeT M F hr hb (hx σ) I1 r q
end
/-- a def of the text, by its body -/
theorem fn_ofT {CX : CXT} {P : Program} {w : World} {K : PySem.W.Frag} {mg : Str → Option Value} {base : Heap} {k : Nat} {f : Addr} {name qual : Str} {params : Arguments} {body : List Stmt} {scope : Scope} {dV kV doc pm cdv ct oc : Value} {an od : Option Addr}
    {osl : Array (Option Value)} {N ps : List Str} {sp : Sp} (lk : K.lookup f = some ⟨oc, od, .func (PySem.W.fnOf name qual params body scope dV kV doc pm an cdv ct), osl⟩) (hcd : PySem.W.codeIn K cdv qual = true) (S : FnScope N ps scope)
    (len : ∀ vs H Q E, sp vs H Q E → vs.length = ps.length)
    (hbody : ∀ (A : Around) (outer : List PySem.Env) (s : Shared) (H : Hp) (vs : List V) (Q : VK) (E : XK), RoomT k (A.deeper (envOfC qual scope s.heap.objs.size f cdv)) → sp vs H Q E →
      ∃ t, PSs (cxOf CX P w K mg base N qual scope f cdv A outer s H E) body t ∧ t { nx := fun _ H' => Q .non H', rt := Q } (start N vs) H) :
    FnT P w K mg base CX (k + 1) f (PySem.W.fnOf name qual params body scope dV kV doc pm an cdv ct) ps sp := by
  refine ⟨len, fun A outer s H args us vs Q E hr e0 hb r hsp => ?_⟩
  have hl := len _ _ _ _ hsp
  have KX : K.In s.heap := e0.mod.kin.keeps fun b o e => (e0.bs b o e).1
  have lim : s.heap.NoLimit := e0.mod.nolimit.keeps fun b o e => (e0.bs b o e).1
  have hkind : ∀ y ∈ ps.zip us, scope.names.lookup y.1 = some .local ∨ (scope.names.lookup y.1 = some .cell ∧ ((cellsFrom (s.heap.objs.size + 1) scope.names []).lookup y.1).isSome = true) := fun ⟨n, v⟩ hy => by
    rcases S.par n (List.of_mem_zip hy).1 with q | q
    · exact .inl q
    · exact .inr ⟨q, PySem.W.cellsFrom_some _ _ _ (.inl q)⟩
  have hdep : A.depth < recursionLimit := by have := hr.dp; omega
  refine codeAny_call_function hdep (KX _ _ lk) rfl S.co S.gen rfl (PySem.W.codeRec_of KX hcd) (hb _ _ _ _ ?_)
  refine wpAny_newFunctionEnv_cells S.kind hkind fun env he s1 x => ?_
  subst he
  refine ⟨lim.keeps x.toInCall.keep, codeAny_func ?_⟩
  obtain ⟨t, ht, hq⟩ := hbody A outer s H vs Q E (hr.deeper _) hsp
  have I : Inv (cxOf CX P w K mg base N qual scope f cdv A outer s H E) [] (start N vs) H s1 := inv_start S hr.hd e0 hl r x
  refine wpAny_mono (ht.run [] s1 (start N vs) H _ I hq) (fun fl s' hs => ?_) fun e s' hs => hs
  have fin : ∀ {σ' : St} {H' : Hp} {v : V} {u : Value}, Inv (cxOf CX P w K mg base N qual scope f cdv A outer s H E) [] σ' H' s' → RelV v u → Q v H' → CE outer P w H s Q u s' :=
    fun {σ' H' v u} J rv q => ⟨v, H', J.os, J.bare, J.base, J.hok, rv, q⟩
  cases fl with
  | ret u => obtain ⟨v, σ', H', J, rv, q⟩ := hs; exact fin J rv q
  | next => obtain ⟨σ', H', J, q⟩ := hs; exact fin (v := V.non) (u := Value.none) J rfl q
  | brk => obtain ⟨_, _, _, q⟩ := hs; exact False.elim q
  | cont => obtain ⟨_, _, _, q⟩ := hs; exact False.elim q

/-! ### the promise of a def: the interpreter's run -/
def spM (K : PySem.W.Frag) (T : GA) (cf : List D → Sto → Res D) : Sp := fun vs H Q E => ∃ ρ ds S, RS K T ρ H S ∧ RVs K ρ H ds vs ∧ Post K T (fun c d _ H => E c d H) (rV K) ρ [] H (cf ds S) Q
theorem Post.sig {K : PySem.W.Frag} {T : GA} {W : WX} {α β : Type} {R : Rel α β} {ρ : List Addr} {σ : St} {H : Hp} {r : Res α} {Q : β → Hp → Prop} (h : Post K T W R ρ σ H r Q) : Post K T (fun c d _ H => WE W σ c d H) R ρ [] H r Q := by
  cases r with
  | ok a S => exact h
  | ex x S => exact h
  | bad => exact h
/-- a def by its name in the module -/
def FnC (P : Program) (w : World) (K : PySem.W.Frag) (T : GA) (mg : Str → Option Value) (base : Heap) (k : Nat) (cf : List D → Sto → Res D) (n : Str) : Prop :=
  ∃ f fd ps, mg n = some (.ref f) ∧ PySem.W.keepIn K (.ref f) = true ∧ Binds K fd ps [] ∧ FnT P w K mg base (L2.CX P w) k f fd ps (spM K T cf)
/-- a method -/
def MtC (P : Program) (w : World) (K : PySem.W.Frag) (T : GA) (mg : Str → Option Value) (base : Heap) (k : Nat) (cf : List D → Sto → Res D) (c : Cl) (m : Str) : Prop :=
  ∃ f fd ps, Cls K (T.ca c) ∧ Meth K (T.ca c) m f ∧ (∀ fl, fstr fl ≠ m) ∧ Binds K fd ps [] ∧ FnT P w K mg base (L2.CX P w) k f fd ps (spM K T cf)
/-- a class that is made -/
def MkC (P : Program) (w : World) (K : PySem.W.Frag) (T : GA) (mg : Str → Option Value) (base : Heap) (k : Nat) (cf : List D → Sto → Res D) (c : Cl) (n : Str) : Prop :=
  ∃ f fd ps, mg n = some (.ref (T.ca c)) ∧ Mk K (T.ca c) f ∧ Binds K fd ps [] ∧ FnT P w K mg base (L2.CX P w) k f fd ps (spM K T cf)
section
variable {X : Cx} {Z : Cz} {C : Cf} {a b c e o : Expr} {x y z : Ex} {pos p apos : Pos} {es : List Expr} {xs : Exs} {n m : Str} {k : Nat}
theorem e_call {g : Fn} (hz : Z.K = X.K) (tk : TakesF X Z.W) (hr : RoomT k X.A) (F : FnC X.prog X.w X.K Z.T X.mg X.base k (C.cf g) n) (hg : Gl X n) (ha : PA X (e :: es) (LA Z (evs C xs))) (hdb : (n == ("__debug__" : Str)) = false := by decide +kernel)
    (he : starEach (e :: es) X.env = (false, eval e X.env) :: starEach es X.env := by rfl) (hpl : (backTo pos (starEach es X.env)).any (·.1) = false := by rfl) : PE X (.Call (.Name n p) (e :: es) [] pos) (L Z (ev C (.call g xs))) := by
  obtain ⟨f, fd, ps, hm, hk, hb, F⟩ := F
  exact PE_imp (pe_callT (E := WE Z.W) F hr hg hm hk hb (passF tk) ha hdb he hpl) fun σ H Q h => LA_bind (m := evs C xs) (f := fun ε ds S => C.cf g ds S) h fun ρ ε S ds vs H1 re rs rv q => by
    rw [← hz]; exact ⟨ρ, ds, S, rs, rv, q.sig⟩
theorem e_call0 {g : Fn} (hz : Z.K = X.K) (tk : TakesF X Z.W) (hr : RoomT k X.A) (F : FnC X.prog X.w X.K Z.T X.mg X.base k (C.cf g) n) (hg : Gl X n) (hdb : (n == ("__debug__" : Str)) = false := by decide +kernel) : PE X (.Call (.Name n p) [] [] pos) (L Z (ev C (.call g .nil))) := by
  obtain ⟨f, fd, ps, hm, hk, hb, F⟩ := F
  exact PE_imp (pe_callT0 (E := WE Z.W) F hr hg hm hk hb (passF tk) hdb) fun σ H Q ⟨ρ, ε, S, re, rs, p⟩ => by
    rw [← hz]; exact ⟨ρ, [], S, rs, rfl, Post.sig p⟩
theorem ins_at {K : PySem.W.Frag} {T : GA} {ρ : List Addr} {H : Hp} {S : Sto} {d : D} {v : V} {c : Cl} (rs : RS K T ρ H S) (rv : RV K ρ H d v) (h : isIns d c S = true) (hm : ∀ fl, fstr fl ≠ m) : ∃ a dx fs, v = .ref a ∧ H a = some (.ins (T.ca c) dx fs) ∧ fs.lookup m = none := by
  cases d with
  | ref l =>
    simp only [isIns] at h
    split at h
    · rename_i c' fs h1
      have h := of_decide_eq_true h
      subst h
      obtain ⟨a, dx, gs, e1, e2, e3⟩ := rs.insL h1
      obtain ⟨a', e1', rv⟩ := rv
      rw [e1] at e1'; cases e1'
      refine ⟨a, dx, gs, rv, e2, ?_⟩
      clear h1 e2
      induction e3 with
      | nil => rfl
      | @cons p q _ _ r t ih =>
        obtain ⟨q1, q2⟩ := q
        have r1 : q1 = fstr p.1 := r.1
        subst r1
        rw [List.lookup_cons]
        have : (m == fstr p.1) = false := beq_eq_false_iff_ne.mpr fun c => hm p.1 c.symm
        rw [this]
        exact ih
    · cases h
  | _ => cases h
theorem e_meth {g : Fn} {pl : Sem Bool} (hz : Z.K = X.K) (tk : TakesF X Z.W) (hr : RoomT k X.A) (F : MtC X.prog X.w X.K Z.T X.mg X.base k (C.cf g) (clsOf g) m) (ho : PE X o (L Z (ev C x))) (ha : PA X (e :: es) (LA Z (evs C xs)))
    (he : starEach (e :: es) X.env = (false, eval e X.env) :: starEach es X.env := by rfl) (hpl : (backTo pos (starEach es X.env)).any (·.1) = false := by rfl)
    (ht : eval (.Call (.Attribute o m apos) (e :: es) [] pos) X.env = (do
      let ov ← eval o X.env
      standAt apos.atName
      let (f, first) ← holding [ov] (getMethod ov m pl)
      callWith pos f first (backTo pos (starEach (e :: es) X.env)) (backToKw pos (keywordEach [] X.env))) := by rfl) : PE X (.Call (.Attribute o m apos) (e :: es) [] pos) (L Z (ev C (.meth g x xs))) := by
  obtain ⟨f, fd, ps, hc, hM, hf, hb, F⟩ := F
  exact PE_imp (pe_methT (E := WE Z.W) ho hc hM F hr hb (passF tk) ha he hpl ht) fun σ H Q h => L_bind (m := ev C x) (f := fun ε d S => if isIns d (clsOf g) S = true then (evs C xs ε S).bind fun ds S2 => C.cf g (d :: ds) S2 else .bad) h fun ρ ε S d v H1 re rs rv q => by
    split at q
    · rename_i hi
      obtain ⟨a, dx, fs, e1, e2, e3⟩ := ins_at rs rv hi hf
      exact ⟨a, dx, fs, e1, e2, e3, ρ, ε, S, re, rs, q.bind fun ρ2 H2 ds vs S2 g2 rs2 rv2 q2 => by rw [← hz]; exact ⟨ρ2, d :: ds, S2, rs2, .cons (rv.up g2) rv2, q2.sig⟩⟩
    · exact q.elim
theorem e_meth0 {g : Fn} {pl : Sem Bool} (hz : Z.K = X.K) (tk : TakesF X Z.W) (hr : RoomT k X.A) (F : MtC X.prog X.w X.K Z.T X.mg X.base k (C.cf g) (clsOf g) m) (ho : PE X o (L Z (ev C x)))
    (ht : eval (.Call (.Attribute o m apos) [] [] pos) X.env = (do
      let ov ← eval o X.env
      standAt apos.atName
      let (f, first) ← holding [ov] (getMethod ov m pl)
      callWith pos f first (backTo pos (starEach [] X.env)) (backToKw pos (keywordEach [] X.env))) := by rfl) : PE X (.Call (.Attribute o m apos) [] [] pos) (L Z (ev C (.meth g x .nil))) := by
  obtain ⟨f, fd, ps, hc, hM, hf, hb, F⟩ := F
  exact PE_imp (pe_methT0 (E := WE Z.W) ho hc hM F hr hb (passF tk) ht) fun σ H Q h => L_bind (m := ev C x) (f := fun ε d S => if isIns d (clsOf g) S = true then (evs C .nil ε S).bind fun ds S2 => C.cf g (d :: ds) S2 else .bad) h fun ρ ε S d v H1 re rs rv q => by
    split at q
    · rename_i hi
      obtain ⟨a, dx, fs, e1, e2, e3⟩ := ins_at rs rv hi hf
      exact ⟨a, dx, fs, e1, e2, e3, by rw [← hz]; exact ⟨ρ, [d], S, rs, .one rv, Post.sig q⟩⟩
    · exact q.elim
theorem e_mk {c : Cl} (hz : Z.K = X.K) (tk : TakesF X Z.W) (hr : RoomT (k + 1) X.A) (F : MkC X.prog X.w X.K Z.T X.mg X.base k (C.ci (initOf c)) c n) (hg : Gl X n) (ha : PA X (e :: es) (LA Z (evs C xs))) (hdb : (n == ("__debug__" : Str)) = false := by decide +kernel)
    (he : starEach (e :: es) X.env = (false, eval e X.env) :: starEach es X.env := by rfl) (hpl : (backTo pos (starEach es X.env)).any (·.1) = false := by rfl) : PE X (.Call (.Name n p) (e :: es) [] pos) (L Z (ev C (.mk c xs))) := by
  obtain ⟨f, fd, ps, hm, M, hb, F⟩ := F
  exact PE_imp (pe_makeT (E := WE Z.W) M F hr hg hm hb (passF tk) ha hdb he hpl) fun σ H Q h => LA_bind (m := evs C xs) (f := fun ε ds S1 => (C.ci (initOf c) (.ref S1.length :: ds) (S1 ++ [.ins c []])).bind fun r S2 => match r with
    | .non => .ok (.ref S1.length) S2
    | _ => .bad) h fun ρ ε S ds vs H1 re rs rv q x dx hx hdx hne => by
      have hx' : (upd H1 dx (.own x)) x = none := by rw [upd_ne (Ne.symm hne)]; exact hx
      have g1 : Gu Z.K ρ ρ H1 (upd H1 dx (.own x)) := Gu.aside hdx
      have g2 : Gu Z.K ρ (ρ ++ [x]) (upd H1 dx (.own x)) (upd (upd H1 dx (.own x)) x (.ins (Z.T.ca c) dx [])) := Gu.fresh hx'
      have rs1 := rs.aside (u := .own x) hdx
      have rs2 : RS Z.K Z.T (ρ ++ [x]) (upd (upd H1 dx (.own x)) x (.ins (Z.T.ca c) dx [])) (S ++ [.ins c []]) := rs1.fresh hx' ⟨dx, [], upd_same, .nil⟩
      rw [← hz]
      refine ⟨ρ ++ [x], .ref S.length :: ds, _, rs2, .cons ⟨x, fresh_at rs, rfl⟩ (rv.up (g1.trans g2)), ?_⟩
      refine Post.sig (W := Z.W) (σ := σ) ?_
      refine Post.bind (R := rV Z.K) (Post.shift (g1.trans g2) q) fun ρ3 H3 d v S3 g3 rs3 rv3 q3 => ?_
      cases d with
      | non => exact ⟨rv3, Post.ok q3 rs3 ⟨x, g3.pre _ _ (fresh_at rs), rfl⟩⟩
      | _ => exact q3.elim
end
/-- a body's run keeps the def's promise -/
theorem body_run {K : PySem.W.Frag} {T : GA} {C : Cf} {N ps : List Str} {b : Sms} {vs : List V} {H : Hp} {Q : VK} {E : XK} {f : Fn} {bo : Fn → FD} (hb : bo f = ⟨ps.length, N.length, b⟩) (h : spM K T (runF bo C f) vs H Q E) :
    LS ⟨K, T, fun c d _ H => E c d H, none⟩ (exs C b) { nx := fun _ H' => Q .non H', rt := Q } (start N vs) H := by
  obtain ⟨ρ, ds, S, rs, rv, p⟩ := h
  unfold runF at p
  split at p
  · rename_i hl
    rw [hb] at p hl
    have hl : ds.length = ps.length := hl
    have hv : vs.length = ds.length := rv.len.symm
    refine ⟨ρ, ⟨ds.map some ++ List.replicate (N.length - ps.length) none, none⟩, S, ⟨?_, fun i d hi => ?_, rfl⟩, rs, ?_⟩
    rotate_left 2
    · generalize exs C b ⟨ds.map some ++ List.replicate (N.length - ps.length) none, none⟩ S = r at p ⊢
      cases r with
      | nx ε S' => exact fun ρ' H' σ' g rs' re' => p ρ' H' .non g rs' rfl
      | rt d S' => exact fun ρ' H' v g rs' rv' => p ρ' H' v g rs' rv'
      | ex x ε S' => exact fun ρ' H' σ' c d g rs' re' rx n => p ρ' H' c d g rs' rx n
      | bad => exact p
    · simp only [L2.start, List.length_append, List.length_map, List.length_replicate, hv, hl]
    · by_cases hi' : i < ds.length
      · rw [List.getElem?_append_left (by simpa using hi'), List.getElem?_map] at hi
        have hd : ds[i]? = some d := by
          cases h : ds[i]? with
          | none => rw [h] at hi; cases hi
          | some e => rw [h] at hi; cases hi; rfl
        obtain ⟨v, h1, h2⟩ := pr_get (RVs_iff.mp rv) hd
        refine ⟨v, ?_, h2⟩
        unfold L2.start
        rw [List.getElem?_append_left (by simp; omega), List.getElem?_map, h1]
        rfl
      · rw [List.getElem?_append_right (by simpa using Nat.le_of_not_lt hi')] at hi
        have := List.mem_of_getElem? hi
        rw [List.mem_replicate] at this
        cases this.2
  · exact p.elim
theorem spM_len {K : PySem.W.Frag} {T : GA} {C : Cf} {ps : List Str} {b : Sms} {nl : Nat} {f : Fn} {bo : Fn → FD} (hb : bo f = ⟨ps.length, nl, b⟩) : ∀ vs H Q E, spM K T (runF bo C f) vs H Q E → vs.length = ps.length := fun vs H Q E ⟨ρ, ds, S, rs, rv, p⟩ => by
  unfold runF at p
  split at p
  · rename_i hl
    rw [hb] at hl
    rw [← rv.len]
    exact hl
  · exact p.elim
end Mi
end

section
set_option linter.all false
set_option maxRecDepth 100000
set_option Elab.async false
/-! a list comprehension whose block may raise -/
namespace Mi
open PySem PySem.Spec L2
open PyProof.Rows hiding St

/-- as the layer's reading; the runs of tests and elements stand in a block whose wish is W at the def's slots -/
theorem lcx_core {X : Cx} {W : WX} {pins : List (Addr × Obj)} {s : Shared} {σ : St} {H : Hp} {Q : VK} {elt tg iter : Expr} {ifs : List Expr} {scope : Scope} {own : List (Str × Nat)} {pos pos' : Pos} {wi : TI} {g : TG} {tt : WX → TT} {te : WX → TE} {use : Option (Value → Sem Unit)} {Qf : Value → Shared → Prop}
    (tk : TakesF X W) (fr : FrOk X) (hc : X.calm = true) (hN : X.N.Nodup) (I : Inv X pins σ H s) (hi : PI X tg iter wi) (ok : BlkOk X.N X.env.scope scope own)
    (hg : ∀ (s : Shared) (H : Hp) (C : Addr) (cl : List (Str × Addr)) (fp : List Addr), PG (blkX X s H scope (compEnvC scope cl C X.env) fp) tg g)
    (ht : ∀ (W' : WX) (s : Shared) (H : Hp) (C : Addr) (cl : List (Str × Addr)) (fp : List Addr), TakesF (blkX X s H scope (compEnvC scope cl C X.env) fp) W' → PTs (blkX X s H scope (compEnvC scope cl C X.env) fp) ifs (tt W'))
    (he : ∀ (W' : WX) (s : Shared) (H : Hp) (C : Addr) (cl : List (Str × Addr)) (fp : List Addr), TakesF (blkX X s H scope (compEnvC scope cl C X.env) fp) W' → PE (blkX X s H scope (compEnvC scope cl C X.env) fp) elt (te W')) (hs : ∀ x, foldedSetIterable iter X.env x = pure x)
    (h : tLc wi g (tt fun c d _ H => W c d σ H) (te fun c d _ H => W c d σ H) (own.map (·.2)) σ H Q)
    (hRR : ∀ D ce s' m H', Inv X pins σ H' s' → Q (.ref D) H' → s'.heap.Ns ce.locals m → FpOk X pins H' ce.locals → compEnds (model X.prog X.w) X.A X.xe use Qf (.ref D) ce (.ok .next) s') :
    wpAny (model X.prog X.w) X.A (comprehension (.ListComp elt [⟨tg, iter, ifs, 0⟩] scope pos) scope X.env pos' (newList []) false (eval iter X.env) use) Qf X.xe s := by
  have hfree : ∀ y ∈ scope.names, y.2 = .free → ∃ c, X.env.cells.lookup y.1 = some c := fun y hy e => by
    rcases ok.free y hy e with k | k
    · exact I.ok.has _ (.inl k)
    · exact I.ok.has _ (.inr k)
  refine comprehension_at (use := use) rfl hs (closure_ok hfree) ok.kind (fun y hy e => by rw [ok.uniq y hy, e])
    (thn (hi.run pins s σ H _ I h) fun xv s1 hx => thn hx fun itv s2 h2 => ?_)
  obtain ⟨it, fp, tn, J, H2, e, I2, T, st2, f2, q⟩ := h2
  subst e
  refine wpAny_newObj_type (newEnv_comp ?_) (by show 0 ≤ sizeLine; decide)
  generalize hD : s2.heap.objs.size = D
  have hDn : H2 D = none := I2.hok.fresh (Nat.le_of_eq hD)
  obtain ⟨Wk, ⟨m0, w0⟩, turn⟩ := q D hDn
  generalize hs3 : ({ s2 with heap := s2.heap.push { cls := .type "list", data := .seq ([] : List Value).toArray } } : Shared) = s3
  have I3 : Inv X pins σ (upd H2 D (.lst [])) s3 := by
    rw [← hs3]
    refine I2.laid (t' := s2.toks) (fun b o e => Heap.get?_push_of_some _ e) (Nat.le_of_eq hD) ⟨Nat.zero_le _, [], 0, .nil, ?_⟩
    rw [← hD]
    exact Heap.get?_push_size _ rfl
  have h3 : s3.heap = s2.heap.push { cls := .type "list", data := .seq ([] : List Value).toArray } := by rw [← hs3]
  have sz : ∀ b ∈ fp, b < s2.heap.objs.size := fun b hb => by
    obtain ⟨o, e, _⟩ := T.obj _ _ st2 b hb
    exact Heap.lt_size e
  have f3 : ∀ b ∈ fp, FpOk X pins (upd H2 D (.lst [])) b ∧ b < s3.heap.objs.size := fun b hb => by
    have hlt := sz b hb
    refine ⟨⟨?_, (f2 b hb).2⟩, by rw [h3, Heap.size_push]; exact Nat.lt_succ_of_lt hlt⟩
    rw [upd_ne (by rw [← hD]; exact Nat.ne_of_lt hlt)]
    exact (f2 b hb).1
  have st3 : tn 0 s3.heap := T.keep _ _ _ st2 fun b _ o e => by rw [h3]; exact Heap.get?_push_of_some _ e
  have I4 := block_start I3 ok hN f3
  show codeAny _ _ (.compStart (.ListComp elt [⟨tg, iter, ifs, 0⟩] scope pos) 0 (.ref it) (.ref D) (compEnvC scope (cellsFrom (s3.heap.objs.size + 1) scope.names (cloFrom X.env.cells scope.names [])) s3.heap.objs.size X.env)) (compEnds (model X.prog X.w) X.A X.xe use Qf (.ref D) (compEnvC scope (cellsFrom (s3.heap.objs.size + 1) scope.names (cloFrom X.env.cells scope.names [])) s3.heap.objs.size X.env)) { s3 with heap := pushCells (s3.heap.push { cls := .type "dict", data := .dict #[] }) scope.names }
  have tkB := goB_takes (scope := scope) (ce := compEnvC scope (cellsFrom (s3.heap.objs.size + 1) scope.names (cloFrom X.env.cells scope.names [])) s3.heap.objs.size X.env) (fp := fp) tk fr I3 rfl (Nat.le_refl _) fun b hb => (f3 b hb).1
  have pg := hg s3 (upd H2 D (.lst [])) s3.heap.objs.size (cellsFrom (s3.heap.objs.size + 1) scope.names (cloFrom X.env.cells scope.names [])) fp
  have pt := ht _ s3 (upd H2 D (.lst [])) s3.heap.objs.size (cellsFrom (s3.heap.objs.size + 1) scope.names (cloFrom X.env.cells scope.names [])) fp tkB
  have pe := he _ s3 (upd H2 D (.lst [])) s3.heap.objs.size (cellsFrom (s3.heap.objs.size + 1) scope.names (cloFrom X.env.cells scope.names [])) fp tkB
  have nfp : ∀ b ∈ fp, (upd H2 D (.lst [])) b = none := fun b hb => (f3 b hb).1.1
  generalize hce : compEnvC scope (cellsFrom (s3.heap.objs.size + 1) scope.names (cloFrom X.env.cells scope.names [])) s3.heap.objs.size X.env = ce at I4 pg pt pe ⊢
  have cL : ce.locals = s3.heap.objs.size := by subst hce; rfl
  generalize hH3 : upd H2 D (.lst []) = H3 at I3 I4 pg pt pe w0 nfp f3
  have I4 := I4.wish (goB X ce)
  generalize hs4 : ({ s3 with heap := pushCells (s3.heap.push { cls := .type "dict", data := .dict #[] }) scope.names } : Shared) = s4 at I4 ⊢
  have st4 : tn 0 s4.heap := T.keep _ _ _ st3 fun b _ o e => by rw [← hs4]; exact pushCells_keeps _ _ _ _ (Heap.get?_push_of_some _ e)
  have stat : ∀ {σ' : St} {H' : Hp} {s' : Shared}, Inv (blkX X s3 H3 scope ce fp) [] σ' H' s' → (∀ b ∈ fp, H' b = none) → ∀ b ∈ fp, FpOk (blkX X s3 H3 scope ce fp) [] H' b := fun {σ' H' s'} I' hn b hb =>
    ⟨hn b hb, (I'.ok.exf b hb).1, I'.ok.exfs b hb, .inl hb, fun x c e => (I'.ok.exf b hb).2 x c e, fun p hp => absurd (show p ∈ ([] : List (Addr × Obj)) ++ [] from hp) (by simp)⟩
  have loop : codeAny (model X.prog X.w) X.A (.compLoop (.ListComp elt [⟨tg, iter, ifs, 0⟩] scope pos) 0 (.ref it) (.ref D) ce) (compEnds (model X.prog X.w) X.A X.xe use Qf (.ref D) ce) s4 := by
    have nb : (notedBy (model X.prog X.w) X.A ce fun e s' => compEnds (model X.prog X.w) X.A X.xe use Qf (.ref D) ce (.error e) s') = goB X ce := by
      cases use <;> rfl
    refine compLoop_any (fun n s' => ∃ i H', Inv (blkX X s3 H3 scope ce fp) [] (wipe σ (own.map (·.2))) H' s' ∧ tn i s'.heap ∧ (∀ b ∈ fp, H' b = none) ∧ Wk i n H') ?_ m0 ⟨0, H3, I4, st4, nfp, w0⟩
    rintro n s5 ⟨i, H5, I5, st5, n5, w5⟩
    rw [nb]
    rcases turn i n H5 w5 with ⟨stop, qq⟩ | ⟨go, Nx, hNx, step⟩
    · have td := T.done (blkX X s3 H3 scope ce fp) rfl rfl rfl hc i [] s5 _ H5 (goB X ce) I5 (stat I5 n5) st5 stop
      refine thn td fun r s6 ⟨hr, I6⟩ => ?_
      subst hr
      have I7 : Inv X pins σ H5 s6 := I3.call' (ch := fp) I6.os I6.base I6.hok I6.bare fun b hb => ⟨(f3 b hb).1.2.2.2.1, (f3 b hb).1.2.1, (f3 b hb).1.2.2.2.2.1, (f3 b hb).1.2.2.2.2.2⟩
      have nC : H5 ce.locals = none := I6.free
      obtain ⟨m, hn, _⟩ := I6.loc
      have hn : s6.heap.Ns ce.locals m := hn
      exact hRR D ce s6 m H5 I7 qq hn (I3.fpOk (by rw [cL]; exact Nat.le_refl _) nC)
    · have ti := T.item (blkX X s3 H3 scope ce fp) rfl rfl rfl hc i [] s5 _ H5 (goB X ce) I5 (stat I5 n5) st5 go
      refine thn ti fun r s6 ⟨u, hr, h6⟩ => ?_
      subst hr
      refine thn h6 fun _ s7 ⟨x, H7, I7, r7, y7, st7, n7⟩ => ?_
      have I7' := I7.pinned (stat I7 n7) (T.obj _ _ st7)
      refine thn (pg.run _ s7 _ H7 x u _ I7' r7 (step x H7 y7)) fun _ s8 ⟨σ8, H8, I8, hw8, q8⟩ => ?_
      refine thn (pt.run _ s8 σ8 H8 _ I8 q8) fun b s9 ⟨H9, I9, q9⟩ => ?_
      have fin : ∀ {s' : Shared} {H' : Hp}, Inv (blkX X s3 H3 scope ce fp) ([] ++ pinsAt fp s7.heap) σ8 H' s' → Nx H' → ∃ m, m < n ∧ ∃ i H', Inv (blkX X s3 H3 scope ce fp) [] (wipe σ (own.map (·.2))) H' s' ∧ tn i s'.heap ∧ (∀ b ∈ fp, H' b = none) ∧ Wk i m H' := fun {s' H'} I' nx => by
        obtain ⟨m', hm, w'⟩ := hNx H' nx
        have pin' : ∀ b ∈ fp, ∀ o, s7.heap.get? b = some o → s'.heap.get? b = some o ∧ H' b = none := fun b hb o e =>
          let z := I'.pin (b, o) (List.mem_append_right _ (List.mem_append_right _ (mem_pinsAt hb e)))
          ⟨z.1, z.2.1⟩
        have hl : (wipe σ (own.map (·.2))).length = σ8.length := by rw [← hw8, wipe_length]
        refine ⟨m', hm, i + 1, H', (I'.unpinned (pins := [])).weak hl (fun j v e => ?_), T.keep _ _ _ st7 fun b hb o e => (pin' b hb o e).1, fun b hb => ?_, w'⟩
        · rw [← hw8] at e
          exact (wipe_some e).1
        · obtain ⟨o, e, _⟩ := T.obj _ _ st7 b hb
          exact (pin' b hb o e).2
      cases b with
      | false =>
        simp only [Bool.false_eq_true, if_false] at q9 ⊢
        exact fin I9 q9
      | true =>
        simp only [if_true] at q9 ⊢
        refine thn (pe.run _ s9 σ8 H9 _ I9 q9) fun z s10 ⟨yv, H10, I10, r10, acc, hD10, hz10, nx⟩ => ?_
        exact app_ok (X := blkX X s3 H3 scope ce fp) I10 hD10 hz10 r10 fun s11 I11 => fin I11 nx
  exact codeAny_compStart_list loop (T.self X.A 0 _ _ _ st4 loop)
section
variable {X : Cx} {W : WX} {elt tg iter : Expr} {ifs : List Expr} {scope : Scope} {own : List (Str × Nat)} {pos spos : Pos} {wi : TI} {g : TG} {tt : WX → TT} {te : WX → TE}
/-- the reading: the wish within is W at the slots where it stands -/
def tLcX (W : WX) (wi : TI) (g : TG) (tt : WX → TT) (te : WX → TE) (vs : List Nat) : TE := fun σ H Q => tLc wi g (tt fun c d _ H => W c d σ H) (te fun c d _ H => W c d σ H) vs σ H Q
theorem pe_lcX (tk : TakesF X W) (fr : FrOk X) (hc : X.calm = true) (hN : X.N.Nodup) (hi : PI X tg iter wi) (ok : BlkOk X.N X.env.scope scope own)
    (hg : ∀ (s : Shared) (H : Hp) (C : Addr) (cl : List (Str × Addr)) (fp : List Addr), PG (blkX X s H scope (compEnvC scope cl C X.env) fp) tg g)
    (ht : ∀ (W' : WX) (s : Shared) (H : Hp) (C : Addr) (cl : List (Str × Addr)) (fp : List Addr), TakesF (blkX X s H scope (compEnvC scope cl C X.env) fp) W' → PTs (blkX X s H scope (compEnvC scope cl C X.env) fp) ifs (tt W'))
    (he : ∀ (W' : WX) (s : Shared) (H : Hp) (C : Addr) (cl : List (Str × Addr)) (fp : List Addr), TakesF (blkX X s H scope (compEnvC scope cl C X.env) fp) W' → PE (blkX X s H scope (compEnvC scope cl C X.env) fp) elt (te W')) (hs : ∀ x, foldedSetIterable iter X.env x = pure x) :
    PE X (.ListComp elt [⟨tg, iter, ifs, 0⟩] scope pos) (tLcX W wi g tt te (own.map (·.2))) := by
  refine ⟨fun pins s σ H Q I h => ?_⟩
  rw [eval_ListComp]
  refine lcx_core tk fr hc hN I hi ok hg ht he hs h fun D ce s' m H' I' q hn f => ⟨m, hn, fun h'' sb => ?_⟩
  obtain ⟨f0, f1, f2, f3, f4, f5⟩ := f
  exact ⟨.ref D, H', I'.turned (t' := s'.toks) (fun b o hb e => (sb.2 b hb).trans e) f0 f1 f3 f4 f5, rfl, q⟩
theorem ps_setLcX {i : Nat} {y : Str} {py : Pos} (tk : TakesF X W) (fr : FrOk X) (hc : X.calm = true) (hN : X.N.Nodup) (hy : X.N[i]? = some y) (hyl : X.env.scope.names.lookup y = some .local)
    (hsw : swapsWith (.ListComp elt [⟨tg, iter, ifs, 0⟩] scope pos) (some (.Name y py)) spos.line X.env = pure true) (hi : PI X tg iter wi) (ok : BlkOk X.N X.env.scope scope own)
    (hg : ∀ (s : Shared) (H : Hp) (C : Addr) (cl : List (Str × Addr)) (fp : List Addr), PG (blkX X s H scope (compEnvC scope cl C X.env) fp) tg g)
    (ht : ∀ (W' : WX) (s : Shared) (H : Hp) (C : Addr) (cl : List (Str × Addr)) (fp : List Addr), TakesF (blkX X s H scope (compEnvC scope cl C X.env) fp) W' → PTs (blkX X s H scope (compEnvC scope cl C X.env) fp) ifs (tt W'))
    (he : ∀ (W' : WX) (s : Shared) (H : Hp) (C : Addr) (cl : List (Str × Addr)) (fp : List Addr), TakesF (blkX X s H scope (compEnvC scope cl C X.env) fp) W' → PE (blkX X s H scope (compEnvC scope cl C X.env) fp) elt (te W')) (hs : ∀ x, foldedSetIterable iter X.env x = pure x) :
    PS X (.Assign [.Name y py] (.ListComp elt [⟨tg, iter, ifs, 0⟩] scope pos) spos) (tAsg (tLcX W wi g tt te (own.map (·.2))) (gName i)) := by
  refine ⟨fun pins s σ H D I h => ?_⟩
  rw [exec_Assign_Name_used _ _ _ _ hsw]
  refine wpAny_bind (wpAny_standAt (wpAny_bind ?_))
  show wpAny _ X.A (do let _ ← comprehension (.ListComp elt [⟨tg, iter, ifs, 0⟩] scope pos) scope X.env (firstIterPos [⟨tg, iter, ifs, 0⟩] pos) (newList []) false (eval iter X.env) (some (assign (.Name y py) X.env))) _ _ s
  have h : tLc wi g (tt fun c d _ H => W c d σ H) (te fun c d _ H => W c d σ H) (own.map (·.2)) σ H (fun x H1 => gName i x σ H1 D.nx) := h
  refine wpAny_bind (thn (lcx_core (Qf := fun _ s' => SP X pins D .next s') tk fr hc hN I hi ok hg ht he hs h fun L ce s' m H' I' q hn f => ?_) fun _ s' hq => wpAny_pure (wpAny_pure hq))
  show wpAny _ _ (assign (.Name y py) X.env (.ref L)) _ _ _
  refine wpAny_assign_Name (store_ok2 (v := V.ref L) I' hN hy (.inl hyl) rfl (fun s2 I2 ⟨a, sb, ha⟩ => ?_) (.inr hyl))
  obtain ⟨f0, f1, f2, f3, f4, f5⟩ := f
  have haC : ce.locals ≠ a := by
    rcases ha with z | z
    · rw [z]; exact f1
    · exact fun e => f4 y a z e.symm
  refine ⟨m, hn.sameBut sb haC, fun h3 sb3 => ?_⟩
  exact ⟨_, H', I2.turned (t' := s2.toks) (fun b o hb e => (sb3.2 b hb).trans e) f0 f1 f3 f4 f5, q⟩
end
end Mi
end

section
set_option linter.all false
set_option maxRecDepth 100000
set_option Elab.async false
/-! comprehensions against the interpreter -/
namespace Mi
open PySem PySem.Spec L2
open PyProof.Rows hiding St

section
variable {K : PySem.W.Frag} {T : GA} {ρ ρ1 ρ' : List Addr} {H H1 H' : Hp} {S : Sto} {Dn : Addr} {xs ys : List V}
theorem SqT_touch (hD : H Dn = some (.lst xs)) {b : Addr} {vs : List V} (q : SqT K H b vs) : SqT K (upd H Dn (.lst ys)) b vs := by
  rcases q with (q | ⟨o, q⟩) | q
  · exact .inl (.inl (by rw [upd_ne fun c => by subst c; rw [hD] at q; cases q]; exact q))
  · exact .inl (.inr ⟨o, by rw [upd_ne fun c => by subst c; rw [hD] at q; cases q]; exact q⟩)
  · exact .inr q
theorem RV.touch (hD : H Dn = some (.lst xs)) {d : D} {v : V} (r : RV K ρ H d v) : RV K ρ (upd H Dn (.lst ys)) d v := r.mono (fun _ _ e => e) fun _ _ q => SqT_touch hD q
theorem RS.touch (hD : H Dn = some (.lst xs)) (nD : Dn ∉ ρ) (rs : RS K T ρ H S) : RS K T ρ (upd H Dn (.lst ys)) S where
  len := rs.len
  nd := rs.nd
  at_ := fun l o a e q => by
    have r := rs.at_ l o a e q
    have ha : a ≠ Dn := fun c => nD (by rw [← c]; exact List.mem_of_getElem? q)
    have e' : upd H Dn (.lst ys) a = H a := upd_ne ha
    cases o with
    | lst ds => obtain ⟨us, w, r⟩ := r; exact ⟨us, e'.trans w, pr_imp r fun _ _ z => z.touch hD⟩
    | frl ds => obtain ⟨ob, us, w, r⟩ := r; exact ⟨ob, us, e'.trans w, pr_imp r fun _ _ z => z.touch hD⟩
    | dct ds => obtain ⟨us, w, r⟩ := r; exact ⟨us, e'.trans w, pr_imp r fun _ _ z => ⟨z.1, z.2.touch hD⟩⟩
    | frd ds => obtain ⟨ob, us, w, r⟩ := r; exact ⟨ob, us, e'.trans w, pr_imp r fun _ _ z => ⟨z.1, z.2.touch hD⟩⟩
    | ins c fs => obtain ⟨dx, gs, w, r⟩ := r; exact ⟨dx, gs, e'.trans w, pr_imp r fun _ _ z => ⟨z.1, z.2.touch hD⟩⟩
theorem Gu.touch (h1 : H1 Dn = none) (hD : H Dn = some (.lst xs)) (g : Gu K ρ1 ρ H1 H) : Gu K ρ1 ρ H1 (upd H Dn (.lst ys)) where
  pre := g.pre
  tup := fun b vs q => SqT_touch hD (g.tup b vs q)
  keep := fun b o e n => by rw [upd_ne (ne_of_none e h1)]; exact g.keep b o e n
  new := g.new
  frz := fun b o u e => by rw [upd_ne (ne_of_none e h1)]; exact g.frz b o u e
end
/-- while a comprehension runs: its new list stands aside -/
structure CI (Z : Cz) (ρ1 : List Addr) (H1 : Hp) (Dn : Addr) (ρ : List Addr) (H : Hp) (S : Sto) (acc : List D) : Prop where
  rs : RS Z.K Z.T ρ H S
  g : Gu Z.K ρ1 ρ H1 H
  nD : Dn ∉ ρ
  ra : ∃ accV, H Dn = some (.lst accV) ∧ Paired (RV Z.K ρ H) acc accV
/-- what is left of a comprehension's run -/
def Pend (Z : Cz) (ρ1 : List Addr) (H1 : Hp) (σ : St) (Q : VK) (r : Res (List D)) : Prop := Post Z.K Z.T Z.W (rV Z.K) ρ1 σ H1 (r.bind fun acc S2 => new S2 (.lst acc)) Q
section
variable {Z : Cz} {ρ1 ρ : List Addr} {H1 H : Hp} {Dn : Addr} {S : Sto} {acc : List D} {σ : St} {Q : VK}
theorem CI.end_ (c : CI Z ρ1 H1 Dn ρ H S acc) (h1 : H1 Dn = none) (p : Pend Z ρ1 H1 σ Q (.ok acc S)) : Q (.ref Dn) H := by
  obtain ⟨accV, hD, ra⟩ := c.ra
  have e : upd H Dn (.lst accV) = H := by
    funext b
    by_cases hb : b = Dn
    · subst hb; rw [upd_same, hD]
    · rw [upd_ne hb]
  have pre : ∀ (l : Nat) (a : Addr), ρ[l]? = some a → (ρ ++ [Dn])[l]? = some a := fun l a e => by rw [List.getElem?_append_left (List.getElem?_eq_some_iff.mp e).1]; exact e
  have ad := c.rs.adopt (u := .lst accV) (o := .lst acc) hD (fun _ z => nomatch z) (fun _ _ z => nomatch z) c.nD ⟨accV, upd_same, by rw [e]; exact pr_imp ra fun _ _ z => z.mono pre fun _ _ q => q⟩
  rw [e] at ad
  have p : ∀ ρ' H' b, Gu Z.K ρ1 ρ' H1 H' → RS Z.K Z.T ρ' H' (S ++ [.lst acc]) → RV Z.K ρ' H' (.ref S.length) b → Q b H' := p
  refine p (ρ ++ [Dn]) H (.ref Dn) ⟨fun l a e => pre l a (c.g.pre l a e), c.g.tup, c.g.keep, fun b hb => ?_, c.g.frz⟩ ad ⟨Dn, fresh_at c.rs, rfl⟩
  rcases List.mem_append.mp hb with hb | hb
  · exact c.g.new b hb
  · simp at hb; subst hb; exact .inr h1
/-- one turn of the block -/
def TurnC (Z : Cz) (ρ1 : List Addr) (H1 : Hp) (Dn : Addr) (σ : St) (Q : VK) (step : D → Sto → Res (Option D)) (step1 : V → Hp → (Hp → Prop) → Prop) : Prop :=
  ∀ (x : V) (d : D) (H : Hp) (ρ : List Addr) (S : Sto) (acc : List D) (k : List D → Sto → Res (List D)) (Nx : Hp → Prop), CI Z ρ1 H1 Dn ρ H S acc → RV Z.K ρ H d x →
    Pend Z ρ1 H1 σ Q ((step d S).bind fun y S1 => match accd acc y with
      | some acc' => k acc' S1
      | none => .bad) → (∀ ρ' H' S' acc', Gu Z.K ρ ρ' H H' ∨ (∃ H2 u, Gu Z.K ρ ρ' H H2 ∧ H' = upd H2 Dn (.lst u)) → CI Z ρ1 H1 Dn ρ' H' S' acc' → Pend Z ρ1 H1 σ Q (k acc' S') → Nx H') → step1 x H Nx
/-- the comprehension's conditions -/
def WkC (J : L2.It) (step1 : V → Hp → (Hp → Prop) → Prop) (Qd : Hp → Prop) (H : Hp) : Prop := ∃ W : Nat → Nat → Hp → Prop, (∃ m, W 0 m H) ∧ ∀ i m H, W i m H →
  (J.stop i H ∧ Qd H) ∨ (J.go i H ∧ ∃ Nx : Hp → Prop, (∀ H', Nx H' → ∃ m', m' < m ∧ W (i + 1) m' H') ∧ ∀ x H', J.yld i H x H' → step1 x H' Nx)
variable {step : D → Sto → Res (Option D)} {step1 : V → Hp → (Hp → Prop) → Prop} {l : Nat} {ad : Addr}
theorem kc_live (T1 : TurnC Z ρ1 H1 Dn σ Q step step1) (h1 : H1 Dn = none) (hl : ρ1[l]? = some ad) (c : CI Z ρ1 H1 Dn ρ H S acc) (p : Pend Z ρ1 H1 σ Q (compL step l FU 0 acc S)) : WkC (Itl Z.K ad) step1 (fun H => Q (.ref Dn) H) H := by
  refine ⟨fun i m H => ∃ ρ S acc, CI Z ρ1 H1 Dn ρ H S acc ∧ Pend Z ρ1 H1 σ Q (compL step l m i acc S), ⟨FU, ρ, S, acc, c, p⟩, ?_⟩
  rintro i m H ⟨ρ, S, acc, c, p⟩
  cases m with
  | zero => exact p.elim
  | succ m =>
    simp only [compL] at p
    cases hs : S.seq l with
    | none => rw [hs] at p; exact p.elim
    | some ds =>
      rw [hs] at p
      obtain ⟨a, xs, e, q, r⟩ := c.rs.seqL hs
      rw [c.g.pre _ _ hl] at e; cases e
      dsimp only at p
      cases hd : ds[i]? with
      | none =>
        rw [hd] at p
        exact .inl ⟨⟨xs, .inl q, by rw [← pr_len r]; exact List.getElem?_eq_none_iff.mp hd⟩, c.end_ h1 p⟩
      | some d =>
        rw [hd] at p
        obtain ⟨x, hx, rx⟩ := pr_get r hd
        refine .inr ⟨⟨xs, x, .inl q, hx⟩, fun H => ∃ ρ S acc, CI Z ρ1 H1 Dn ρ H S acc ∧ Pend Z ρ1 H1 σ Q (compL step l m (i + 1) acc S), fun H' h => ⟨m, Nat.lt_succ_self _, h⟩, fun x' H' y => ?_⟩
        obtain ⟨e, y⟩ := y
        subst e
        have := y xs (.inl q)
        rw [hx] at this; cases this
        exact T1 x d H' ρ S acc (fun acc' S1 => compL step l m (i + 1) acc' S1) _ c rx p fun ρ' H' S' acc' _ c' p' => ⟨ρ', S', acc', c', p'⟩
theorem kc_rev (T1 : TurnC Z ρ1 H1 Dn σ Q step step1) (h1 : H1 Dn = none) {n : Nat} (hl : ρ1[l]? = some ad) (c : CI Z ρ1 H1 Dn ρ H S acc) (p : Pend Z ρ1 H1 σ Q (compR step l n acc S)) : WkC (Itv Z.K ad n) step1 (fun H => Q (.ref Dn) H) H := by
  refine ⟨fun i m H => i + m = n ∧ ∃ ρ S acc, CI Z ρ1 H1 Dn ρ H S acc ∧ Pend Z ρ1 H1 σ Q (compR step l m acc S), ⟨n, Nat.zero_add n, ρ, S, acc, c, p⟩, ?_⟩
  rintro i m H ⟨hi, ρ, S, acc, c, p⟩
  cases m with
  | zero => exact .inl ⟨show n ≤ i by omega, c.end_ h1 p⟩
  | succ m =>
    simp only [compR] at p
    cases hs : S.seq l with
    | none => rw [hs] at p; exact p.elim
    | some ds =>
      rw [hs] at p
      obtain ⟨a, xs, e, q, r⟩ := c.rs.seqL hs
      rw [c.g.pre _ _ hl] at e; cases e
      dsimp only at p
      cases hd : ds[m]? with
      | none => rw [hd] at p; exact p.elim
      | some d =>
        rw [hd] at p
        obtain ⟨x, hx, rx⟩ := pr_get r hd
        have em : n - 1 - i = m := by omega
        refine .inr ⟨⟨by omega, xs, x, .inl q, by rw [em]; exact hx⟩, fun H => ∃ ρ S acc, CI Z ρ1 H1 Dn ρ H S acc ∧ Pend Z ρ1 H1 σ Q (compR step l m acc S), fun H' h => ⟨m, Nat.lt_succ_self _, by omega, h⟩, fun x' H' y => ?_⟩
        obtain ⟨e, y⟩ := y
        subst e
        have := y xs (.inl q)
        rw [em, hx] at this; cases this
        exact T1 x d H' ρ S acc (fun acc' S1 => compR step l m acc' S1) _ c rx p fun ρ' H' S' acc' _ c' p' => ⟨ρ', S', acc', c', p'⟩
/-- a tuple that stands stays -/
theorem CI.tup {ρ' : List Addr} {H' : Hp} {vs : List V} (c : CI Z ρ1 H1 Dn ρ' H' S acc) (h : SqT Z.K H1 ad vs) : SqT Z.K H' ad vs := c.g.tup _ _ h
theorem kc_tup (T1 : TurnC Z ρ1 H1 Dn σ Q step step1) (h1 : H1 Dn = none) {ds : List D} {xs : List V} (hq : SqT Z.K H1 ad xs) (hr : Paired (RV Z.K ρ1 H1) ds xs) (c : CI Z ρ1 H1 Dn ρ H S acc) (p : Pend Z ρ1 H1 σ Q (compX step ds acc S)) : WkC (Itt Z.K ad) step1 (fun H => Q (.ref Dn) H) H := by
  refine ⟨fun i m H => i + m = ds.length ∧ ∃ ρ S acc, CI Z ρ1 H1 Dn ρ H S acc ∧ Pend Z ρ1 H1 σ Q (compX step (ds.drop i) acc S), ⟨ds.length, Nat.zero_add _, ρ, S, acc, c, p⟩, ?_⟩
  rintro i m H ⟨hi, ρ, S, acc, c, p⟩
  cases m with
  | zero =>
    have : ds.drop i = [] := List.drop_eq_nil_of_le (by omega)
    rw [this] at p
    exact .inl ⟨⟨xs, c.tup hq, by rw [← pr_len hr]; omega⟩, c.end_ h1 p⟩
  | succ m =>
    have hlt : i < ds.length := by omega
    rw [List.drop_eq_getElem_cons hlt] at p
    obtain ⟨x, hx, rx⟩ := pr_get hr (List.getElem?_eq_getElem hlt)
    refine .inr ⟨⟨xs, x, c.tup hq, hx⟩, fun H => ∃ ρ S acc, CI Z ρ1 H1 Dn ρ H S acc ∧ Pend Z ρ1 H1 σ Q (compX step (ds.drop (i + 1)) acc S), fun H' h => ⟨m, Nat.lt_succ_self _, by omega, h⟩, fun x' H' y => ?_⟩
    obtain ⟨e, y⟩ := y
    subst e
    have := y xs (c.tup hq)
    rw [hx] at this; cases this
    exact T1 x _ H' ρ S acc (fun acc' S1 => compX step (ds.drop (i + 1)) acc' S1) _ c (rx.up c.g) p fun ρ' H' S' acc' _ c' p' => ⟨ρ', S', acc', c', p'⟩
theorem kc_own (T1 : TurnC Z ρ1 H1 Dn σ Q step step1) (h1 : H1 Dn = none) {ds : List D} {J : L2.It} {vs : List V} (hv : ∀ ρ H, Paired (RV Z.K ρ H) ds vs) (hgo : ∀ i H, i < ds.length → J.go i H) (hst : ∀ H, J.stop ds.length H)
    (hy : ∀ i H x H', i < ds.length → J.yld i H x H' → H' = H ∧ vs[i]? = some x) (c : CI Z ρ1 H1 Dn ρ H S acc) (p : Pend Z ρ1 H1 σ Q (compX step ds acc S)) : WkC J step1 (fun H => Q (.ref Dn) H) H := by
  refine ⟨fun i m H => i + m = ds.length ∧ ∃ ρ S acc, CI Z ρ1 H1 Dn ρ H S acc ∧ Pend Z ρ1 H1 σ Q (compX step (ds.drop i) acc S), ⟨ds.length, Nat.zero_add _, ρ, S, acc, c, p⟩, ?_⟩
  rintro i m H ⟨hi, ρ, S, acc, c, p⟩
  cases m with
  | zero =>
    have : ds.drop i = [] := List.drop_eq_nil_of_le (by omega)
    rw [this] at p
    exact .inl ⟨by rw [show i = ds.length by omega]; exact hst H, c.end_ h1 p⟩
  | succ m =>
    have hlt : i < ds.length := by omega
    rw [List.drop_eq_getElem_cons hlt] at p
    obtain ⟨x, hx, rx⟩ := pr_get (hv ρ H) (List.getElem?_eq_getElem hlt)
    refine .inr ⟨hgo i H hlt, fun H => ∃ ρ S acc, CI Z ρ1 H1 Dn ρ H S acc ∧ Pend Z ρ1 H1 σ Q (compX step (ds.drop (i + 1)) acc S), fun H' h => ⟨m, Nat.lt_succ_self _, by omega, h⟩, fun x' H' y => ?_⟩
    obtain ⟨e, y'⟩ := hy i H x' H' hlt y
    subst e
    rw [hx] at y'; cases y'
    exact T1 x _ H' ρ S acc (fun acc' S1 => compX step (ds.drop (i + 1)) acc' S1) _ c rx p fun ρ' H' S' acc' _ c' p' => ⟨ρ', S', acc', c', p'⟩
theorem kc_all (T1 : TurnC Z ρ1 H1 Dn σ Q step step1) (h1 : H1 Dn = none) {j : Mi.It} {J : L2.It} (hJ : rJ Z.K ρ1 H1 j J) (c : CI Z ρ1 H1 Dn ρ H S []) (p : Pend Z ρ1 H1 σ Q (compI step j S)) : WkC J step1 (fun H => Q (.ref Dn) H) H := by
  cases j with
  | live l => obtain ⟨a, e, rfl⟩ := hJ; exact kc_live T1 h1 e c p
  | rev l n => obtain ⟨a, e, rfl⟩ := hJ; exact kc_rev T1 h1 e c p
  | enm l => exact p.elim
  | dic l kvs => exact hJ.elim
  | items ds =>
    rcases hJ with ⟨a, xs, q, r, rfl⟩ | ⟨t, rfl, rfl⟩ | ⟨lo, n, rfl, rfl⟩
    · exact kc_tup T1 h1 q r c p
    · refine kc_own T1 h1 (ds := t.map fun c => .str [c]) (vs := t.map fun c => .str (sx [c])) (fun ρ H => pr_of_map (F := RV Z.K ρ H) (f := fun c : Nat => D.str [c]) (g := fun c : Nat => V.str (sx [c])) (fun c => rfl) t) (fun i H hi => ?_) (fun H => ?_) (fun i H x H' _ y => ?_) c p
      · show i < t.toArray.size
        simpa using hi
      · show t.toArray.size ≤ _
        simp
      · obtain ⟨e, c, hc, hx⟩ := y
        refine ⟨e, ?_⟩
        have hc : t.toArray[i]? = some c := hc
        have hc : t[i]? = some c := by simpa using hc
        rw [List.getElem?_map, hc, hx]
        rfl
    · refine kc_own T1 h1 (ds := (List.range n).map fun k : Nat => .int (lo + k)) (vs := (List.range n).map fun k : Nat => .int (lo + k)) (fun ρ H => pr_of_map (F := RV Z.K ρ H) (f := fun k : Nat => D.int (lo + k)) (g := fun k : Nat => V.int (lo + k)) (fun c => rfl) _) (fun i H hi => ?_) (fun H => ?_) (fun i H x H' hi y => ?_) c p
      · show i < n
        simpa using hi
      · show n ≤ _
        simp
      · obtain ⟨e, hx⟩ := y
        have hi : i < n := by simpa using hi
        exact ⟨e, by rw [hx, List.getElem?_map, List.getElem?_range hi]; rfl⟩
end
/-! ### the turn -/
section
variable {X : Cx} {Z : Cz} {C : Cf} {ρ1 : List Addr} {H1 : Hp} {Dn : Addr} {σ : St} {Q : VK} {i : Nat} {ε : Mi.Env} {x c : Ex}
/-- the wish in the block -/
abbrev Cz.at_ (Z : Cz) (W : WX) : Cz := ⟨Z.K, Z.T, W, Z.u⟩
theorem RE.blk {K : PySem.W.Frag} {T : GA} {ρ : List Addr} {H : Hp} {d : D} {v : V} (h : RE K T none ρ H ε σ) (r : RV K ρ H d v) : RE K T none ρ H (ε.put i d) ((wipe σ [i]).set i (some v)) := by
  have e : (wipe σ [i]).set i (some v) = σ.set i (some v) := by
    show ((σ).set i none).set i (some v) = _
    rw [List.set_set]
  rw [e]
  exact h.put r fun z e => by cases e
theorem wipe_put {v : V} : wipe ((wipe σ [i]).set i (some v)) [i] = wipe σ [i] := by
  show (((σ).set i none).set i (some v)).set i none = (σ).set i none
  rw [List.set_set, List.set_set]
/-- the element, from a state of the turn -/
theorem elt_run {ρ : List Addr} {H : Hp} {S : Sto} {acc : List D} {d : D} {v : V} {k : List D → Sto → Res (List D)} {Nx : Hp → Prop} (h1 : H1 Dn = none) (hu : Z.u = none) (re : RE Z.K Z.T none ρ H ε σ) (rv : RV Z.K ρ H d v) (ci : CI Z ρ1 H1 Dn ρ H S acc)
    (p : Pend Z ρ1 H1 σ Q (((ev C x (ε.put i d) S).bind fun y S3 => .ok (some y) S3).bind fun y S1 => match accd acc y with
      | some acc' => k acc' S1
      | none => .bad)) (hN : ∀ ρ' H' S' acc', Gu Z.K ρ ρ' H H' ∨ (∃ H2 u, Gu Z.K ρ ρ' H H2 ∧ H' = upd H2 Dn (.lst u)) → CI Z ρ1 H1 Dn ρ' H' S' acc' → Pend Z ρ1 H1 σ Q (k acc' S') → Nx H') :
    L (Z.at_ fun c d _ H => Z.W c d σ H) (ev C x) ((wipe σ [i]).set i (some v)) H fun y H4 => ∃ acc, H4 Dn = some (.lst acc) ∧ acc.length < sizeLine ∧ Nx (upd H4 Dn (.lst (acc ++ [y]))) := by
  refine ⟨ρ, ε.put i d, S, by rw [hu]; exact re.blk rv, ci.rs, ?_⟩
  cases hr : ev C x (ε.put i d) S with
  | bad => rw [hr] at p; exact p.elim
  | ex z S3 =>
    rw [hr] at p
    exact fun ρ' H' cls dd g => p ρ' H' cls dd (ci.g.trans g)
  | ok y S3 =>
    rw [hr] at p
    simp only [Res.bind_ok] at p
    intro ρ' H' w g rs rw_
    obtain ⟨accV, hD, ra⟩ := ci.ra
    have hD' : H' Dn = some (.lst accV) := g.keep _ _ hD ci.nD
    have nD' : Dn ∉ ρ' := fun m => by
      rcases g.new _ m with m | m
      · exact ci.nD m
      · rw [hD] at m; cases m
    unfold accd at p
    dsimp only at p
    split at p
    · rename_i acc' ha
      split at ha
      · rename_i hl
        cases ha
        refine ⟨accV, hD', by rw [← pr_len ra]; exact hl, hN ρ' _ S3 (acc ++ [y]) (.inr ⟨H', accV ++ [w], g, rfl⟩) ⟨rs.touch hD' nD', Gu.touch h1 hD' (ci.g.trans g), nD', accV ++ [w], upd_same, ?_⟩ p⟩
        exact pr_app (pr_imp (RVp.up g ra) fun _ _ z => z.touch hD') (.cons (rw_.touch hD') .nil)
      · cases ha
    · exact p.elim
theorem turn_lc0 (h1 : H1 Dn = none) (hu : Z.u = none) (re : RE Z.K Z.T none ρ1 H1 ε σ) : TurnC Z ρ1 H1 Dn σ Q (fun d S' => (evs C .nil (ε.put i d) S').bind fun ks S2 => match ks with
      | [] => (ev C x (ε.put i d) S2).bind fun y S3 => .ok (some y) S3
      | [.bl true] => (ev C x (ε.put i d) S2).bind fun y S3 => .ok (some y) S3
      | [.bl false] => .ok none S2
      | _ => .bad) (fun v H Nx => gName i v (wipe σ [i]) H fun σ2 H2 => wipe σ2 [i] = wipe σ [i] ∧ tYes σ2 H2 fun b H3 =>
        if b = true then L (Z.at_ fun c d _ H => Z.W c d σ H) (ev C x) σ2 H3 fun y H4 => ∃ acc, H4 Dn = some (.lst acc) ∧ acc.length < sizeLine ∧ Nx (upd H4 Dn (.lst (acc ++ [y]))) else Nx H3) := fun v d H ρ S acc k Nx ci rv p hN => by
  refine ⟨wipe_put, ?_⟩
  unfold tYes
  dsimp only
  rw [if_pos rfl]
  exact elt_run h1 hu (re.up ci.g) rv ci p hN
theorem turn_lc1 (h1 : H1 Dn = none) (hu : Z.u = none) (re : RE Z.K Z.T none ρ1 H1 ε σ) : TurnC Z ρ1 H1 Dn σ Q (fun d S' => (evs C (.cons c .nil) (ε.put i d) S').bind fun ks S2 => match ks with
      | [] => (ev C x (ε.put i d) S2).bind fun y S3 => .ok (some y) S3
      | [.bl true] => (ev C x (ε.put i d) S2).bind fun y S3 => .ok (some y) S3
      | [.bl false] => .ok none S2
      | _ => .bad) (fun v H Nx => gName i v (wipe σ [i]) H fun σ2 H2 => wipe σ2 [i] = wipe σ [i] ∧ LT (Z.at_ fun c d _ H => Z.W c d σ H) (ev C c) σ2 H2 fun b H3 =>
        if b = true then L (Z.at_ fun c d _ H => Z.W c d σ H) (ev C x) σ2 H3 fun y H4 => ∃ acc, H4 Dn = some (.lst acc) ∧ acc.length < sizeLine ∧ Nx (upd H4 Dn (.lst (acc ++ [y]))) else Nx H3) := fun v d H ρ S acc k Nx ci rv p hN => by
  refine ⟨wipe_put, ρ, ε.put i d, S, by rw [hu]; exact (re.up ci.g).blk rv, ci.rs, ?_⟩
  have p : Pend Z ρ1 H1 σ Q (((evs C (.cons c .nil) (ε.put i d) S).bind fun ks S2 => (match ks with
      | [] => (ev C x (ε.put i d) S2).bind fun y S3 => .ok (some y) S3
      | [.bl true] => (ev C x (ε.put i d) S2).bind fun y S3 => .ok (some y) S3
      | [.bl false] => .ok none S2
      | _ => .bad : Res (Option D))).bind fun y S1 => match accd acc y with
      | some acc' => k acc' S1
      | none => .bad) := p
  simp only [evs, Res.bind_assoc, Res.bind_ok] at p
  cases hr : ev C c (ε.put i d) S with
  | bad => rw [hr] at p; exact p.elim
  | ex z S3 =>
    rw [hr] at p
    exact fun ρ' H' cls dd g => p ρ' H' cls dd (ci.g.trans g)
  | ok y S3 =>
    rw [hr] at p
    simp only [Res.bind_ok] at p
    intro ρ' H' w g rs rw_
    obtain ⟨accV, hD, ra⟩ := ci.ra
    have nD' : Dn ∉ ρ' := fun m => by
      rcases g.new _ m with m | m
      · exact ci.nD m
      · rw [hD] at m; cases m
    have ci' : CI Z ρ1 H1 Dn ρ' H' S3 acc := ⟨rs, ci.g.trans g, nD', accV, g.keep _ _ hD ci.nD, RVp.up g ra⟩
    cases y with
    | bl b =>
      refine ⟨b, rw_, ?_⟩
      cases b with
      | true =>
        rw [if_pos rfl]
        refine elt_run (d := d) (k := k) h1 hu ((re.up ci.g).up g) (rv.up g) ci' ?_ fun ρ2 H2 S2 acc2 hg => hN ρ2 H2 S2 acc2 ?_
        · simpa only [Res.bind_assoc, Res.bind_ok] using p
        · rcases hg with hg | ⟨H5, u, hg, e⟩
          · exact .inl (g.trans hg)
          · exact .inr ⟨H5, u, g.trans hg, e⟩
      | false =>
        rw [if_neg (by decide)]
        exact hN ρ' H' S3 acc (.inl g) ci' p
    | _ => exact p.elim
/-! ### the rules -/
variable {elt tg iter : Expr} {scope : Scope} {n : Str} {pos spos np : Pos} {sr : Src}
/-- the reading of the whole -/
theorem lc_read {cond : Exs} {tt : WX → TT} (hu : Z.u = none)
    (T1 : ∀ (ρ1 : List Addr) (H1 : Hp) (Dn : Addr) (ε : Mi.Env) (σ : St) (Q : VK), H1 Dn = none → RE Z.K Z.T none ρ1 H1 ε σ → TurnC Z ρ1 H1 Dn σ Q (fun d S' => (evs C cond (ε.put i d) S').bind fun ks S2 => match ks with
      | [] => (ev C x (ε.put i d) S2).bind fun y S3 => .ok (some y) S3
      | [.bl true] => (ev C x (ε.put i d) S2).bind fun y S3 => .ok (some y) S3
      | [.bl false] => .ok none S2
      | _ => .bad) (fun v H Nx => gName i v (wipe σ [i]) H fun σ2 H2 => wipe σ2 [i] = wipe σ [i] ∧ tt (fun c d _ H => Z.W c d σ H) σ2 H2 fun b H3 =>
        if b = true then L (Z.at_ fun c d _ H => Z.W c d σ H) (ev C x) σ2 H3 fun y H4 => ∃ acc, H4 Dn = some (.lst acc) ∧ acc.length < sizeLine ∧ Nx (upd H4 Dn (.lst (acc ++ [y]))) else Nx H3))
    {σ : St} {H : Hp} {Q : VK} (h : L Z (ev C (.lc i sr cond x)) σ H Q) : tLcX Z.W (LI Z (evI C sr)) (gName i) tt (fun W' => L (Z.at_ W') (ev C x)) [i] σ H Q := by
  obtain ⟨ρ, ε, S, re, rs, p⟩ := h
  rw [hu] at re
  refine ⟨ρ, ε, S, by rw [hu]; exact re, rs, Post.bind (R := rJ Z.K) (R' := rV Z.K) (f := fun (J : Mi.It) (S1 : Sto) => (compI (fun d S' => (evs C cond (ε.put i d) S').bind fun ks S2 => match ks with
      | [] => (ev C x (ε.put i d) S2).bind fun y S3 => .ok (some y) S3
      | [.bl true] => (ev C x (ε.put i d) S2).bind fun y S3 => .ok (some y) S3
      | [.bl false] => .ok none S2
      | _ => .bad) J S1).bind fun acc S2 => new S2 (.lst acc)) p fun ρ1 H1 j J S1 g1 rs1 hJ p1 Dn hD => ?_⟩
  have hn : Dn ∉ ρ1 := fun m => by
    obtain ⟨w, hw, _⟩ := rs1.mem m
    rw [hD] at hw; cases hw
  exact kc_all (T1 ρ1 H1 Dn ε σ Q hD (re.up g1)) hD hJ ⟨rs1.aside hD, Gu.aside hD, hn, [], upd_same, .nil⟩ p1
section
variable (hz : Z.K = X.K) (hu : Z.u = none) (tk : TakesF X Z.W) (fr : FrOk X) (hc : X.calm = true) (hN : X.N.Nodup) (hi : PI X (.Name n np) iter (LI Z (evI C sr))) (ok : BlkOk X.N X.env.scope scope [(n, i)])
    (hloc : scope.names.lookup n = some .local ∨ scope.names.lookup n = some .cell)
    (he : ∀ (W' : WX) (s : Shared) (H : Hp) (A : Addr) (cl : List (Str × Addr)) (fp : List Addr), TakesF (blkX X s H scope (compEnvC scope cl A X.env) fp) W' → PE (blkX X s H scope (compEnvC scope cl A X.env) fp) elt (L (Z.at_ W') (ev C x)))
include hu tk fr hc hN hi ok hloc he
theorem blk_tg (s : Shared) (H : Hp) (A : Addr) (cl : List (Str × Addr)) (fp : List Addr) : PG (blkX X s H scope (compEnvC scope cl A X.env) fp) (.Name n np) (gName i) := by
  have hl : (relS scope X.env.scope).names.lookup n = scope.names.lookup n := by
    rcases hloc with h | h
    · rw [h]; exact lookup_relS_keep (by decide) h
    · rw [h]; exact lookup_relS_keep (by decide) h
  refine pg_name hN (ok.ix (n, i) List.mem_cons_self) ?_ ?_
  · rcases hloc with h | h
    · exact .inl (hl.trans h)
    · exact .inr (hl.trans h)
  · rcases hloc with h | h
    · exact .inr (hl.trans h)
    · left
      show (scope.names.lookup n == some NameKind.cell) = true
      rw [h]; rfl
theorem e_lc0 (hs : ∀ x, foldedSetIterable iter X.env x = pure x := by intro _; rfl) : PE X (.ListComp elt [⟨.Name n np, iter, [], 0⟩] scope pos) (L Z (ev C (.lc i sr .nil x))) :=
  PE_imp (pe_lcX (tt := fun _ => tYes) (te := fun W' => L (Z.at_ W') (ev C x)) tk fr hc hN hi ok (blk_tg hu tk fr hc hN hi ok hloc he) (fun _ _ _ _ _ _ _ => pts_nil) he hs) fun σ H Q h => lc_read hu (fun ρ1 H1 Dn ε σ Q hD re => turn_lc0 hD hu re) h
theorem e_lc1 {cnd : Expr} (ht : ∀ (W' : WX) (s : Shared) (H : Hp) (A : Addr) (cl : List (Str × Addr)) (fp : List Addr), TakesF (blkX X s H scope (compEnvC scope cl A X.env) fp) W' → PT (blkX X s H scope (compEnvC scope cl A X.env) fp) cnd (LT (Z.at_ W') (ev C c)))
    (hs : ∀ x, foldedSetIterable iter X.env x = pure x := by intro _; rfl) : PE X (.ListComp elt [⟨.Name n np, iter, [cnd], 0⟩] scope pos) (L Z (ev C (.lc i sr (.cons c .nil) x))) :=
  PE_imp (pe_lcX (tt := fun W' => LT (Z.at_ W') (ev C c)) (te := fun W' => L (Z.at_ W') (ev C x)) tk fr hc hN hi ok (blk_tg hu tk fr hc hN hi ok hloc he) (fun W' s H A cl fp t => pts_one (ht W' s H A cl fp t)) he hs) fun σ H Q h => lc_read hu (fun ρ1 H1 Dn ε σ Q hD re => turn_lc1 hD hu re) h
theorem s_setLc0 {j : Nat} {y : Str} {py : Pos} (hy : X.N[j]? = some y) (hyl : X.env.scope.names.lookup y = some .local) (hsw : swapsWith (.ListComp elt [⟨.Name n np, iter, [], 0⟩] scope pos) (some (.Name y py)) spos.line X.env = pure true)
    (hs : ∀ x, foldedSetIterable iter X.env x = pure x := by intro _; rfl) : PS X (.Assign [.Name y py] (.ListComp elt [⟨.Name n np, iter, [], 0⟩] scope pos) spos) (LS Z (ex C (.set j (.lc i sr .nil x)))) :=
  PS_imp (ps_setLcX (tt := fun _ => tYes) (te := fun W' => L (Z.at_ W') (ev C x)) tk fr hc hN hy hyl hsw hi ok (blk_tg hu tk fr hc hN hi ok hloc he) (fun _ _ _ _ _ _ _ => pts_nil) he hs) fun E σ H ⟨ρ, ε, S, re, rs, p⟩ =>
    lc_read hu (fun ρ1 H1 Dn ε σ Q hD re => turn_lc0 hD hu re) ⟨ρ, ε, S, re, rs, PostS.toS (R := rV Z.K) (f := fun d S1 => .nx (ε.put j d) S1) re p fun ρ1 H1 d v S1 g rs1 rv re1 p1 => p1 ρ1 H1 _ .refl rs1 (re1.put rv (by intro z h; rw [hu] at h; cases h))⟩
theorem s_setLc1 {j : Nat} {y : Str} {py : Pos} {cnd : Expr} (hy : X.N[j]? = some y) (hyl : X.env.scope.names.lookup y = some .local) (hsw : swapsWith (.ListComp elt [⟨.Name n np, iter, [cnd], 0⟩] scope pos) (some (.Name y py)) spos.line X.env = pure true)
    (ht : ∀ (W' : WX) (s : Shared) (H : Hp) (A : Addr) (cl : List (Str × Addr)) (fp : List Addr), TakesF (blkX X s H scope (compEnvC scope cl A X.env) fp) W' → PT (blkX X s H scope (compEnvC scope cl A X.env) fp) cnd (LT (Z.at_ W') (ev C c)))
    (hs : ∀ x, foldedSetIterable iter X.env x = pure x := by intro _; rfl) : PS X (.Assign [.Name y py] (.ListComp elt [⟨.Name n np, iter, [cnd], 0⟩] scope pos) spos) (LS Z (ex C (.set j (.lc i sr (.cons c .nil) x)))) :=
  PS_imp (ps_setLcX (tt := fun W' => LT (Z.at_ W') (ev C c)) (te := fun W' => L (Z.at_ W') (ev C x)) tk fr hc hN hy hyl hsw hi ok (blk_tg hu tk fr hc hN hi ok hloc he) (fun W' s H A cl fp t => pts_one (ht W' s H A cl fp t)) he hs) fun E σ H ⟨ρ, ε, S, re, rs, p⟩ =>
    lc_read hu (fun ρ1 H1 Dn ε σ Q hD re => turn_lc1 hD hu re) ⟨ρ, ε, S, re, rs, PostS.toS (R := rV Z.K) (f := fun d S1 => .nx (ε.put j d) S1) re p fun ρ1 H1 d v S1 g rs1 rv re1 p1 => p1 ρ1 H1 _ .refl rs1 (re1.put rv (by intro z h; rw [hu] at h; cases h))⟩
end
end
end Mi
end

section
set_option linter.all false
set_option maxRecDepth 100000
set_option Elab.async false
/-! raise, try, what an except suite asks of its exception; walks over dicts -/
namespace Mi
open PySem PySem.Spec L2
open PyProof.Rows hiding St

theorem bootVE : bootBuiltins "ValueError" = some (.type "ValueError") := by decide +kernel
/-- what the text says of an error class without own __init__ -/
structure RxOk (X : Cx) (T : GA) (c : Ec) (n : Str) : Prop where
  mg : X.mg n = some (.ref (T.ea c))
  exc : ∃ bmB newId B initId, ExcBaseFacts B newId initId bmB ∧ PySem.W.excIn X.K (T.ea c) bmB newId = true
  kp : PySem.W.keepIn X.K (.ref (T.ea c)) = true
  r : Raises X (.ref (T.ea c))
section
variable {X : Cx} {Z : Cz} {C : Cf} {n m : Str} {p p2 pos pos' np : Pos} {j i : Nat} {c : Ec} {bs sts : List Stmt} {b₀ : Stmt} {xs ys : Sms} {e : Expr} {x : Ex}
theorem s_rse (hc : X.calm = true) (tk : Takes X Z.W) (R : RxOk X Z.T c n) (hg : Gl X n) (hdb : (n == ("__debug__" : Str)) = false := by decide +kernel) : PS X (.Raise (some (.Call (.Name n p) [.Constant (.str m) j p2] [] pos)) none pos') (LS Z (ex C (.rse false c))) := by
  obtain ⟨bmB, newId, B, initId, F, q⟩ := R.exc
  refine PS_imp (ps_raise hc tk (pmk_own F q R.mg R.kp R.r hg hdb)) fun E σ H ⟨ρ, ε, S, re, rs, p⟩ => ?_
  have p : PostS Z ρ H (.ex ⟨c, none⟩ ε S) E := p
  exact p ρ H σ _ none .refl rs re ⟨rfl, rfl⟩ fun d e => by cases e
/-- a raise within an except suite is not run by this reading -/
theorem s_cold {st : Stmt} (hh : C.hot = false) : PS X st (LS Z (ex C (.rse true c))) := PS_imp ps_never fun E σ H ⟨ρ, ε, S, re, rs, p⟩ => by
  simp only [ex, hh] at p
  exact p
theorem s_coldN {st : Stmt} (hh : C.hot = false) : PS X st (LS Z (ex C (.rseN true x))) := PS_imp ps_never fun E σ H ⟨ρ, ε, S, re, rs, p⟩ => by
  simp only [ex, hh] at p
  exact p
/-! ### try -/
/-- a suite's constants -/
abbrev Cz.su (Z : Cz) (sl : Option Nat) (a : Addr) (cls : Value) (d : Option Addr) : Cz := ⟨Z.K, Z.T, fun _ _ _ _ => False, some ⟨sl, a, cls, d⟩⟩
theorem try_only (hz : Z.K = X.K) (hu : Z.u = none) (hh : C.hot = false) (hs : X.stack = X.env :: X.outer) (hf : X.env.frame = some X.env.locals) (hc : Names X n (.ref (Z.T.ea c))) (hx : ∀ c', PySem.W.exmOne X.K (.ref (Z.T.ea c')) (.ref (Z.T.ea c)) = some (c'.sub c)) (tk : Takes X Z.W)
    (hb : ∀ (W : WX) (pn : List (Addr × Obj)) (xe : Value → Shared → Prop), Takes (X.tr pn xe) W → PassesOwn (model X.prog X.w) X.A X.env xe → PSs (X.tr pn xe) bs (LS (Z.at_ W) (exs C xs)))
    (hsu : ∀ (a : Addr) (oe : Obj) (cls : Value) (d : Option Addr) (pn : List (Addr × Obj)), Zc cls d oe → (∃ vs, oe.data = .fields vs) → PSs (X.suite a ((a, oe) :: pn)) (b₀ :: sts) (LS (Z.su none a cls d) (exs C ys))) :
    PS X (.Try bs [.ExceptHandler (some (.Name n np)) none (b₀ :: sts) pos'] [] [] pos) (LS Z (ex C (.try_ xs c none ys))) :=
  PS_imp (ps_try_only (tb := fun W => LS (Z.at_ W) (exs C xs)) (ts := fun a cls d => LS (Z.su none a cls d) (exs C ys)) hs hf hc tk hb hsu) fun E σ H ⟨ρ, ε, S, re, rs, p⟩ => by
    refine ⟨ρ, ε, S, re, rs, ?_⟩
    simp only [ex] at p
    cases hr : exs C xs ε S with
    | nx ε' S' => rw [hr] at p; exact p
    | rt d S' => rw [hr] at p; exact p
    | bad => rw [hr] at p; exact p
    | ex z ε' S' =>
      rw [hr] at p
      dsimp only at p
      intro ρ' H' σ' cls dd g rs' re' rx nd
      have ecls : cls = .ref (Z.T.ea z.c) := rx.1
      refine ⟨z.c.sub c, by rw [ecls]; exact hx z.c, fun hb a ha => ?_, fun hb => ?_⟩
      · rw [if_pos hb] at p
        refine ⟨ρ', { ε' with cur := some z }, S', ⟨re'.len, re'.get, ⟨rx, nd, fun i h => by cases h⟩⟩, rs', ?_⟩
        generalize exs C ys { ε' with cur := some z } S' = r at p ⊢
        have hcur : ε.cur = none := by
          have := re.cur
          rw [hu] at this
          exact this
        cases r with
        | nx ε2 S2 =>
          intro ρ2 H2 σ2 g2 rs2 re2
          refine p ρ2 H2 σ2 (g.trans g2) rs2 ⟨re2.len, re2.get, ?_⟩
          show RC Z.T H2 ρ2 σ2 Z.u ε.cur
          rw [hu, hcur]
          rfl
        | rt d S2 => exact fun ρ2 H2 v g2 rs2 rv => p ρ2 H2 v (g.trans g2) rs2 rv
        | ex z2 ε2 S2 =>
          dsimp only at p
          rw [if_neg (by rw [hh]; decide)] at p
          exact p.elim
        | bad => exact p
      · rw [if_neg (by rw [hb]; decide)] at p
        exact p ρ' H' σ' cls dd g rs' re' rx nd
theorem RE_wipe {K : PySem.W.Frag} {T : GA} {ρ : List Addr} {H : Hp} {ε : Mi.Env} {σ : St} {v : Option V} {u u' : Option Cu} {z : Option Exn} (h : RE K T u ρ H ε σ) (hc : RC T H ρ (σ.set i v) u' z) : RE K T u' ρ H { ε.wipe i with cur := z } (σ.set i v) where
  len := by simp only [Env.wipe, List.length_set]; exact h.len
  get := fun j e he => by
    simp only [Env.wipe] at he
    by_cases hj : i = j
    · subst hj
      by_cases hl : i < ε.sl.length
      · rw [List.getElem?_set_self hl] at he; cases he
      · rw [List.getElem?_eq_none (by simpa using hl)] at he; cases he
    · rw [List.getElem?_set_ne hj] at he
      obtain ⟨w, h1, h2⟩ := h.get j e he
      exact ⟨w, by rw [List.getElem?_set_ne hj]; exact h1, h2⟩
  cur := hc
theorem try_as (hz : Z.K = X.K) (hu : Z.u = none) (hh : C.hot = false) (hs : X.stack = X.env :: X.outer) (hf : X.env.frame = some X.env.locals) (hN : X.N.Nodup) (hi : X.N[i]? = some m) (hln : X.env.kindOf m = some .local) (hc : Names X n (.ref (Z.T.ea c)))
    (hx : ∀ c', PySem.W.exmOne X.K (.ref (Z.T.ea c')) (.ref (Z.T.ea c)) = some (c'.sub c)) (tk : Takes X Z.W)
    (hb : ∀ (W : WX) (pn : List (Addr × Obj)) (xe : Value → Shared → Prop), Takes (X.tr pn xe) W → PassesOwn (model X.prog X.w) X.A X.env xe → PSs (X.tr pn xe) bs (LS (Z.at_ W) (exs C xs)))
    (hsu : ∀ (a : Addr) (oe : Obj) (cls : Value) (d : Option Addr) (pn : List (Addr × Obj)), Zc cls d oe → (∃ vs, oe.data = .fields vs) → PSs (X.suite a ((a, oe) :: pn)) (b₀ :: sts) (LS (Z.su (some i) a cls d) (exs C ys))) :
    PS X (.Try bs [.ExceptHandler (some (.Name n np)) (some m) (b₀ :: sts) pos'] [] [] pos) (LS Z (ex C (.try_ xs c (some i) ys))) :=
  PS_imp (ps_try_as (tb := fun W => LS (Z.at_ W) (exs C xs)) (ts := fun a cls d => LS (Z.su (some i) a cls d) (exs C ys)) hs hf hN hi hln hc tk hb hsu) fun E σ H ⟨ρ, ε, S, re, rs, p⟩ => by
    refine ⟨ρ, ε, S, re, rs, ?_⟩
    simp only [ex] at p
    cases hr : exs C xs ε S with
    | nx ε' S' => rw [hr] at p; exact p
    | rt d S' => rw [hr] at p; exact p
    | bad => rw [hr] at p; exact p
    | ex z ε' S' =>
      rw [hr] at p
      dsimp only at p
      intro ρ' H' σ' cls dd g rs' re' rx nd
      have ecls : cls = .ref (Z.T.ea z.c) := rx.1
      refine ⟨z.c.sub c, by rw [ecls]; exact hx z.c, fun hb a ha => ?_, fun hb => ?_⟩
      · rw [if_pos hb] at p
        split at p
        · rename_i hlt
          have hl : i < σ'.length := by rw [← re'.len]; exact hlt
          refine ⟨ρ', { ε'.wipe i with cur := some z }, S', RE_wipe re' ⟨rx, nd, fun k h => by cases h; rw [List.getElem?_set_self hl]⟩, rs', ?_⟩
          generalize exs C ys { ε'.wipe i with cur := some z } S' = r at p ⊢
          have hcur : ε.cur = none := by
            have := re.cur
            rw [hu] at this
            exact this
          cases r with
          | nx ε2 S2 =>
            intro ρ2 H2 σ2 g2 rs2 re2
            refine p ρ2 H2 (σ2.set i none) (g.trans g2) rs2 (RE_wipe re2 ?_)
            rw [hu, hcur]
            rfl
          | rt d S2 => exact fun ρ2 H2 v g2 rs2 rv => p ρ2 H2 v (g.trans g2) rs2 rv
          | ex z2 ε2 S2 =>
            dsimp only at p
            rw [if_neg (by rw [hh]; decide)] at p
            exact p.elim
          | bad => exact p
        · exact p.elim
      · rw [if_neg (by rw [hb]; decide)] at p
        exact p ρ' H' σ' cls dd g rs' re' rx nd
/-! ### the suite's exception -/
/-- isinstance(e, c), c an own error class or ValueError -/
theorem e_isE {a : Addr} {oe : Obj} {cls : Value} {d : Option Addr} {pn : List (Addr × Obj)} {sl : Nat} {f : Str} {p3 p4 p5 : Pos} (hcold : C.hot = false) (hz : Zc cls d oe) (hf : ∃ vs, oe.data = .fields vs) (hN : X.N[sl]? = some m) (hv : Vis X.env.scope m)
    (hg : Gl X "isinstance") (hm : X.mg "isinstance" = none) (hg2 : Gl X f) (hm2 : X.mg f = some (.ref (Z.T.ea c))) (hk : ∀ c', c' ≠ .note → ExcC X.K (Z.T.ea c') ∧ PySem.W.kitOne X.K (.ref (Z.T.ea c')) (.ref (Z.T.ea c)) = some (c'.sub c))
    (hd1 : (m == ("__debug__" : Str)) = false := by decide +kernel) (hd2 : (m == ("__classdict__" : Str)) = false := by decide +kernel) (hd3 : (f == ("__debug__" : Str)) = false := by decide +kernel)
    (he : starEach [.Name m p3, .Name f p4] X.env = (false, eval (.Name m p3) X.env) :: starEach [.Name f p4] X.env := by rfl) (he2 : starEach [.Name f p4] X.env = (false, eval (.Name f p4) X.env) :: starEach [] X.env := by rfl) (hpl : (backTo pos (starEach [.Name f p4] X.env)).any (·.1) = false := by rfl) :
    PE (X.suite a ((a, oe) :: pn)) (.Call (.Name "isinstance" p) [.Name m p3, .Name f p4] [] pos) (L (Z.su (some sl) a cls d) (ev C (.isE c))) := by
  refine ⟨fun pins s σ H Q I h => ?_⟩
  obtain ⟨ρ, ε, S, re, rs, pp⟩ := h
  simp only [ev] at pp
  cases hc : ε.cur with
  | none => rw [hc] at pp; exact pp.elim
  | some z =>
    rw [hc] at pp
    have cu := re.cur
    rw [hc] at cu
    obtain ⟨rx, nd, hs⟩ := cu
    have hs := hs sl rfl
    obtain ⟨k, row⟩ := z
    cases row with
    | some r =>
      dsimp only at pp
      rw [if_neg (by rw [hcold]; decide)] at pp
      exact pp.elim
    | none =>
      dsimp only at pp
      split at pp
      · exact pp.elim
      · rename_i hn
        have q : Q (.bl (k.sub c)) H := Post.ok pp rs rfl
        obtain ⟨r1, r2⟩ := rx
        have r1 : cls = .ref (Z.T.ea k) := r1
        have r2 : d = none := r2
        subst r1 r2
        obtain ⟨k1, k2⟩ := hk k hn
        exact (pe_callB (call_isE k1 hz hf) hg hm boot_isinstance (pa_cons (pe_var (X := X.suite a ((a, oe) :: pn)) hN hv hd1 hd2) (pa_cons (pe_glob (v := .ref (Z.T.ea c)) hg2 hm2 rfl hd3) pa_nil he2) he) (by decide +kernel) (by decide +kernel) he hpl).run pins s σ H Q I
          ⟨_, hs, .ref (Z.T.ea c), .ref (Z.T.ea c), _, rfl, (fun u r => r), k2, q⟩
theorem e_isVE {a : Addr} {oe : Obj} {cls : Value} {d : Option Addr} {pn : List (Addr × Obj)} {sl : Nat} {p3 p4 : Pos} (hcold : C.hot = false) (hz : Zc cls d oe) (hf : ∃ vs, oe.data = .fields vs) (hN : X.N[sl]? = some m) (hv : Vis X.env.scope m)
    (hg : Gl X "isinstance") (hm : X.mg "isinstance" = none) (hg2 : Gl X "ValueError") (hm2 : X.mg "ValueError" = none) (hk : ∀ c', c' ≠ .note → ExcC X.K (Z.T.ea c') ∧ PySem.W.kitOne X.K (.ref (Z.T.ea c')) (.type "ValueError") = some true)
    (hd1 : (m == ("__debug__" : Str)) = false := by decide +kernel) (hd2 : (m == ("__classdict__" : Str)) = false := by decide +kernel)
    (he : starEach [.Name m p3, .Name "ValueError" p4] X.env = (false, eval (.Name m p3) X.env) :: starEach [.Name "ValueError" p4] X.env := by rfl) (he2 : starEach [.Name "ValueError" p4] X.env = (false, eval (.Name "ValueError" p4) X.env) :: starEach [] X.env := by rfl) (hpl : (backTo pos (starEach [.Name "ValueError" p4] X.env)).any (·.1) = false := by rfl) :
    PE (X.suite a ((a, oe) :: pn)) (.Call (.Name "isinstance" p) [.Name m p3, .Name "ValueError" p4] [] pos) (L (Z.su (some sl) a cls d) (ev C .isVE)) := by
  refine ⟨fun pins s σ H Q I h => ?_⟩
  obtain ⟨ρ, ε, S, re, rs, pp⟩ := h
  simp only [ev] at pp
  cases hc : ε.cur with
  | none => rw [hc] at pp; exact pp.elim
  | some z =>
    rw [hc] at pp
    have cu := re.cur
    rw [hc] at cu
    obtain ⟨rx, nd, hs⟩ := cu
    have hs := hs sl rfl
    obtain ⟨k, row⟩ := z
    cases row with
    | some r =>
      dsimp only at pp
      rw [if_neg (by rw [hcold]; decide)] at pp
      exact pp.elim
    | none =>
      dsimp only at pp
      split at pp
      · exact pp.elim
      · rename_i hn
        have q : Q (.bl true) H := Post.ok pp rs rfl
        obtain ⟨r1, r2⟩ := rx
        have r1 : cls = .ref (Z.T.ea k) := r1
        have r2 : d = none := r2
        subst r1 r2
        obtain ⟨k1, k2⟩ := hk k hn
        exact (pe_callB (call_isE k1 hz hf) hg hm boot_isinstance (pa_cons (pe_var (X := X.suite a ((a, oe) :: pn)) hN hv hd1 hd2) (pa_cons (pe_bltn (X := X.suite a ((a, oe) :: pn)) (v := .ty "ValueError") hg2 hm2 bootVE rfl (by decide +kernel) (by decide +kernel)) pa_nil he2) he) (by decide +kernel) (by decide +kernel) he hpl).run pins s σ H Q I
          ⟨_, hs, .ty "ValueError", .type "ValueError", _, rfl, (fun u r => r), k2, q⟩
/-! ### walks over a dict -/
theorem pe_unl {t : TE} (h : PE X e t) : PE X e (fun σ H Q => t σ H fun v H' => ∃ d od u, H' d = some (.frz od u) ∧ (∀ o' u', X.H_0 d ≠ some (.frz o' u')) ∧ Q v (upd H' d u)) := by
  refine ⟨fun pins s σ H Q I q => thn (h.run pins s σ H _ I q) fun u s' ⟨v, H', I', r, d, od, w, e1, e2, q⟩ => ⟨v, _, I'.unlock e1 e2, r, q⟩⟩
theorem ps_unl {st : Stmt} {t : TS} (h : PS X st t) : PS X st (fun E σ H => t { nx := fun σ' H' => ∃ d od u, H' d = some (.frz od u) ∧ (∀ o' u', X.H_0 d ≠ some (.frz o' u')) ∧ E.nx σ' (upd H' d u), rt := fun _ _ => False } σ H) := by
  refine ⟨fun pins s σ H E I q => thn (h.run pins s σ H _ I q) fun f s' z => ?_⟩
  cases f with
  | next => obtain ⟨σ', H', I', d, od, w, e1, e2, q⟩ := z; exact ⟨σ', _, I'.unlock e1 e2, q⟩
  | brk => obtain ⟨_, _, _, z⟩ := z; exact z.elim
  | cont => obtain ⟨_, _, _, z⟩ := z; exact z.elim
  | ret u => obtain ⟨_, _, _, _, _, z⟩ := z; exact z.elim
/-- locked and unlocked again -/
theorem Gu.unlock {K : PySem.W.Frag} {ρ ρ' : List Addr} {H H' : Hp} {d : Addr} {o : Obj} {u w : HO} (h0 : H d = some w) (n1 : ∀ xs, w ≠ .tup xs) (nf : notFrz w = true) (hd : d ∈ ρ) (g : Gu K ρ ρ' (upd H d (.frz o u)) H') (h1 : H' d = some (.frz o u)) (nt : ∀ xs, u ≠ .tup xs) : Gu K ρ ρ' H (upd H' d u) where
  pre := g.pre
  tup := fun b xs q => by
    have hb : ∀ z, H b = some z → z ≠ w → b ≠ d := fun z hz n c => by subst c; rw [h0] at hz; exact n (Option.some.inj hz).symm
    have hb' : ∀ z, H' b = some z → z ≠ .frz o u → b ≠ d := fun z hz n c => by subst c; rw [h1] at hz; exact n (Option.some.inj hz).symm
    have q' : SqT K (upd H d (.frz o u)) b xs := by
      rcases q with (q | ⟨ob, q⟩) | q
      · exact .inl (.inl (by rw [upd_ne (hb _ q fun z => n1 _ z.symm)]; exact q))
      · exact .inl (.inr ⟨ob, by rw [upd_ne (hb _ q fun z => by rw [← z] at nf; cases nf)]; exact q⟩)
      · exact .inr q
    rcases g.tup b xs q' with (q | ⟨ob, q⟩) | q
    · exact .inl (.inl (by rw [upd_ne (hb' _ q fun z => nomatch z)]; exact q))
    · exact .inl (.inr ⟨ob, by rw [upd_ne (hb' _ q fun z => by cases z; exact nt _ rfl)]; exact q⟩)
    · exact .inr q
  keep := fun b ob e n => by
    have hb : b ≠ d := fun c => n (by rw [c]; exact hd)
    rw [upd_ne hb]
    exact g.keep b ob (by rw [upd_ne hb]; exact e) n
  new := fun b hb => by
    rcases g.new b hb with z | z
    · exact .inl z
    · by_cases hc : b = d
      · subst hc; exact .inl hd
      · rw [upd_ne hc] at z; exact .inr z
  frz := fun b ob w' e => by
    have hb : b ≠ d := fun c => by subst c; rw [h0] at e; cases e; cases nf
    rw [upd_ne hb]
    exact g.frz b ob w' (by rw [upd_ne hb]; exact e)
theorem SqT_write {K : PySem.W.Frag} {H : Hp} {a : Addr} {w u : HO} (h : H a = some w) (n1 : ∀ xs, w ≠ .tup xs) (n2 : ∀ o xs, w ≠ .frz o (.tup xs)) {b : Addr} {xs : List V} (q : SqT K H b xs) : SqT K (upd H a u) b xs := by
  rcases q with (q | ⟨ob, q⟩) | q
  · exact .inl (.inl (by rw [upd_ne fun c => by subst c; rw [h] at q; exact n1 _ (Option.some.inj q)]; exact q))
  · exact .inl (.inr ⟨ob, by rw [upd_ne fun c => by subst c; rw [h] at q; exact n2 _ _ (Option.some.inj q)]; exact q⟩)
  · exact .inr q
/-- the store behind an unlocking -/
theorem RS.unl {K : PySem.W.Frag} {T : GA} {ρ : List Addr} {H : Hp} {S : Sto} {a : Addr} {o : Obj} {ks : List (Key × V)} {kvs : List (Ky × D)} {l : Nat} (rs : RS K T ρ H S) (e : ρ[l]? = some a) (h : H a = some (.frz o (.dK ks))) (rk : RK K ρ H kvs ks) : RS K T ρ (upd H a (.dK ks)) (S.set l (.dct kvs)) := by
  have tup : ∀ (b : Addr) (xs : List V), SqT K H b xs → SqT K (upd H a (.dK ks)) b xs := fun b xs q => SqT_write h (fun _ z => nomatch z) (fun _ _ z => nomatch z) q
  refine ⟨by rw [List.length_set]; exact rs.len, rs.nd, fun m ob b q r => ?_⟩
  by_cases hm : m = l
  · subst hm
    rw [e] at r; cases r
    have hl : m < S.length := by rw [← rs.len]; exact (List.getElem?_eq_some_iff.mp e).1
    rw [List.getElem?_set_self hl] at q; cases q
    exact ⟨ks, upd_same, pr_imp rk fun _ _ z => ⟨z.1, z.2.mono (fun _ _ e => e) tup⟩⟩
  · rw [List.getElem?_set_ne (Ne.symm hm)] at q
    have z := rs.at_ m ob b q r
    have e' : upd H a (.dK ks) b = H b := upd_ne fun c => hm (by subst c; exact nodup_at rs.nd r e)
    cases ob with
    | lst ds => obtain ⟨us, w, r⟩ := z; exact ⟨us, e'.trans w, pr_imp r fun _ _ z => z.mono (fun _ _ e => e) tup⟩
    | frl ds => obtain ⟨ob, us, w, r⟩ := z; exact ⟨ob, us, e'.trans w, pr_imp r fun _ _ z => z.mono (fun _ _ e => e) tup⟩
    | dct ds => obtain ⟨us, w, r⟩ := z; exact ⟨us, e'.trans w, pr_imp r fun _ _ z => ⟨z.1, z.2.mono (fun _ _ e => e) tup⟩⟩
    | frd ds => obtain ⟨ob, us, w, r⟩ := z; exact ⟨ob, us, e'.trans w, pr_imp r fun _ _ z => ⟨z.1, z.2.mono (fun _ _ e => e) tup⟩⟩
    | ins c fs => obtain ⟨dx, gs, w, r⟩ := z; exact ⟨dx, gs, e'.trans w, pr_imp r fun _ _ z => ⟨z.1, z.2.mono (fun _ _ e => e) tup⟩⟩
theorem RE.unl {K : PySem.W.Frag} {T : GA} {u : Option Cu} {ρ : List Addr} {H : Hp} {ε : Mi.Env} {σ : St} {a : Addr} {o : Obj} {ks : List (Key × V)} {l : Nat} (re : RE K T u ρ H ε σ) (e : ρ[l]? = some a) (h : H a = some (.frz o (.dK ks))) : RE K T u ρ (upd H a (.dK ks)) ε σ := by
  have tup : ∀ (b : Addr) (xs : List V), SqT K H b xs → SqT K (upd H a (.dK ks)) b xs := fun b xs q => SqT_write h (fun _ z => nomatch z) (fun _ _ z => nomatch z) q
  refine ⟨re.len, fun i d q => (re.get i d q).elim fun v z => ⟨v, z.1, z.2.mono (fun _ _ e => e) tup⟩, ?_⟩
  have c := re.cur
  unfold RC at c ⊢
  cases u with
  | none => exact c
  | some z =>
    cases hc : ε.cur with
    | none => rw [hc] at c; exact c
    | some x =>
      rw [hc] at c
      refine ⟨⟨c.1.1, ?_⟩, c.2.1, c.2.2⟩
      have c1 := c.1.2
      cases hr : x.row with
      | none => rw [hr] at c1; exact c1
      | some r =>
        rw [hr] at c1
        obtain ⟨dx, e2, q⟩ := c1
        refine ⟨dx, e2, ?_⟩
        rw [upd_ne fun z' => by subst z'; exact c.2.1 _ e2 (List.mem_of_getElem? e)]
        exact q
theorem i_dic (he : PE X e (L Z (ev C x))) {tg : Expr} : PI X tg e (fun σ H R => ∃ ρ ε S, RE Z.K Z.T Z.u ρ H ε σ ∧ RS Z.K Z.T ρ H S ∧ Post Z.K Z.T Z.W (fun ρ H j (al : Addr × List (Key × V)) => ∃ l kvs, j = Mi.It.dic l kvs ∧ ρ[l]? = some al.1 ∧ H al.1 = some (.dK al.2) ∧ RK Z.K ρ H kvs al.2) ρ σ H (evI C (.dic x) ε S)
    fun al H1 => ∀ o, (∀ o' u', X.H_0 al.1 ≠ some (.frz o' u')) → R (Itk al.1 o al.2) (upd H1 al.1 (.frz o (.dK al.2)))) :=
  PI_imp (pi_dic he) fun σ H R ⟨ρ, ε, S, re, rs, p⟩ => ⟨ρ, ε, S, re, rs, Post.bind (R := rV Z.K) (f := fun (a : Mi.D) (S1 : Sto) => match toIt (.dic .non) [a] S1 with
    | some J => .ok J S1
    | none => .bad) p fun ρ1 H1 d v S1 g rs1 rv q => by
      cases d with
      | ref l =>
        simp only [toIt] at q
        cases hs : S1.dct l with
        | none => rw [hs] at q; exact q.elim
        | some kvs =>
          rw [hs] at q
          obtain ⟨a, ks, e1, e2, e3, e4⟩ := dct_of rs1 hs rv
          exact ⟨a, ks, e1, e2, q ρ1 H1 (a, ks) .refl rs1 ⟨l, kvs, rfl, e4, e2, e3⟩⟩
      | _ => exact q.elim⟩
/-- the loop's conditions over the locked dict -/
theorem k_dic {g : TG} {tb : TS} {bf : D → Mi.Env → Sto → SR} {E : Ends} {σ : St} {H : Hp} {ρ : List Addr} {ε : Mi.Env} {S : Sto} {d : Addr} {o : Obj} {kvs : List (Ky × D)} {ks : List (Key × V)} (T1 : Turn1 Z bf g tb) (hk : Paired (fun (p : Ky × D) (q : Key × V) => q.1 = kx p.1) kvs ks)
    (hd : H d = some (.frz o (.dK ks))) (re : RE Z.K Z.T Z.u ρ H ε σ) (rs : RS Z.K Z.T ρ H S) (p : PostS Z ρ H (loopX bf (kvs.map fun kv => kv.1.d) ε S) E) : Wk (Itk d o ks) g tb E σ H := by
  have hv : ∀ ρ H, Paired (RV Z.K ρ H) (kvs.map fun kv => kv.1.d) (ks.map fun kv => kV kv.1) := fun ρ H => by
    clear p hd
    induction hk with
    | nil => exact .nil
    | @cons a b _ _ h _ ih => exact .cons (by show RV Z.K ρ H a.1.d (kV b.1); rw [h]; exact kx_V a.1) ih
  have hl : (kvs.map fun kv => kv.1.d).length = ks.length := by rw [List.length_map, pr_len hk]
  generalize kvs.map (fun kv => kv.1.d) = ds at p hv hl
  refine ⟨fun i m σ H => i + m = ds.length ∧ H d = some (.frz o (.dK ks)) ∧ ∃ ρ ε S, RE Z.K Z.T Z.u ρ H ε σ ∧ RS Z.K Z.T ρ H S ∧ PostS Z ρ H (loopX bf (ds.drop i) ε S) E, ⟨ds.length, Nat.zero_add _, hd, ρ, ε, S, re, rs, p⟩, ?_⟩
  rintro i m σ H ⟨hi, hd, ρ, ε, S, re, rs, p⟩
  cases m with
  | zero =>
    have : ds.drop i = [] := List.drop_eq_nil_of_le (by omega)
    rw [this] at p
    exact .inl ⟨⟨hd, by omega⟩, p ρ H σ .refl rs re⟩
  | succ m =>
    have hlt : i < ds.length := by omega
    rw [List.drop_eq_getElem_cons hlt] at p
    obtain ⟨x, hx, rx⟩ := pr_get (hv ρ H) (List.getElem?_eq_getElem hlt)
    refine .inr ⟨⟨hd, by omega⟩, fun σ H => H d = some (.frz o (.dK ks)) ∧ ∃ ρ ε S, RE Z.K Z.T Z.u ρ H ε σ ∧ RS Z.K Z.T ρ H S ∧ PostS Z ρ H (loopX bf (ds.drop (i + 1)) ε S) E, fun σ' H' h => ⟨m, Nat.lt_succ_self _, by omega, h⟩, fun x' H' y => ?_⟩
    obtain ⟨e, k, v, hkv, ex'⟩ := y
    subst e
    have : (ks.map fun kv => kV kv.1)[i]? = some (kV k) := by rw [List.getElem?_map, hkv]; rfl
    rw [hx] at this; cases this
    subst ex'
    exact T1 _ _ σ H' ρ ε S _ re rs rx (PostS.then_ (f := fun ε' S' => loopX bf (ds.drop (i + 1)) ε' S') p rfl fun ρ2 H2 σ2 ε2 S2 g2 rs2 re2 p2 => ⟨g2.frz _ _ _ hd, ρ2, ε2, S2, re2, rs2, p2⟩)
theorem s_forD {g : TG} {t : Tg} {tg : Expr} (hp : PassesOwn (model X.prog X.w) X.A X.env X.xe) (hc : X.calm = true) (he : PE X e (L Z (ev C x))) (hg : PG X tg g) (hb : PSs X bs (LS Z (exs C xs)))
    (T1 : Turn1 Z (fun d ε S => match t.bind d ε with
      | some ε' => exs C xs ε' S
      | none => .bad) g (LS Z (exs C xs))) (hs : ∀ x, foldedSetIterable e X.env x = pure x := by intro _; rfl) : PS X (.For tg e bs [] pos) (LS Z (ex C (.for_ t (.dic x) xs))) :=
  PS_imp (ps_unl (ps_for hp hc (i_dic he) hg hb hs)) fun E σ H ⟨ρ, ε, S, re, rs, p⟩ => ⟨ρ, ε, S, re, rs, PostS.toS (f := fun (J : Mi.It) (S1 : Sto) => loopI (fun d ε S => match t.bind d ε with
      | some ε' => exs C xs ε' S
      | none => .bad) J ε S1) re p fun ρ1 H1 j al S1 g1 rs1 hJ re1 p1 o hn => by
      obtain ⟨l, kvs, e1, e2, e3, e4⟩ := hJ
      subst e1
      obtain ⟨a, ks⟩ := al
      have g2 : Gu Z.K ρ1 ρ1 H1 (upd H1 a (.frz o (.dK ks))) := Gu.write rs1 e2 (nfz e3 rfl)
      have rs2 : RS Z.K Z.T ρ1 (upd H1 a (.frz o (.dK ks))) (S1.set l (.frd kvs)) := rs1.write e2 (nfz e3 rfl) ⟨o, ks, upd_same, RK.up g2 e4⟩
      refine k_dic (o := o) (d := a) (E := _) T1 (pr_imp e4 fun _ _ z => z.1) upd_same (re1.up g2) rs2 ?_
      simp only [loopI] at p1
      generalize loopX _ (kvs.map fun kv => kv.1.d) ε (S1.set l (.frd kvs)) = r at p1 ⊢
      cases r with
      | nx ε' S' =>
        intro ρ' H' σ' g' rs' re'
        have hfz := g'.frz a o _ upd_same
        refine ⟨a, o, _, hfz, hn, ?_⟩
        have hm : a ∈ ρ1 := List.mem_of_getElem? e2
        have g3 : Gu Z.K ρ1 ρ' H1 (upd H' a (.dK ks)) := Gu.unlock e3 (fun _ z => nomatch z) rfl hm g' hfz fun _ z => nomatch z
        have e2' := g'.pre _ _ e2
        have rk' : RK Z.K ρ' H' kvs ks := RK.up g' (RK.up g2 e4)
        exact p1 ρ' _ σ' g3 (rs'.unl e2' hfz rk') (re'.unl e2' hfz)
      | rt d S' => exact p1.elim
      | ex z ε' S' => exact p1.elim
      | bad => exact p1.elim⟩
end
end Mi
end

section
set_option linter.all false
set_option maxRecDepth 100000
set_option Elab.async false
/-! comprehensions over a dict -/
namespace Mi
open PySem PySem.Spec L2
open PyProof.Rows hiding St

section
variable {X : Cx} {Z : Cz} {C : Cf} {ρ1 ρ : List Addr} {H1 H : Hp} {Dn : Addr} {S : Sto} {acc : List D} {σ : St} {Q : VK} {i : Nat} {x y c : Ex}
theorem kc_dic {step : D → Sto → Res (Option D)} {step1 : V → Hp → (Hp → Prop) → Prop} {d : Addr} {o : Obj} {kvs : List (Ky × D)} {ks : List (Key × V)} (T1 : TurnC Z ρ1 H1 Dn σ Q step step1) (h1 : H1 Dn = none) (hk : Paired (fun (p : Ky × D) (q : Key × V) => q.1 = kx p.1) kvs ks)
    (hd : H1 d = some (.frz o (.dK ks))) (ci : CI Z ρ1 H1 Dn ρ H S acc) (p : Pend Z ρ1 H1 σ Q (compX step (kvs.map fun kv => kv.1.d) acc S)) : WkC (Itk d o ks) step1 (fun H => Q (.ref Dn) H) H := by
  have hv : ∀ ρ H, Paired (RV Z.K ρ H) (kvs.map fun kv => kv.1.d) (ks.map fun kv => kV kv.1) := fun ρ H => by
    clear p hd
    induction hk with
    | nil => exact .nil
    | @cons a b _ _ h _ ih => exact .cons (by show RV Z.K ρ H a.1.d (kV b.1); rw [h]; exact kx_V a.1) ih
  have hl : (kvs.map fun kv => kv.1.d).length = ks.length := by rw [List.length_map, pr_len hk]
  generalize kvs.map (fun kv => kv.1.d) = ds at p hv hl
  refine ⟨fun i m H => i + m = ds.length ∧ ∃ ρ S acc, CI Z ρ1 H1 Dn ρ H S acc ∧ Pend Z ρ1 H1 σ Q (compX step (ds.drop i) acc S), ⟨ds.length, Nat.zero_add _, ρ, S, acc, ci, p⟩, ?_⟩
  rintro i m H ⟨hi, ρ, S, acc, c, p⟩
  have hd' : H d = some (.frz o (.dK ks)) := c.g.frz _ _ _ hd
  cases m with
  | zero =>
    have : ds.drop i = [] := List.drop_eq_nil_of_le (by omega)
    rw [this] at p
    exact .inl ⟨⟨hd', by omega⟩, c.end_ h1 p⟩
  | succ m =>
    have hlt : i < ds.length := by omega
    rw [List.drop_eq_getElem_cons hlt] at p
    obtain ⟨x, hx, rx⟩ := pr_get (hv ρ H) (List.getElem?_eq_getElem hlt)
    refine .inr ⟨⟨hd', by omega⟩, fun H => ∃ ρ S acc, CI Z ρ1 H1 Dn ρ H S acc ∧ Pend Z ρ1 H1 σ Q (compX step (ds.drop (i + 1)) acc S), fun H' h => ⟨m, Nat.lt_succ_self _, by omega, h⟩, fun x' H' y => ?_⟩
    obtain ⟨e, k, v, hkv, ex'⟩ := y
    subst e
    have : (ks.map fun kv => kV kv.1)[i]? = some (kV k) := by rw [List.getElem?_map, hkv]; rfl
    rw [hx] at this; cases this
    subst ex'
    exact T1 _ _ H' ρ S acc (fun acc' S1 => compX step (ds.drop (i + 1)) acc' S1) _ c rx p fun ρ' H' S' acc' _ c' p' => ⟨ρ', S', acc', c', p'⟩
abbrev Unl (X : Cx) (Q : VK) : VK := fun v H' => ∃ d od u, H' d = some (.frz od u) ∧ (∀ o' u', X.H_0 d ≠ some (.frz o' u')) ∧ Q v (upd H' d u)
/-- the iterator of a dict: its address, its pairs -/
abbrev rDic (Z : Cz) : Rel Mi.It (Addr × List (Key × V)) := fun ρ H j al => ∃ l kvs, j = Mi.It.dic l kvs ∧ ρ[l]? = some al.1 ∧ H al.1 = some (.dK al.2) ∧ RK Z.K ρ H kvs al.2
abbrev wiDic (X : Cx) (Z : Cz) (C : Cf) (y : Ex) : TI := fun σ H R => ∃ ρ ε S, RE Z.K Z.T Z.u ρ H ε σ ∧ RS Z.K Z.T ρ H S ∧ Post Z.K Z.T Z.W (rDic Z) ρ σ H (evI C (.dic y) ε S) fun al H1 => ∀ o, (∀ o' u', X.H_0 al.1 ≠ some (.frz o' u')) → R (Itk al.1 o al.2) (upd H1 al.1 (.frz o (.dK al.2)))
theorem lcD_read {cond : Exs} {tt : WX → TT} (hu : Z.u = none)
    (T1 : ∀ (ρ1 : List Addr) (H1 : Hp) (Dn : Addr) (ε : Mi.Env) (σ : St) (Q : VK), H1 Dn = none → RE Z.K Z.T none ρ1 H1 ε σ → TurnC Z ρ1 H1 Dn σ Q (fun d S' => (evs C cond (ε.put i d) S').bind fun ks S2 => match ks with
      | [] => (ev C x (ε.put i d) S2).bind fun y S3 => .ok (some y) S3
      | [.bl true] => (ev C x (ε.put i d) S2).bind fun y S3 => .ok (some y) S3
      | [.bl false] => .ok none S2
      | _ => .bad) (fun v H Nx => gName i v (wipe σ [i]) H fun σ2 H2 => wipe σ2 [i] = wipe σ [i] ∧ tt (fun c d _ H => Z.W c d σ H) σ2 H2 fun b H3 =>
        if b = true then L (Z.at_ fun c d _ H => Z.W c d σ H) (ev C x) σ2 H3 fun y H4 => ∃ acc, H4 Dn = some (.lst acc) ∧ acc.length < sizeLine ∧ Nx (upd H4 Dn (.lst (acc ++ [y]))) else Nx H3))
    {σ : St} {H : Hp} {Q : VK} (h : L Z (ev C (.lc i (.dic y) cond x)) σ H Q) : tLcX Z.W (wiDic X Z C y) (gName i) tt (fun W' => L (Z.at_ W') (ev C x)) [i] σ H (Unl X Q) := by
  obtain ⟨ρ, ε, S, re, rs, p⟩ := h
  rw [hu] at re
  refine ⟨ρ, ε, S, by rw [hu]; exact re, rs, Post.bind (R := rDic Z) (R' := rV Z.K) (f := fun (J : Mi.It) (S1 : Sto) => (compI (fun d S' => (evs C cond (ε.put i d) S').bind fun ks S2 => match ks with
      | [] => (ev C x (ε.put i d) S2).bind fun y S3 => .ok (some y) S3
      | [.bl true] => (ev C x (ε.put i d) S2).bind fun y S3 => .ok (some y) S3
      | [.bl false] => .ok none S2
      | _ => .bad) J S1).bind fun acc S2 => new S2 (.lst acc)) p fun ρ1 H1 j al S1 g1 rs1 hJ p1 o hno Dn hD => ?_⟩
  obtain ⟨l, kvs, e1, e2, e3, e4⟩ := hJ
  subst e1
  obtain ⟨a, ks⟩ := al
  dsimp only at e2 e3 e4 hno hD ⊢
  have g2 : Gu Z.K ρ1 ρ1 H1 (upd H1 a (.frz o (.dK ks))) := Gu.write rs1 e2 (nfz e3 rfl)
  have rs2 : RS Z.K Z.T ρ1 (upd H1 a (.frz o (.dK ks))) (S1.set l (.frd kvs)) := rs1.write e2 (nfz e3 rfl) ⟨o, ks, upd_same, RK.up g2 e4⟩
  have hn : Dn ∉ ρ1 := fun m => by
    obtain ⟨w, hw, _⟩ := rs2.mem m
    rw [hD] at hw; cases hw
  have hl : l < S1.length := by rw [← rs1.len]; exact (List.getElem?_eq_some_iff.mp e2).1
  refine kc_dic (σ := σ) (Q := Unl X Q) (T1 ρ1 (upd H1 a (.frz o (.dK ks))) Dn ε σ (Unl X Q) hD ((re.up g1).up g2)) hD (pr_imp e4 fun _ _ z => z.1) upd_same ⟨rs2.aside hD, Gu.aside hD, hn, [], upd_same, .nil⟩ ?_
  simp only [compI] at p1
  unfold Pend
  generalize compX _ (kvs.map fun kv => kv.1.d) [] (S1.set l (.frd kvs)) = r at p1 ⊢
  cases r with
  | ok acc S' =>
    intro ρ' H' b g' rs' rv'
    have p1 : ∀ ρ' H' b, Gu Z.K ρ1 ρ' H1 H' → RS Z.K Z.T ρ' H' (S'.set l (.dct kvs) ++ [.lst acc]) → RV Z.K ρ' H' (.ref (S'.set l (.dct kvs)).length) b → Q b H' := p1
    have hfz := g'.frz a o _ upd_same
    have hm : a ∈ ρ1 := List.mem_of_getElem? e2
    have e2' := g'.pre _ _ e2
    have rk' : RK Z.K ρ' H' kvs ks := RK.up g' (RK.up g2 e4)
    have rs3 := rs'.unl e2' hfz rk'
    have hl' : l < S'.length := by
      have h1 : l < ρ'.length := (List.getElem?_eq_some_iff.mp e2').1
      rw [rs'.len, List.length_append] at h1
      simp only [List.length_cons, List.length_nil] at h1
      by_cases h : l < S'.length
      · exact h
      · have : l = S'.length := by omega
        subst this
        exfalso
        obtain ⟨c, ec, ev'⟩ := rv'
        have q := rs'.at_ S'.length (.lst acc) a (by simp) e2'
        obtain ⟨us, q, _⟩ := q
        rw [hfz] at q; cases q
    rw [List.set_append_left _ _ hl'] at rs3
    refine ⟨a, o, _, hfz, hno, p1 ρ' _ b (Gu.unlock e3 (fun _ z => nomatch z) rfl hm g' hfz fun _ z => nomatch z) rs3 ?_⟩
    rw [List.length_set]
    exact rv'
  | ex z S' => exact p1.elim
  | bad => exact p1.elim
variable {elt tg iter : Expr} {scope : Scope} {n : Str} {pos spos np : Pos}
section
variable (hu : Z.u = none) (tk : TakesF X Z.W) (fr : FrOk X) (hc : X.calm = true) (hN : X.N.Nodup) (hi : PE X iter (L Z (ev C y))) (ok : BlkOk X.N X.env.scope scope [(n, i)])
    (hloc : scope.names.lookup n = some .local ∨ scope.names.lookup n = some .cell)
    (he : ∀ (W' : WX) (s : Shared) (H : Hp) (A : Addr) (cl : List (Str × Addr)) (fp : List Addr), TakesF (blkX X s H scope (compEnvC scope cl A X.env) fp) W' → PE (blkX X s H scope (compEnvC scope cl A X.env) fp) elt (L (Z.at_ W') (ev C x)))
include hN ok hloc in
theorem blk_tgD (s : Shared) (H : Hp) (A : Addr) (cl : List (Str × Addr)) (fp : List Addr) : PG (blkX X s H scope (compEnvC scope cl A X.env) fp) (.Name n np) (gName i) := by
  have hl : (relS scope X.env.scope).names.lookup n = scope.names.lookup n := by
    rcases hloc with h | h
    · rw [h]; exact lookup_relS_keep (by decide) h
    · rw [h]; exact lookup_relS_keep (by decide) h
  refine pg_name hN (ok.ix (n, i) List.mem_cons_self) ?_ ?_
  · rcases hloc with h | h
    · exact .inl (hl.trans h)
    · exact .inr (hl.trans h)
  · rcases hloc with h | h
    · exact .inr (hl.trans h)
    · left
      show (scope.names.lookup n == some NameKind.cell) = true
      rw [h]; rfl
include hu tk fr hc hN hi ok hloc he
theorem e_lcD0 (hs : ∀ x, foldedSetIterable iter X.env x = pure x := by intro _; rfl) : PE X (.ListComp elt [⟨.Name n np, iter, [], 0⟩] scope pos) (L Z (ev C (.lc i (.dic y) .nil x))) :=
  PE_imp (pe_unl (pe_lcX (tt := fun _ => tYes) (te := fun W' => L (Z.at_ W') (ev C x)) tk fr hc hN (i_dic hi) ok (blk_tgD hN ok hloc) (fun _ _ _ _ _ _ _ => pts_nil) he hs)) fun σ H Q h => lcD_read hu (fun ρ1 H1 Dn ε σ Q hD re => turn_lc0 hD hu re) h
theorem e_lcD1 {cnd : Expr} (ht : ∀ (W' : WX) (s : Shared) (H : Hp) (A : Addr) (cl : List (Str × Addr)) (fp : List Addr), TakesF (blkX X s H scope (compEnvC scope cl A X.env) fp) W' → PT (blkX X s H scope (compEnvC scope cl A X.env) fp) cnd (LT (Z.at_ W') (ev C c)))
    (hs : ∀ x, foldedSetIterable iter X.env x = pure x := by intro _; rfl) : PE X (.ListComp elt [⟨.Name n np, iter, [cnd], 0⟩] scope pos) (L Z (ev C (.lc i (.dic y) (.cons c .nil) x))) :=
  PE_imp (pe_unl (pe_lcX (tt := fun W' => LT (Z.at_ W') (ev C c)) (te := fun W' => L (Z.at_ W') (ev C x)) tk fr hc hN (i_dic hi) ok (blk_tgD hN ok hloc) (fun W' s H A cl fp t => pts_one (ht W' s H A cl fp t)) he hs)) fun σ H Q h => lcD_read hu (fun ρ1 H1 Dn ε σ Q hD re => turn_lc1 hD hu re) h
theorem s_setLcD0 {j : Nat} {w : Str} {py : Pos} (hy : X.N[j]? = some w) (hyl : X.env.scope.names.lookup w = some .local) (hsw : swapsWith (.ListComp elt [⟨.Name n np, iter, [], 0⟩] scope pos) (some (.Name w py)) spos.line X.env = pure true)
    (hs : ∀ x, foldedSetIterable iter X.env x = pure x := by intro _; rfl) : PS X (.Assign [.Name w py] (.ListComp elt [⟨.Name n np, iter, [], 0⟩] scope pos) spos) (LS Z (ex C (.set j (.lc i (.dic y) .nil x)))) :=
  PS_imp (ps_unl (ps_setLcX (tt := fun _ => tYes) (te := fun W' => L (Z.at_ W') (ev C x)) tk fr hc hN hy hyl hsw (i_dic hi) ok (blk_tgD hN ok hloc) (fun _ _ _ _ _ _ _ => pts_nil) he hs)) fun E σ H ⟨ρ, ε, S, re, rs, p⟩ =>
    lcD_read (Q := fun v H' => E.nx (σ.set j (some v)) H') hu (fun ρ1 H1 Dn ε σ Q hD re => turn_lc0 hD hu re) ⟨ρ, ε, S, re, rs, PostS.toS (R := rV Z.K) (f := fun d S1 => .nx (ε.put j d) S1) re p fun ρ1 H1 d v S1 g rs1 rv re1 p1 => p1 ρ1 H1 _ .refl rs1 (re1.put rv (by intro z h; rw [hu] at h; cases h))⟩
theorem s_setLcD1 {j : Nat} {w : Str} {py : Pos} {cnd : Expr} (hy : X.N[j]? = some w) (hyl : X.env.scope.names.lookup w = some .local) (hsw : swapsWith (.ListComp elt [⟨.Name n np, iter, [cnd], 0⟩] scope pos) (some (.Name w py)) spos.line X.env = pure true)
    (ht : ∀ (W' : WX) (s : Shared) (H : Hp) (A : Addr) (cl : List (Str × Addr)) (fp : List Addr), TakesF (blkX X s H scope (compEnvC scope cl A X.env) fp) W' → PT (blkX X s H scope (compEnvC scope cl A X.env) fp) cnd (LT (Z.at_ W') (ev C c)))
    (hs : ∀ x, foldedSetIterable iter X.env x = pure x := by intro _; rfl) : PS X (.Assign [.Name w py] (.ListComp elt [⟨.Name n np, iter, [cnd], 0⟩] scope pos) spos) (LS Z (ex C (.set j (.lc i (.dic y) (.cons c .nil) x)))) :=
  PS_imp (ps_unl (ps_setLcX (tt := fun W' => LT (Z.at_ W') (ev C c)) (te := fun W' => L (Z.at_ W') (ev C x)) tk fr hc hN hy hyl hsw (i_dic hi) ok (blk_tgD hN ok hloc) (fun W' s H A cl fp t => pts_one (ht W' s H A cl fp t)) he hs)) fun E σ H ⟨ρ, ε, S, re, rs, p⟩ =>
    lcD_read (Q := fun v H' => E.nx (σ.set j (some v)) H') hu (fun ρ1 H1 Dn ε σ Q hD re => turn_lc1 hD hu re) ⟨ρ, ε, S, re, rs, PostS.toS (R := rV Z.K) (f := fun d S1 => .nx (ε.put j d) S1) re p fun ρ1 H1 d v S1 g rs1 rv re1 p1 => p1 ρ1 H1 _ .refl rs1 (re1.put rv (by intro z h; rw [hu] at h; cases h))⟩
end
end
end Mi
end

section
set_option linter.all false
set_option maxRecDepth 100000
set_option Elab.async false
/-! facts of the text, levels -/
namespace Mi
open PySem PySem.Spec L2
open PyProof.Rows hiding St

/-- what the text says of an error class, by the written part -/
structure RxK (K : PySem.W.Frag) (T : GA) (mg : Str → Option Value) (c : Ec) (n : Str) : Prop where
  mg : mg n = some (.ref (T.ea c))
  exc : PySem.W.excIn K (T.ea c) He.veBase "ValueError.__new__" = true
  kp : PySem.W.keepIn K (.ref (T.ea c)) = true
  b : PySem.W.subIn K (.ref (T.ea c)) (.type "BaseException") = some true
  t : PySem.W.typeIn K (.ref (T.ea c)) = some (.type "type")
theorem RxK.rx {X : Cx} {T : GA} {c : Ec} {n : Str} (h : RxK X.K T X.mg c n) : RxOk X T c n := ⟨h.mg, ⟨_, _, _, _, PySem.F.excBase_ValueError, h.exc⟩, h.kp, raises_own h.b h.t⟩
theorem takesF_no {X : Cx} : TakesF X (fun _ _ _ _ => False) := fun u s' h => by
  obtain ⟨_, _, _, _, _, _, _, _, _, _, _, _, _, _, _, _, z⟩ := h
  exact z.elim
theorem FnT_bad {P : Program} {w : World} {K : PySem.W.Frag} {T : GA} {mg : Str → Option Value} {base : Heap} {CX : CXT} {k : Nat} {f : Addr} {fd : FuncData} {ps : List Str} : FnT P w K mg base CX k f fd ps (spM K T fun _ _ => .bad) :=
  ⟨fun vs H Q E ⟨_, _, _, _, _, p⟩ => p.elim, fun A outer s H args us vs Q E hr e0 b r ⟨_, _, _, _, _, p⟩ => p.elim⟩
abbrev FnP (K : PySem.W.Frag) (x q : Str) (st : Stmt) (f : Addr) (fd : FuncData) : Prop := FunD K x q (defArgs st) (defBody st) (defScope st) [] [] f fd
/-- the constants within a def -/
abbrev zOf (K : PySem.W.Frag) (T : GA) (E : XK) : Cz := ⟨K, T, fun c d _ H => E c d H, none⟩
abbrev cOf (hot : Bool) (k : Nat) : Cf := ⟨hot, callF hot (k + 1), callF hot k⟩
/-- a def keeps the interpreter's promise -/
theorem fn_M {P : Program} {w : World} {K : PySem.W.Frag} {T : GA} {mg : Str → Option Value} {base : Heap} {hot : Bool} {k : Nat} {f : Addr} {fd : FuncData} {x q : Str} {st : Stmt} {N ps : List Str} {b : Sms} {g : Fn} (F : FnP K x q st f fd) (S : FnScope N ps (defScope st)) (hb : bodyOf g = ⟨ps.length, N.length, b⟩)
    (hbody : ∀ (cdv : Value) (A : Around) (outer : List PySem.Env) (s : Shared) (H : Hp) (E : XK), RoomT (k + 1) (A.deeper (envOfC q (defScope st) s.heap.objs.size f cdv)) →
      Takes (cxOf (L2.CX P w) P w K mg base N q (defScope st) f cdv A outer s H E) (zOf K T E).W → TakesF (cxOf (L2.CX P w) P w K mg base N q (defScope st) f cdv A outer s H E) (zOf K T E).W → FrOk (cxOf (L2.CX P w) P w K mg base N q (defScope st) f cdv A outer s H E) →
      PassesOwn (model P w) (A.deeper (envOfC q (defScope st) s.heap.objs.size f cdv)) (envOfC q (defScope st) s.heap.objs.size f cdv) (cxOf (L2.CX P w) P w K mg base N q (defScope st) f cdv A outer s H E).xe →
      PSs (cxOf (L2.CX P w) P w K mg base N q (defScope st) f cdv A outer s H E) (defBody st) (LS (zOf K T E) (exs (cOf hot k) b))) :
    FnT P w K mg base (L2.CX P w) (k + 2) f fd ps (spM K T (callF hot (k + 2) g)) := by
  obtain ⟨oc, od, dV, kV, doc, pm, an, cdv, ct, osl, rfl, lk, hcd, _, _⟩ := F.ex
  rw [callF_succ]
  refine fn_ofT lk hcd S (spM_len (bo := bodyOf) (f := g) hb) fun A outer s H vs Q E hr h => ⟨_, hbody cdv A outer s H E hr ?_ ?_ ?_ ?_, body_run (bo := bodyOf) (f := g) hb h⟩
  · exact takes_of rfl rfl rfl rfl
  · exact Takes.f (takes_of (X := cxOf (L2.CX P w) P w K mg base N q (defScope st) f cdv A outer s H E) rfl rfl rfl rfl) rfl
  · exact ⟨_, _, _, rfl, rfl, rfl⟩
  · exact passes_of (X := cxOf (L2.CX P w) P w K mg base N q (defScope st) f cdv A outer s H E) rfl
end Mi
end

section
set_option linter.all false
set_option maxRecDepth 100000
set_option Elab.async false
/-! short words for the derivations -/
namespace Mi
open PySem PySem.Spec L2
open PyProof.Rows hiding St
section
variable {X : Cx} {Z : Cz} {C : Cf}
theorem w_var (i : Nat) {n : Str} {pos : Pos} (hN : X.N[i]? = some n := by rfl) (hv : Vis X.env.scope n := by first | exact Or.inl rfl | exact Or.inr (Or.inl rfl) | exact Or.inr (Or.inr rfl)) (hd : (n == ("__debug__" : Str)) = false := by kernel_rfl) (hcd : (n == ("__classdict__" : Str)) = false := by kernel_rfl) : PE X (.Name n pos) (L Z (ev C (.v i))) := e_var hN hv hd hcd
theorem no_cu {i : Nat} : NoCu none i := fun z h => by cases h
end
theorem w_boot_len : bootBuiltins "len" = some (.builtin "len") := by decide +kernel
theorem w_boot_abs : bootBuiltins "abs" = some (.builtin "abs") := by decide +kernel
theorem w_boot_sorted : bootBuiltins "sorted" = some (.builtin "sorted") := by decide +kernel
theorem w_boot_min : bootBuiltins "min" = some (.builtin "min") := by decide +kernel
theorem w_boot_max : bootBuiltins "max" = some (.builtin "max") := by decide +kernel
theorem w_boot_int : bootBuiltins "int" = some (.type "int") := by decide +kernel
theorem w_boot_str : bootBuiltins "str" = some (.type "str") := by decide +kernel
theorem w_boot_bool : bootBuiltins "bool" = some (.type "bool") := by decide +kernel
theorem w_boot_list : bootBuiltins "list" = some (.type "list") := by decide +kernel
theorem w_boot_tuple : bootBuiltins "tuple" = some (.type "tuple") := by decide +kernel
theorem w_boot_dict : bootBuiltins "dict" = some (.type "dict") := by decide +kernel
end Mi
end

section
set_option linter.all false
set_option maxRecDepth 100000
set_option Elab.async false
/-! a try whose except suite raises; defs that raise where nothing is handled -/
namespace Mi
open PySem PySem.Spec L2
open PyProof.Rows hiding St
section
variable {X : Cx} {Z : Cz} {C : Cf} {n m : Str} {p p2 pos pos' np : Pos} {j i : Nat} {c : Ec} {bs sts : List Stmt} {b₀ : Stmt} {xs ys : Sms} {e : Expr} {x : Ex}
/-- the constants in a suite that may raise -/
abbrev Cz.suX (Z : Cz) (a : Addr) (cls : Value) (d : Option Addr) : Cz := ⟨Z.K, Z.T, Z.W, some ⟨none, a, cls, d⟩⟩
theorem try_X (hz : Z.K = X.K) (hu : Z.u = none) (hs : X.stack = X.env :: X.outer) (hf : X.env.frame = some X.env.locals) (hc : Names X n (.ref (Z.T.ea c))) (hx : ∀ c', PySem.W.exmOne X.K (.ref (Z.T.ea c')) (.ref (Z.T.ea c)) = some (c'.sub c))
    (hpa : ∀ hd : Option Value, PassesOwnAt (model X.prog X.w) (X.A.mark hd) X.A X.env X.xe) (tk : Takes X Z.W)
    (hb : ∀ (W : WX) (pn : List (Addr × Obj)) (xe : Value → Shared → Prop), L2N.Takes (X.tr pn xe) W → PassesOwn (model X.prog X.w) X.A X.env xe → PSs (X.tr pn xe) bs (LS (Z.at_ W) (exs C xs)))
    (hsu : ∀ (a : Addr) (oe : Obj) (cls : Value) (d : Option Addr) (pn : List (Addr × Obj)), Takes (L2H.suiteX X a ((a, oe) :: pn)) Z.W → L2H.HotC (L2H.suiteX X a ((a, oe) :: pn)) → PSs (L2H.suiteX X a ((a, oe) :: pn)) (b₀ :: sts) (LS (Z.suX a cls d) (exs C ys))) :
    PS X (.Try bs [.ExceptHandler (some (.Name n np)) none (b₀ :: sts) pos'] [] [] pos) (LS Z (ex C (.tryX xs c ys))) :=
  PS_imp (L2H.ps_try_onlyX (tb := fun W => LS (Z.at_ W) (exs C xs)) (ts := fun a cls d => LS (Z.suX a cls d) (exs C ys)) hs hf hc hpa tk (fun W pn xe t _ po => hb W pn xe t po) fun a oe cls d pn _ _ t h => hsu a oe cls d pn t h) fun E σ H ⟨ρ, ε, S, re, rs, p⟩ => by
    refine ⟨ρ, ε, S, re, rs, ?_⟩
    simp only [ex] at p
    cases hr : exs C xs ε S with
    | nx ε' S' => rw [hr] at p; exact p
    | rt d S' => rw [hr] at p; exact p
    | bad => rw [hr] at p; exact p
    | ex z ε' S' =>
      rw [hr] at p
      dsimp only at p
      intro ρ' H' σ' cls dd g rs' re' rx nd
      have ecls : cls = .ref (Z.T.ea z.c) := rx.1
      refine ⟨z.c.sub c, by rw [ecls]; exact hx z.c, fun hb a ha => ?_, fun hb => ?_⟩
      · rw [if_pos hb] at p
        refine ⟨ρ', { ε' with cur := some z }, S', ⟨re'.len, re'.get, ⟨rx, nd, fun i h => by cases h⟩⟩, rs', ?_⟩
        generalize exs C ys { ε' with cur := some z } S' = r at p ⊢
        have hcur : ε.cur = none := by
          have := re.cur
          rw [hu] at this
          exact this
        cases r with
        | nx ε2 S2 =>
          intro ρ2 H2 σ2 g2 rs2 re2
          refine p ρ2 H2 σ2 (g.trans g2) rs2 ⟨re2.len, re2.get, ?_⟩
          show RC Z.T H2 ρ2 σ2 Z.u ε.cur
          rw [hu, hcur]
          rfl
        | rt d S2 => exact fun ρ2 H2 v g2 rs2 rv => p ρ2 H2 v (g.trans g2) rs2 rv
        | ex z2 ε2 S2 =>
          intro ρ2 H2 σ2 cls2 dd2 g2 rs2 re2 rx2 nd2
          refine p ρ2 H2 σ2 cls2 dd2 (g.trans g2) rs2 ⟨re2.len, re2.get, ?_⟩ rx2 nd2
          show RC Z.T H2 ρ2 σ2 Z.u ε.cur
          rw [hu, hcur]
          rfl
        | bad => exact p
      · rw [if_neg (by rw [hb]; decide)] at p
        exact p ρ' H' σ' cls dd g rs' re' rx nd
/-- a raise within such a suite -/
theorem s_rseH (hc : L2H.HotC X) (tk : Takes X Z.W) (R : RxOk X Z.T c n) (hg : Gl X n) (hdb : (n == ("__debug__" : Str)) = false := by decide +kernel) : PS X (.Raise (some (.Call (.Name n p) [.Constant (.str m) j p2] [] pos)) none pos') (LS Z (ex C (.rse false c))) := by
  obtain ⟨bmB, newId, B, initId, F, q⟩ := R.exc
  refine PS_imp (L2H.ps_raiseH hc tk (L2N.pmk_own F q R.mg R.kp R.r hg hdb)) fun E σ H ⟨ρ, ε, S, re, rs, p⟩ => ?_
  have p : PostS Z ρ H (.ex ⟨c, none⟩ ε S) E := p
  exact p ρ H σ _ none .refl rs re ⟨rfl, rfl⟩ fun d e => by cases e
/-- a raise where nothing is handled, its context told -/
theorem s_rseN (hc : X.calm = true) (tk : L2N.Takes X Z.W) (R : RxOk X Z.T c n) (hg : Gl X n) (hdb : (n == ("__debug__" : Str)) = false := by decide +kernel) : PS X (.Raise (some (.Call (.Name n p) [.Constant (.str m) j p2] [] pos)) none pos') (LS Z (ex C (.rse false c))) := by
  obtain ⟨bmB, newId, B, initId, F, q⟩ := R.exc
  refine PS_imp (L2N.ps_raise hc tk (L2N.pmk_own F q R.mg R.kp R.r hg hdb)) fun E σ H ⟨ρ, ε, S, re, rs, p⟩ => ?_
  have p : PostS Z ρ H (.ex ⟨c, none⟩ ε S) E := p
  exact p ρ H σ _ none .refl rs re ⟨rfl, rfl⟩ fun d e => by cases e
end
/-- a def by its name, its exceptions' context told -/
def FnCN (P : Program) (w : World) (K : PySem.W.Frag) (T : GA) (mg : Str → Option Value) (base : Heap) (k : Nat) (cf : List D → Sto → Res D) (n : Str) : Prop :=
  ∃ f fd ps, mg n = some (.ref f) ∧ PySem.W.keepIn K (.ref f) = true ∧ Binds K fd ps [] ∧ FnT P w K mg base (L2N.CX P w) k f fd ps (spM K T cf)
section
variable {X : Cx} {Z : Cz} {C : Cf} {e : Expr} {pos p : Pos} {es : List Expr} {xs : Exs} {n : Str} {k : Nat}
theorem e_callN {g : Fn} (hz : Z.K = X.K) (tk : L2N.Takes X Z.W) (hr : RoomT k X.A) (F : FnCN X.prog X.w X.K Z.T X.mg X.base k (C.cf g) n) (hg : Gl X n) (ha : PA X (e :: es) (LA Z (evs C xs))) (hdb : (n == ("__debug__" : Str)) = false := by decide +kernel)
    (he : starEach (e :: es) X.env = (false, eval e X.env) :: starEach es X.env := by rfl) (hpl : (backTo pos (starEach es X.env)).any (·.1) = false := by rfl) : PE X (.Call (.Name n p) (e :: es) [] pos) (L Z (ev C (.call g xs))) := by
  obtain ⟨f, fd, ps, hm, hk, hb, F⟩ := F
  exact PE_imp (pe_callT (E := WE Z.W) F hr hg hm hk hb (L2N.passAt tk) ha hdb he hpl) fun σ H Q h => LA_bind (m := evs C xs) (f := fun ε ds S => C.cf g ds S) h fun ρ ε S ds vs H1 re rs rv q => by
    rw [← hz]; exact ⟨ρ, ds, S, rs, rv, q.sig⟩
end
/-- as fn_M, for exceptions whose context is told -/
theorem fn_MN {P : Program} {w : World} {K : PySem.W.Frag} {T : GA} {mg : Str → Option Value} {base : Heap} {hot : Bool} {k : Nat} {f : Addr} {fd : FuncData} {x q : Str} {st : Stmt} {N ps : List Str} {b : Sms} {g : Fn} (F : FnP K x q st f fd) (S : FnScope N ps (defScope st)) (hb : bodyOf g = ⟨ps.length, N.length, b⟩)
    (hbody : ∀ (cdv : Value) (A : Around) (outer : List PySem.Env) (s : Shared) (H : Hp) (E : XK), RoomT (k + 1) (A.deeper (envOfC q (defScope st) s.heap.objs.size f cdv)) →
      L2N.Takes (cxOf (L2N.CX P w) P w K mg base N q (defScope st) f cdv A outer s H E) (zOf K T E).W → FrOk (cxOf (L2N.CX P w) P w K mg base N q (defScope st) f cdv A outer s H E) →
      PassesOwn (model P w) (A.deeper (envOfC q (defScope st) s.heap.objs.size f cdv)) (envOfC q (defScope st) s.heap.objs.size f cdv) (cxOf (L2N.CX P w) P w K mg base N q (defScope st) f cdv A outer s H E).xe →
      PSs (cxOf (L2N.CX P w) P w K mg base N q (defScope st) f cdv A outer s H E) (defBody st) (LS (zOf K T E) (exs (cOf hot k) b))) :
    FnT P w K mg base (L2N.CX P w) (k + 2) f fd ps (spM K T (callF hot (k + 2) g)) := by
  obtain ⟨oc, od, dV, kV, doc, pm, an, cdv, ct, osl, rfl, lk, hcd, _, _⟩ := F.ex
  rw [callF_succ]
  refine fn_ofT lk hcd S (spM_len (bo := bodyOf) (f := g) hb) fun A outer s H vs Q E hr h => ⟨_, hbody cdv A outer s H E hr ?_ ?_ ?_, body_run (bo := bodyOf) (f := g) hb h⟩
  · exact L2N.takes_of rfl rfl rfl rfl
  · exact ⟨_, _, _, rfl, rfl, rfl⟩
  · exact passes_of (X := cxOf (L2N.CX P w) P w K mg base N q (defScope st) f cdv A outer s H E) rfl
/-- a def at a level, both ways -/
theorem FnT_badN {P : Program} {w : World} {K : PySem.W.Frag} {T : GA} {mg : Str → Option Value} {base : Heap} {CX : CXT} {k : Nat} {f : Addr} {fd : FuncData} {ps : List Str} : FnT P w K mg base CX k f fd ps (spM K T fun _ _ => .bad) := FnT_bad
end Mi
end

section
set_option linter.all false
set_option maxRecDepth 100000
set_option maxHeartbeats 1000000
set_option Elab.async false
/-! list(reversed(a list)) -/
namespace Mi
open PySem PySem.Spec PyProof.Rows RT
section
variable {prog : Program} {w : World} {A : Around} {s : Shared} {R : Result → Shared → Prop}
theorem extend_rev {it l S : Addr} {items : Array Value} (hh : A.handled = none) (c₀ : Nat) (hit : s.heap.IsRevIter it l ((items.size : Int) - 1)) (hl : s.heap.IsList l items) (hne : l ≠ it) (hSi : S ≠ it) (hSl : S ≠ l) (hn : items.size ≤ sizeLine)
    (hS : s.heap.get? S = some { cls := .type "list", data := .seq #[] c₀ })
    (hR : ∀ s' acc' c', Moved [S, it] (fun a b => b = a) s s' → s'.heap.get? S = some { cls := .type "list", dict := none, data := .seq acc' c', slots := #[] } → ItemsOf (fun i v => items[items.size - 1 - i]? = some v) acc' items.size → R (.ok (.ret .none)) s') :
    wpAny (model prog w) A.in1 (Builtin.List.listExtendWith (.ref S) (.ref it) .none)
      (fun fin s' => match fin with | .done f => R (.ok f) s' | .again c' => c'.quiet = true ∧ codeAny (model prog w) A c' R s') (fun e s' => R (.error e) s') s := by
  have W := (Walks.listRev (prog := prog) (w := w) (A := A.in1) hh it l hne items).toS
  have hSf : S ∉ [it, l] := by simp only [List.mem_cons, List.not_mem_nil, or_false, not_or]; exact ⟨hSi, hSl⟩
  have hT : s.TypeIs (.ref it) "list_reverseiterator" := hit.typeIs
  have h1 : Builtin.List.listSameRef (.ref S) (.ref it) = false := by simp [Builtin.List.listSameRef, hSi]
  unfold Builtin.List.listExtendWith
  refine wpAny_bind (wpAny_typeOf hT ?_)
  rw [if_neg (by rw [h1]; decide)]
  refine wpAny_bind (wpAny_pyIter_revIter hit ?_)
  refine wpAny_bind (wpAny_holding ?_)
  unfold Builtin.List.listLengthHint
  refine wpAny_bind (wpAny_specialOf hT nolen_lri ?_)
  show wpAny _ A.in1 (specialOf (Value.ref it) (Str.ofString "__length_hint__") >>= _) _ _ _
  refine wpAny_bind (wpAny_specialOf hT hint_lri ?_)
  generalize hid : ("list_reverseiterator.__length_hint__" : String) = id0
  wp_delta
  rw [show splitId id0 = some ("list_reverseiterator", "__length_hint__") from by subst hid; decide +kernel]
  subst hid
  refine wpAny_bind (wpAny_isInstance (b := true) hT (by rw [isSubtype_type]; kernel_rfl) ?_)
  refine wpAny_pure ?_
  rw [if_neg (by decide)]
  have e0 : ((items.size : Nat) : Int) - 1 - ((0 : Nat) : Int) = (items.size : Int) - 1 := by omega
  refine wpAny_pure ⟨plainId_quiet F.plain_extend_loop _, codeAny_extend_loopS W hn _ hSf _ items.size 0 _ _ _ rfl (Nat.zero_le _) ⟨Nat.zero_le _, by rw [e0]; exact hit, hl⟩ hS (ItemsOf.nil _) fun s' acc' c' hm hS' hacc => ?_⟩
  exact hR s' acc' c' hm hS' hacc
theorem init_rev {it l S : Addr} {items : Array Value} (hh : A.handled = none) (hit : s.heap.IsRevIter it l ((items.size : Int) - 1)) (hl : s.heap.IsList l items) (hne : l ≠ it) (hSi : S ≠ it) (hSl : S ≠ l) (hn : items.size ≤ sizeLine)
    (hS : s.heap.get? S = some { cls := .type "list", data := .seq #[] })
    (hR : ∀ s' acc' c', (∀ b o, b ≠ S → b ≠ it → s.heap.get? b = some o → s'.heap.get? b = some o) → s' = { s with heap := s'.heap, toks := s'.toks } → s'.heap.get? S = some { cls := .type "list", dict := none, data := .seq acc' c', slots := #[] } → ItemsOf (fun i v => items[items.size - 1 - i]? = some v) acc' items.size → R (.ok (.ret .none)) s') :
    wpAny (model prog w) A.in1 (Builtin.«list.__init__» ⟨[.ref S, .ref it], []⟩)
      (fun fin s' => match fin with | .done f => R (.ok f) s' | .again c' => c'.quiet = true ∧ codeAny (model prog w) A c' R s') (fun e s' => R (.error e) s') s := by
  show wpAny _ A.in1 (do let old ← Builtin.List.listItems (.ref S); Builtin.List.listUpdate (.ref S) (fun _ => #[]); letGo old.toList.reverse; Builtin.List.listExtendWith (.ref S) (.ref it) .none) _ _ s
  refine wpAny_bind ?_
  unfold Builtin.List.listItems
  refine wpAny_bind (wpAny_seqItems hS rfl (wpAny_pure ?_))
  show wpAny _ A.in1 (updateSeq S (fun _ => #[]) >>= fun _ => letGo (#[] : Array Value).toList.reverse >>= fun _ => Builtin.List.listExtendWith (.ref S) (.ref it) .none) _ _ s
  refine wpAny_bind (wpAny_updateSeq hS rfl ?_)
  have hS₂ := Heap.get?_update_self (Obj.mapSeq (fun _ => (#[] : Array Value))) hS rfl
  have oth : ∀ b o, b ≠ S → s.heap.get? b = some o → (s.heap.update S (Obj.mapSeq (fun _ => (#[] : Array Value)))).get? b = some o :=
    fun b o hb e => (Heap.get?_update_other _ _ (Ne.symm hb)).trans e
  refine wpAny_bind (wpAny_letGo ?_)
  have hl2 : (s.heap.update S (Obj.mapSeq (fun _ => (#[] : Array Value)))).IsList l items := by
    obtain ⟨o, ho, r⟩ := hl
    exact ⟨o, oth l o (Ne.symm hSl) ho, r⟩
  refine extend_rev (s := { s with heap := s.heap.update S (Obj.mapSeq (fun _ => (#[] : Array Value))) }) hh _ (hit.at fun o e => oth it o (Ne.symm hSi) e) hl2 hne hSi hSl hn hS₂ fun s' acc' c' hm hS' hacc => ?_
  refine hR s' acc' c' (fun b o h1 h2 e => hm.heap b o (by simp [h1, h2]) (oth b o h1 e)) ?_ hS' hacc
  have := Moved.eq_with hm
  rw [this]
end
section
variable {prog : Program} {w : World} {A : Around} {E : Value → Shared → Prop} {s : Shared}
theorem call_list_rev {it l : Addr} {items : Array Value} {Q : Value → Shared → Prop} (hh : A.handled = none) (hit : s.heap.IsRevIter it l ((items.size : Int) - 1)) (hl : s.heap.IsList l items) (hne : l ≠ it) (hn : items.size ≤ sizeLine)
    (hQ : ∀ (h' : Heap) (tk : Nat) (acc' : Array Value) (c' : Nat), (∀ b o, b ≠ it → s.heap.get? b = some o → h'.get? b = some o) → h'.get? s.heap.objs.size = some { cls := .type "list", dict := none, data := .seq acc' c', slots := #[] } →
      ItemsOf (fun i v => items[items.size - 1 - i]? = some v) acc' items.size → Q (.ref s.heap.objs.size) { s with heap := h', toks := tk }) :
    wpAny (model prog w) A (call (.type "list") [.ref it]) Q E s := by
  obtain ⟨oi, hoi, _⟩ := id hit
  obtain ⟨ol, hol, _⟩ := id hl
  have hSi : s.heap.objs.size ≠ it := Nat.ne_of_gt (Heap.lt_size hoi)
  have hSl : s.heap.objs.size ≠ l := Nat.ne_of_gt (Heap.lt_size hol)
  refine callType_codes (Q₁ := fun obj s₁ => obj = .ref s.heap.objs.size ∧ s₁ = { s with heap := s.heap.push { cls := .type "list", data := .seq #[] } }) F.called_list (F.typeCall_list_1 _) F.entry_list_init
    (code_list_new _ ⟨rfl, rfl⟩) fun obj s₁ h₁ => ?_
  obtain ⟨rfl, rfl⟩ := h₁
  have hS : (s.heap.push { cls := .type "list", data := .seq #[] }).get? s.heap.objs.size = some { cls := .type "list", data := .seq #[] } := Heap.get?_push_size _ rfl
  refine ⟨⟨_, hS, rfl⟩, F.args_list_init_2 _ _, ?_⟩
  refine init_rev (s := { s with heap := s.heap.push { cls := .type "list", data := .seq #[] } }) hh (hit.at fun o e => Heap.get?_push_of_some _ e) (hl.push _) hne hSi hSl hn hS fun s' acc' c' hm he hS' hacc => ?_
  refine ⟨rfl, ?_⟩
  rw [he]
  exact hQ s'.heap s'.toks acc' c' (fun b o hb e => by
    by_cases h : b = s.heap.objs.size
    · exact absurd (Heap.lt_size e) (by rw [h]; exact Nat.lt_irrefl _)
    · exact hm b o h hb (Heap.get?_push_of_some _ e)) hS' hacc
end
end Mi
namespace Mi
open PySem PySem.Spec L2 RT
open PyProof.Rows hiding St
def tListRev (K : PySem.W.Frag) (te : TE) : TE := fun σ H Q => te σ H fun v H1 => ∃ (a : Addr) (xs : List V), v = .ref a ∧ SqL K H1 a xs ∧ ∀ q, H1 q = none → Q (.ref q) (upd H1 q (.lst xs.reverse))
section
variable {X : Cx}
theorem pe_listRev {e : Expr} {te : TE} {p p2 pos pos2 : Pos} (hc : X.calm = true) (hg : Gl X "list") (hm : X.mg "list" = none) (hg2 : Gl X "reversed") (hm2 : X.mg "reversed" = none) (he : PE X e te)
    (hs : starEach [e] X.env = (false, eval e X.env) :: starEach [] X.env := by rfl)
    (hs2 : starEach [.Call (.Name "reversed" p2) [e] [] pos2] X.env = (false, eval (.Call (.Name "reversed" p2) [e] [] pos2) X.env) :: starEach [] X.env := by rfl) :
    PE X (.Call (.Name "list" p) [.Call (.Name "reversed" p2) [e] [] pos2] [] pos) (tListRev X.K te) := by
  refine ⟨fun pins s σ H Q I h => ?_⟩
  refine Call_ (ld_blt I hg hm w_boot_list (PyProof.Rows.callWith_type1 (args_cons (Call_ (ld_blt I hg2 hm2 PyProof.Rows.boot_reversed (PyProof.Rows.callWith_type1 (args_cons (thn (he.run pins s σ H _ I h) fun u s1 ⟨v, H1, I1, r1, q1⟩ => args_nil ?_) hs) hs rfl))) hs2) hs2 rfl))
  obtain ⟨a, xs, ev, hq, q⟩ := q1
  subst ev
  obtain rfl : u = Value.ref a := r1
  obtain ⟨its, rv, p', hz⟩ := I1.list hq
  refine call_reversed_list p'.isList (args_nil ?_)
  have k0 : ∀ b o, s1.heap.get? b = some o → (s1.heap.push (revObj a ((its.toArray.size : Int) - 1))).get? b = some o := fun b o e => Heap.get?_push_of_some _ e
  have I2 : Inv X pins σ H1 { s1 with heap := s1.heap.push (revObj a ((its.toArray.size : Int) - 1)) } := I1.kept (t' := s1.toks) k0
  have fp := I1.fpOk (H' := H1) (b := s1.heap.objs.size) (Nat.le_refl _) (I1.hok.fresh (Nat.le_refl _))
  have hl := p'.isList
  obtain ⟨ol, hol, _⟩ := id hl
  have hne : a ≠ s1.heap.objs.size := Nat.ne_of_lt (Heap.lt_size hol)
  have hn : its.toArray.size ≤ sizeLine := by rw [List.size_toArray, ← rv.length]; exact hz
  refine call_list_rev (s := { s1 with heap := s1.heap.push (revObj a ((its.toArray.size : Int) - 1)) }) (I1.ok.hd hc) ⟨_, Heap.get?_push_size _ rfl, rfl, rfl⟩ (hl.push _) hne hn fun h' tk acc c' hk hS hi => ?_
  refine ⟨.ref (s1.heap.push (revObj a ((its.toArray.size : Int) - 1))).objs.size, upd H1 (s1.heap.push (revObj a ((its.toArray.size : Int) - 1))).objs.size (.lst xs.reverse), ?_, rfl, q _ (I2.hok.fresh (Nat.le_refl _))⟩
  refine I2.turnedNew (t' := tk) (ch := [s1.heap.objs.size]) (fun b o hb e => hk b o (by simpa using hb) e) (fun b hb => ?_) (Nat.le_refl _) (show ObjOk X.prog X.w _ h' _ (.lst xs.reverse) from ⟨by rw [List.length_reverse]; exact hz, acc.toList, c', vals_rev rv hi, ?_⟩)
  · simp at hb; subst hb; exact fp
  · rw [Array.toArray_toList]; exact hS
end
section
variable {X : Cx} {Z : Cz} {C : Cf}
theorem e_lrev {x : Ex} {a : Expr} {p p2 pos pos2 : Pos} (hz : Z.K = X.K) (hc : X.calm = true) (hg : Gl X "list") (hm : X.mg "list" = none) (hg2 : Gl X "reversed") (hm2 : X.mg "reversed" = none) (he : PE X a (L Z (ev C x)))
    (hs : starEach [a] X.env = (false, eval a X.env) :: starEach [] X.env := by rfl)
    (hs2 : starEach [.Call (.Name "reversed" p2) [a] [] pos2] X.env = (false, eval (.Call (.Name "reversed" p2) [a] [] pos2) X.env) :: starEach [] X.env := by rfl) :
    PE X (.Call (.Name "list" p) [.Call (.Name "reversed" p2) [a] [] pos2] [] pos) (L Z (ev C (.b1 .lrev x))) :=
  PE_imp (pe_listRev hc hg hm hg2 hm2 he hs hs2) fun σ H Q h => L_bind (m := ev C x) (f := fun ε d S => b1 .lrev d S) h fun ρ ε S d v H1 re rs rv p => by
    obtain ⟨K, T, W, u⟩ := Z
    have hz : K = X.K := hz
    subst hz
    cases d with
    | ref l =>
      have p' : Post X.K T W (rV X.K) ρ σ H1 (b1 .lrev (.ref l) S) Q := p
      simp only [b1] at p'
      cases h1 : S.seq l with
      | some ds =>
        rw [h1] at p'
        obtain ⟨a, xs, e1, e2, e3⟩ := seq_of rs h1 rv
        exact ⟨a, xs, e1, e2, fun q hq => Post.new p' rs hq (RO.lst_new hq (pr_rev e3))⟩
      | none => rw [h1] at p'; exact p'.elim
    | _ => exact (show False from p).elim
end
end Mi
end

section
set_option linter.all false
set_option maxRecDepth 100000
set_option maxHeartbeats 1000000
set_option Elab.async false
/-! sorted(set(a list of texts)): the set -/
namespace Mi
open PySem PySem.Spec L2 PyProof.Rows
open PySem.Froz (SD sObj tailTx addTx TxOk add_ok add_x is_str)
theorem tail_same {es1 : Array (Int × Value)} {ep : Nat} {t2 : SetTable} {b : Bool} : (Ris t2.place.toList → Ris (tailTx ep es1 t2 b).2.2.place.toList) ∧ (tailTx ep es1 t2 b).2.2.led = t2.led := by
  unfold tailTx
  split
  · exact ⟨fun _ => relayAll_ris _ _ _, relayAll_led _ _ _⟩
  · exact ⟨id, rfl⟩
theorem addTx_same {h : Int} {v : Value} {D : SD} (r : Ris D.2.2.place.toList) : Ris (addTx h v D).2.2.place.toList ∧ (addTx h v D).2.2.led = D.2.2.led := by
  have h1 := layNew_ris D.2.2 D.1 h v r
  have h2 := layNew_led D.2.2 D.1 h v
  unfold addTx
  have t := tail_same (es1 := (layNew D.2.2 D.1 h v).1) (ep := D.2.1) (t2 := if (layNew D.2.2 D.1 h v).2.1.plain = true then { (layNew D.2.2 D.1 h v).2.1 with plain := false } else (layNew D.2.2 D.1 h v).2.1) (b := (layNew D.2.2 D.1 h v).2.2.1)
  refine ⟨t.1 ?_, t.2.trans ?_⟩
  · split <;> exact h1
  · split <;> exact h2
/-- one more -/
def addL (l : List Str) (k : Str) : List Str := if k ∈ l then l else k :: l
def madeL (ks : List Str) : List Str := ks.foldl addL []
theorem madeL_snoc (ks : List Str) (k : Str) : madeL (ks ++ [k]) = addL (madeL ks) k := by simp [madeL]
theorem addL_mem {l : List Str} {k j : Str} : j ∈ addL l k ↔ j ∈ l ∨ j = k := by
  unfold addL
  split
  · rename_i h
    exact ⟨.inl, fun e => e.elim id fun e => e ▸ h⟩
  · rw [List.mem_cons]
    exact Or.comm
theorem addL_nodup {l : List Str} {k : Str} (h : l.Nodup) : (addL l k).Nodup := by
  unfold addL
  split
  · exact h
  · rename_i q
    exact List.nodup_cons.mpr ⟨q, h⟩
theorem foldL (ks : List Str) : ∀ l : List Str, (l.Nodup → (ks.foldl addL l).Nodup) ∧ (∀ j, j ∈ ks.foldl addL l ↔ j ∈ l ∨ j ∈ ks) ∧ (ks.foldl addL l).length ≤ l.length + ks.length := by
  induction ks with
  | nil => intro l; exact ⟨id, by simp, by simp⟩
  | cons k ks ih =>
    intro l
    obtain ⟨h1, h2, h3⟩ := ih (addL l k)
    refine ⟨fun h => h1 (addL_nodup h), fun j => ?_, ?_⟩
    · rw [List.foldl_cons, h2, addL_mem, List.mem_cons]
      constructor
      · rintro ((h | h) | h)
        · exact .inl h
        · exact .inr (.inl h)
        · exact .inr (.inr h)
      · rintro (h | h | h)
        · exact .inl (.inl h)
        · exact .inl (.inr h)
        · exact .inr h
    · have : (addL l k).length ≤ l.length + 1 := by unfold addL; split <;> simp
      rw [List.foldl_cons]
      simp at h3 ⊢
      omega
theorem madeL_nodup (ks : List Str) : (madeL ks).Nodup := (foldL ks []).1 List.nodup_nil
theorem madeL_mem (ks : List Str) (j : Str) : j ∈ madeL ks ↔ j ∈ ks := by
  unfold madeL
  rw [(foldL ks []).2.1]
  simp
theorem madeL_len (ks : List Str) : (madeL ks).length ≤ ks.length := by
  have := (foldL ks []).2.2
  simpa [madeL] using this
/-- the set of the texts l stands at a -/
def TxS (P : Program) (w : World) (h : Heap) (a : Addr) (l : List Str) : Prop :=
  ∃ D : SD, h.get? a = some (sObj "set" D) ∧ TxOk P w D l ∧ Ris D.2.2.place.toList ∧ (w.params.followText "set-order" = true ∨ D.2.2.led = true)
theorem TxS.at {P : Program} {w : World} {h h' : Heap} {a : Addr} {l : List Str} (R : TxS P w h a l) (k : ∀ o, h.get? a = some o → h'.get? a = some o) : TxS P w h' a l := by
  obtain ⟨D, h1, r⟩ := R
  exact ⟨D, k _ h1, r⟩
section
variable {P : Program} {w : World} {A : Around} {E : Value → Shared → Prop} {s : Shared} {a : Addr} {l : List Str}
/-- one that is in it -/
theorem same_x {D : SD} {k : Str} {u : Tok} {Q : Bool → Shared → Prop} (ho : s.heap.get? a = some (sObj "set" D)) (F : TxOk P w D l) (hk : k ∈ l) (hb : l.length < scanBound) (h : Q false s) :
    wpAny (model P w) A (setAddHashed a (.str k u) (hashStr w k)) Q E s := by
  obtain ⟨es, ep, t⟩ := D
  have hsz : es.size = l.length := F.sz
  have hel : ElemsOf (PySem.strKind P w) es.toList := F.el
  have hf : t.fits es.size = true := F.fit
  have hkey : (PySem.strKind P w).is k (.str k u) = true := is_str k u
  obtain ⟨e, he, ee⟩ := (F.mem k).mp hk
  obtain ⟨j, hj⟩ : ∃ j, List.findIdx? (fun e => (PySem.strKind P w).is k e.2) es.toList = some j := by
    cases hr : List.findIdx? (fun e => (PySem.strKind P w).is k e.2) es.toList with
    | some j => exact ⟨j, rfl⟩
    | none =>
      have := List.findIdx?_eq_none_iff.mp hr e he
      rw [ee] at this
      cases this
  unfold setAddHashed setAddHashedIn
  refine wpAny_holding (wpAny_bind (wpAny_setState_of ho rfl hf ?_))
  dsimp only
  rw [byScan_of rfl (by omega) hel]
  simp only [↓reduceIte]
  unfold setAddByScan
  refine wpAny_bind (wpAny_bind (wpAny_rule (wpAny_bind (wpAny_setScan_of hkey ho rfl hf hel ?_))))
  rw [hj]
  dsimp only
  exact wpAny_pure (wpAny_pure h)
/-- one put in, or there -/
theorem put_x {k : Str} {u : Tok} {Q : Bool → Shared → Prop} (R : TxS P w s.heap a l) (hb : l.length + 1 < scanBound)
    (h : ∀ b h', Heap.SameBut a s.heap h' → TxS P w h' a (addL l k) → Q b { s with heap := h' }) :
    wpAny (model P w) A (setAddHashed a (.str k u) (hashStr w k)) Q E s := by
  obtain ⟨D, ho, F, r, led⟩ := R
  by_cases hk : k ∈ l
  · refine same_x ho F hk (by omega) (h false s.heap (Heap.SameBut.refl a s.heap) ?_)
    unfold addL
    rw [if_pos hk]
    exact ⟨D, ho, F, r, led⟩
  · refine add_x ho F hk hb (h true _ (Heap.SameBut.update s.heap a _) ?_)
    unfold addL
    rw [if_neg hk]
    have sm := addTx_same (h := hashStr w k) (v := .str k u) r
    exact ⟨_, Froz.get_upd _ ho rfl, add_ok u F, sm.1, led.imp id fun z => sm.2.trans z⟩
theorem TxS.new {h : Heap} (ho : h.get? a = some { cls := .type "set", dict := none, data := .set #[] 0 (.fresh 0 0 (!w.params.followText "set-order")) }) : TxS P w h a [] :=
  ⟨(#[], 0, .fresh 0 0 (!w.params.followText "set-order")), ho, TxOk.nil (by rfl), List.Pairwise.nil, by
    show _ ∨ (!w.params.followText "set-order") = true
    cases w.params.followText "set-order"
    · exact .inr rfl
    · exact .inl rfl⟩
theorem loop_strs {I : Addr} {fp wr : List Addr} {G : Array GenState → Array GenState → Prop} {n : Nat} {Pv : Nat → Value → Prop} {St : Nat → Shared → Prop} {R : Result → Shared → Prop}
    (W : WalksS P w A.in1 I fp wr G n Pv St) (S : Addr) (hSf : S ∉ fp) (ks : List Str) (hn : n = ks.length) (hb : ks.length + 1 < scanBound) (hval : ∀ i v, Pv i v → ∃ k t, ks[i]? = some k ∧ v = .str k t) :
    ∀ (k i : Nat) (s : Shared), n - i = k → i ≤ n → St i s → TxS P w s.heap S (madeL (ks.take i)) → (∀ s', Moved (S :: wr) G s s' → TxS P w s'.heap S (madeL ks) → R (.ok (.ret .none)) s') →
      codeAny (model P w) A (.builtin "set.update.loop" ⟨[.ref S, .ref I], []⟩) R s := by
  have hSw : S ∉ wr := fun h => hSf (W.sub _ h)
  have up : ∀ b ∈ wr, b ∈ S :: wr := fun b hb => List.mem_cons_of_mem _ hb
  intro k
  induction k with
  | zero =>
    intro i s h1 h2 hst hS hR
    obtain rfl : i = n := by omega
    refine codeAny_builtin F.entry_set_update_loop ?_
    rw [Around.under_plainId F.plain_set_update_loop _]
    show wpAny _ A.in1 (pyNext (.ref I) >>= _) _ _ s
    refine wpAny_bind (W.done s _ _ hst fun s' hm => ?_)
    rw [List.take_of_length_le (by omega)] at hS
    exact wpAny_pure (hR s' (hm.mono up) (hS.at fun o e => hm.heap S o hSw e))
  | succ k ih =>
    intro i s h1 h2 hst hS hR
    have hlt : i < n := by omega
    refine codeAny_builtin F.entry_set_update_loop ?_
    rw [Around.under_plainId F.plain_set_update_loop _]
    show wpAny _ A.in1 (pyNext (.ref I) >>= _) _ _ s
    refine wpAny_bind (W.item i s _ _ hlt hst fun v s' hP hst' hm => ?_)
    obtain ⟨z, t, hz, rfl⟩ := hval i v hP
    show wpAny _ A.in1 (holding [Value.str z t] (setAdd S (.str z t)) >>= _) _ _ s'
    refine wpAny_bind (wpAny_holding ?_)
    unfold setAdd
    refine wpAny_holding (wpAny_bind ((PySem.strKind P w).pyHash (k := z) (is_str _ _) ?_))
    have hl := madeL_len (ks.take i)
    have hl2 : (ks.take i).length ≤ i := by rw [List.length_take]; omega
    refine put_x (s := { s' with toks := s'.toks + 1 }) (hS.at fun o e => hm.heap S o hSw e) (by omega) fun b h' sb R' => ?_
    have e : addL (madeL (ks.take i)) z = madeL (ks.take (i + 1)) := by
      rw [List.take_add_one, hz]
      exact (madeL_snoc _ _).symm
    rw [e] at R'
    refine wpAny_pure ⟨plainId_quiet F.plain_set_update_loop _, ih (i + 1) _ (by omega) hlt (W.frame _ s' _ _ hst' (Nat.le_succ _) fun b hb o e => ?_) R' fun s'' hm'' R'' => ?_⟩
    · exact (sb.2 b (fun h : b = S => hSf (h ▸ hb))).trans e
    · refine hR s'' (Moved.trans W.gtrans ((hm.mono up).then_heap (Nat.le_succ _) fun b o hb e => ?_) hm'') R''
      exact (sb.2 b (fun h : b = S => hb (h ▸ List.mem_cons_self))).trans e
end
end Mi
end

section
set_option linter.all false
set_option maxRecDepth 100000
set_option maxHeartbeats 1000000
set_option Elab.async false
/-! sorted(set(a list of texts)): the calls -/
namespace Mi
open PySem PySem.Spec L2 PyProof.Rows
open PySem.Froz (SD sObj tailTx addTx TxOk add_ok add_x is_str)
theorem perm_of_sub {α : Type} [DecidableEq α] : ∀ {l m : List α}, l.Nodup → (∀ x ∈ l, x ∈ m) → m.length = l.length → m.Perm l
  | [], m, _, _, h => by
    rw [List.eq_nil_of_length_eq_zero h]
  | x :: l, m, nd, sub, h => by
    obtain ⟨n1, n2⟩ := List.nodup_cons.mp nd
    have hx := sub x List.mem_cons_self
    have ih := perm_of_sub (l := l) (m := m.erase x) n2 (fun y hy => (List.mem_erase_of_ne (fun e : y = x => n1 (e ▸ hy))).2 (sub y (List.mem_cons_of_mem _ hy))) (by
      rw [List.length_erase_of_mem hx, h]
      simp)
    exact (List.perm_cons_erase hx).trans (ih.cons x)
section
variable {prog : Program} {w : World} {A : Around} {E : Value → Shared → Prop} {s : Shared}
theorem call_set_listT {l : Addr} {items : Array Value} (ns : List Str) {Q : Value → Shared → Prop} (hh : A.handled = none) (hl : s.heap.IsList l items) (hi : StrsAre items.toList ns) (hb : ns.length + 1 < scanBound)
    (h : ∀ (h' : Heap) (tk : Nat), TxS prog w h' s.heap.objs.size (madeL ns) → (∀ b o, s.heap.get? b = some o → h'.get? b = some o) → Q (.ref s.heap.objs.size) { s with heap := h', toks := tk }) :
    wpAny (model prog w) A (call (.type "set") [.ref l]) Q E s := by
  obtain ⟨ol, hol, _⟩ := id hl
  have hSl : s.heap.objs.size ≠ l := Nat.ne_of_gt (Heap.lt_size hol)
  have hS : (s.heap.push { cls := .type "set", data := .set #[] 0 (SetTable.fresh 0 0 !w.params.followText "set-order") }).get? s.heap.objs.size = some { cls := .type "set", data := .set #[] 0 (SetTable.fresh 0 0 !w.params.followText "set-order") } := Heap.get?_push_size _ rfl
  have hT : (Shared.mk (s.heap.push { cls := .type "set", data := .set #[] 0 (SetTable.fresh 0 0 !w.params.followText "set-order") }) s.gens s.drawn s.toks s.os).TypeIs (.ref s.heap.objs.size) "set" := ⟨_, hS, rfl⟩
  obtain ⟨c, tl, hmro⟩ := F.called_set.mro
  have hmade := F.called_set.made
  have hsub := F.called_set.sub
  refine wpAny_call (codeAny_of_tree ?_)
  refine wpAny_pure ⟨Code.quiet_builtin _ (by first | rfl | decide | kernel_rfl), codeAny_builtin F.entry_type_call ?_⟩
  rw [Around.under_plain (weight_type_call_type "set" [.ref l] []) rfl]
  have h1 := F.called_set.notType
  have h2 := F.called_set.canCreate
  have hct := F.typeCall_set_1 (Value.ref l)
  unfold Builtin.«type.__call__»
  dsimp only
  refine wpAny_ite_false h1 (wpAny_ite_false ?_ (wpAny_bind (wpAny_of_eq hct (wpAny_bind (wpAny_of_eq hmro (wpAny_ite_false rfl (wpAny_bind (wpAny_of_eq hmade (wpAny_bind (wpAny_pure (wpAny_bind (wpAny_holding (wpAny_call (codeAny_mono (code_set_led1 (E := E) (Value.ref l) (Q₁ := fun obj s₁ => obj = .ref s.heap.objs.size ∧ s₁ = { s with heap := s.heap.push { cls := .type "set", data := .set #[] 0 (SetTable.fresh 0 0 !w.params.followText "set-order") } }) ⟨rfl, rfl⟩) fun r s₁ hr => ?_))))))))))))))
  · rfl
  cases r with
  | error e => exact hr
  | ok fl =>
    cases fl with
    | ret v =>
      obtain ⟨rfl, rfl⟩ := hr
      have hli := F.called_set.init.lookup
      have hbi := F.called_set.init.bind (Value.ref s.heap.objs.size)
      refine wpAny_bind (wpAny_isInstance (b := true) hT (by first | exact hsub | kernel_rfl) (wpAny_ite_false rfl (wpAny_bind (wpAny_holding ?_))))
      unfold callSpecial?
      refine wpAny_bind (wpAny_specialOf hT hli ?_)
      dsimp only
      refine wpAny_holding (wpAny_bind (wpAny_of_eq hbi (wpAny_bind (wpAny_call (codeAny_mono (codeAny_call_builtin (R := wants (fun r s₂ => r = Value.none ∧ Q (.ref s.heap.objs.size) s₂) E) F.called_set.init.plain F.entry_set_init (check_set_init_1 hT ?_)) fun r s₁ hr => ?_)))))
      · have hl2 : (s.heap.push { cls := .type "set", data := .set #[] 0 (SetTable.fresh 0 0 !w.params.followText "set-order") }).IsList l items := hl.push _
        have hTl : (Shared.mk (s.heap.push { cls := .type "set", data := .set #[] 0 (SetTable.fresh 0 0 !w.params.followText "set-order") }) s.gens s.drawn s.toks s.os).TypeIs (.ref l) "list" := hl2.typeIs
        show wpAny _ _ (Builtin.«set.__init__» ⟨[.ref s.heap.objs.size, .ref l], []⟩) _ _ _
        simp only [Builtin.«set.__init__»]
        unfold noKeywords
        refine wpAny_bind (wpAny_ite_true rfl (wpAny_pure ?_))
        unfold typeNameOfCut shownTypeOf
        refine wpAny_bind (wpAny_bind (wpAny_bind (wpAny_typeOf hT (wpAny_ite_false rfl (wpAny_pure ?_)))))
        show wpAny _ _ (pure "set") _ _ _
        refine wpAny_pure (wpAny_bind ?_)
        show wpAny _ _ (pure ()) _ _ _
        refine wpAny_pure (wpAny_bind (wpAny_pure (wpAny_bind ?_)))
        unfold setUsed
        refine wpAny_bind (wpAny_setState_of hS rfl rfl (wpAny_pure (wpAny_ite_false rfl (wpAny_bind ?_))))
        unfold Builtin.Frozenset.updateFrom Builtin.Frozenset.isAnySet
        refine wpAny_bind (wpAny_bind (wpAny_isInstance (b := false) hTl F.sub_list_set ?_))
        show wpAny _ _ (isInstance (Value.ref l) (Value.type "frozenset")) _ _ _
        refine wpAny_isInstance (b := false) hTl F.sub_list_frozenset (wpAny_ite_false rfl (wpAny_bind (wpAny_typeOf hTl (wpAny_ite_false rfl (wpAny_bind (wpAny_pyIter_list hl2 (wpAny_bind (wpAny_runValue ?_))))))))
        dsimp only
        obtain ⟨h1, hh1⟩ : ∃ h1, h1 = s.heap.push { cls := .type "set", data := .set #[] 0 (SetTable.fresh 0 0 !w.params.followText "set-order") } := ⟨_, rfl⟩
        have hold : ∀ b o, s.heap.get? b = some o → h1.get? b = some o := fun b o e => by rw [hh1]; exact Heap.get?_push_of_some _ e
        rw [← hh1] at hS hl2 ⊢
        have hlt : s.heap.objs.size < h1.objs.size := Heap.lt_size hS
        have hlt2 : l < h1.objs.size := Nat.lt_trans (Heap.lt_size hol) hlt
        refine loop_strs (Walks.toS (Walks.list (A := A.in1.in1.in1) hh h1.objs.size l (Nat.ne_of_lt hlt2) items)) s.heap.objs.size ?_ ns ?_ hb ?_ _ 0 _ rfl (Nat.zero_le _) ⟨⟨_, Heap.get?_push_size _ rfl, rfl, rfl⟩, hl2.push _⟩ (TxS.new (Heap.get?_push_of_some _ hS)) fun s' hm hR => ?_
        · simp only [List.mem_cons, List.not_mem_nil, or_false, not_or]
          exact ⟨Nat.ne_of_lt hlt, hSl⟩
        · rw [← Array.length_toList]; exact StrsAre.length hi
        · intro i v hv
          have hi2 : i < ns.length := by
            obtain ⟨h3, _⟩ := Array.getElem?_eq_some_iff.mp hv
            rw [← StrsAre.length hi, Array.length_toList]
            exact h3
          obtain ⟨t, ht⟩ := SS.strs_at hi i v (by rw [Array.getElem?_toList]; exact hv)
          exact ⟨ns[i], t, List.getElem?_eq_getElem hi2, by rw [ht, List.getD_eq_getElem?_getD, List.getElem?_eq_getElem hi2]; rfl⟩
        · refine wpAny_pure (wpAny_pure ⟨rfl, ?_⟩)
          have := Moved.eq_with hm
          rw [this]
          refine h s'.heap s'.toks hR fun b o e => ?_
          have hbl := Heap.lt_size e
          exact hm.heap b o (by simp only [List.mem_cons, List.not_mem_nil, or_false, not_or]; exact ⟨Nat.ne_of_lt hbl, Nat.ne_of_lt (Nat.lt_trans hbl hlt)⟩) (Heap.get?_push_of_some _ (hold b o e))
      · cases r with
        | error e => exact hr
        | ok fl =>
          cases fl with
          | ret v => obtain ⟨rfl, hq⟩ := hr; exact wpAny_pure (wpAny_ite_false rfl (wpAny_pure hq))
          | _ => exact hr.elim
    | _ => exact hr.elim
theorem sorted_setT {a : Addr} {l : List Str} {Q : Value → Shared → Prop} (R : TxS prog w s.heap a l) (hd : l.Nodup) (hh : A.handled = none) (h64 : l.length < 64)
    (hQ : ∀ s' p (out : Array Value) (c : Nat) (ys : List Str), (∀ b o, s.heap.get? b = some o → s'.heap.get? b = some o) → s'.gens = s.gens → s'.os = s.os → s.heap.objs.size ≤ p →
      s'.heap.get? p = some (seqObj "list" out c) → StrsAre out.toList ys → ys.Perm l → sortedS ys = true → Q (.ref p) s') :
    wpAny (model prog w) A (call (.builtin "sorted") [.ref a]) Q E s := by
  obtain ⟨⟨es, ep, t⟩, ho, F, hr, hl⟩ := R
  have hb : es.size < scanBound := by
    have : es.size = l.length := F.sz
    have : (64 : Nat) < scanBound := by decide
    omega
  have hsz : es.size = l.length := F.sz
  have el : ElemsOf (PySem.strKind prog w) es.toList := F.el
  refine Calls.call_function_entry kind_sorted plain_sorted entry_sorted (args_sorted1 _) ?_
  unfold Builtin.«sorted»
  refine wpAny_bind (m := checkCount "sorted" 1 1 _) (wpAny_pure ?_)
  refine wpAny_bind (collect_set (A := A.in1) hh ⟨_, ho, rfl, rfl⟩ F.fit hb hr hl fun s1 vs k1 hz g1 o1 pm => ?_)
  have hvl : vs.length = l.length := by rw [pm.length_eq, List.length_map, Array.length_toList]; exact hsz
  have hS : StrsAre vs (vs.map strOf) := strsAre_map vs fun v hv => by
    obtain ⟨e, he, q⟩ := List.mem_map.mp (pm.mem_iff.mp hv)
    obtain ⟨⟨k, hk, _⟩, _⟩ := el e he
    obtain ⟨tk, h1⟩ := Value.isStrOf_shape hk
    exact ⟨k, tk, by rw [← q]; exact h1⟩
  have pk : (vs.map strOf).Perm l := by
    refine perm_of_sub hd (fun k hk => ?_) (by rw [List.length_map, hvl])
    obtain ⟨e, he, ee⟩ := (F.mem k).mp hk
    obtain ⟨tk, h1⟩ := Value.isStrOf_shape ee
    exact List.mem_map.mpr ⟨e.2, pm.mem_iff.mpr (List.mem_map.mpr ⟨e, he, rfl⟩), by rw [h1]; rfl⟩
  refine wpAny_bind (wpAny_newList ?_ (by rw [hvl, sizeLine_eq]; omega))
  have hoL : (s1.heap.push (seqObj "list" vs.toArray 0)).get? s1.heap.objs.size = some (seqObj "list" vs.toArray 0) := Heap.get?_push_size _ rfl
  refine wpAny_bind (wpAny_holding (wpAny_call_entry slot_list_sort ⟨_, hoL, rfl⟩ entry_list_sort (list_sort_treeK PyProof.Rows.strKind_oneLt hoL hS.keysOf (fun v₁ v₂ rest e => keyKind_strs (by rw [← e]; exact hS)) (by rw [hvl]; exact h64) fun st' a1 a2 => ?_) (args_list_sort _)))
  obtain ⟨ys, b1, b2, b3⟩ := sorted_out_str hS a1 a2
  refine ⟨_, rfl, ?_⟩
  obtain ⟨c, hc⟩ := sortedHeap_at (vs := vs) (out := (arrOf st').map (·.2)) hoL
  refine wpAny_pure ⟨_, rfl, hQ _ s1.heap.objs.size _ c ys (fun b u e => ?_) g1 o1 hz hc b1 (b2.trans pk) b3⟩
  have q := k1 b u e
  have hlt := Heap.lt_size q
  show (sortedHeap (s1.heap.push (seqObj "list" vs.toArray 0)) s1.heap.objs.size vs _).get? b = some u
  rw [sortedHeap_old (Nat.ne_of_lt hlt) (by rw [size_push']; exact Nat.lt_succ_of_lt hlt)]
  exact Heap.get?_push_of_some _ q
end
/-! ### the rules -/
def TxO (P : Program) (w : World) (a : Addr) (l : List Str) : HO := .ext fun h => TxS P w h a l
theorem txO_new {w : World} {P : Program} {H : Hp} {h : Heap} {a : Addr} {l : List Str} (R : TxS P w h a l) : ObjOk P w H h a (TxO P w a l) := by
  have ⟨_, ho, _⟩ := R
  exact ⟨R, ⟨_, ho⟩, fun h1 h2 p k => TxS.at p k⟩
def rSetS (K : PySem.W.Frag) (P : Program) (w : World) : List V → Hp → VK → Prop := fun xs H Q => ∃ (l : Addr) (ks : List Str), xs = [.ref l] ∧ SqL K H l (ks.map V.str) ∧ ks.length ≤ 1000 ∧ ∀ a, H a = none → Q (.ref a) (upd H a (TxO P w a (madeL ks)))
def rSortedTx (P : Program) (w : World) : List V → Hp → VK → Prop := fun vs H Q => ∃ (a : Addr) (l : List Str), vs = [V.ref a] ∧ H a = some (TxO P w a l) ∧ l.Nodup ∧ l.length < 64 ∧
  ∀ (ys : List Str) (p : Addr), ys.Perm l → sortedS ys = true → H p = none → Q (.ref p) (upd H p (.lst (ys.map V.str)))
section
variable {X : Cx}
theorem cr_setS (hc : X.calm = true) : CallR X (.type "set") (rSetS X.K X.prog X.w) := by
  intro pins s σ H xs us Q I r ⟨l, ks, e, hq, hlen, q⟩
  subst e
  obtain ⟨u, rfl, ru⟩ := vals_1 r
  cases (show u = Value.ref l from ru)
  obtain ⟨its, rv, p', hz⟩ := I.list hq
  have hi := Vals.strs rv
  refine call_set_listT ks (I.ok.hd hc) p'.isList (by simpa using hi) ?_ fun h' tk hS hk => ?_
  · exact Nat.lt_of_le_of_lt (Nat.succ_le_succ hlen) (by decide)
  refine ⟨.ref s.heap.objs.size, upd H s.heap.objs.size (TxO X.prog X.w s.heap.objs.size (madeL ks)), ?_, rfl, q _ (I.hok.fresh (Nat.le_refl _))⟩
  exact I.turnedNew (t' := tk) (ch := []) (fun b o _ e => hk b o e) (fun b hb => by cases hb) (Nat.le_refl _) (txO_new hS)
theorem cr_sortedTx (hc : X.calm = true) : CallR X (.builtin "sorted") (rSortedTx X.prog X.w) := by
  intro pins s σ H vs us Q I r h
  obtain ⟨a, l, rfl, ha, nd, h64, q⟩ := h
  have R : TxS X.prog X.w s.heap a l := (I.hok a _ ha).1
  rw [Vals.ref1 r]
  refine sorted_setT R nd (I.ok.hd hc) h64 fun s' p out c ys k g o hp hg hi pm so => ?_
  have hlen : (ys.map V.str).length ≤ sizeLine := by rw [List.length_map, pm.length_eq, sizeLine_eq]; omega
  have hn : H p = none := I.hok.fresh hp
  have J : Inv X pins σ (upd H p (.lst (ys.map V.str))) { s with heap := s'.heap, gens := s'.gens, drawn := s'.drawn, toks := s'.toks } :=
    I.call (ch := []) (Un.laid k hp hn) (I.hok.laid k hp ⟨hlen, out.toList, c, vals_of_strs hi, hg⟩) (by rw [g]; exact I.bare) (fun _ z => nomatch z)
  have e : s' = { s with heap := s'.heap, gens := s'.gens, drawn := s'.drawn, toks := s'.toks } := by
    cases s'
    cases s
    cases o
    rfl
  rw [e]
  exact ⟨.ref p, _, J, rfl, q ys p pm so hn⟩
theorem CallR.or {f : Value} {r r' : List V → Hp → VK → Prop} (h : CallR X f r) (h' : CallR X f r') : CallR X f (fun xs H Q => r xs H Q ∨ r' xs H Q) := by
  intro pins s σ H xs us Q I rv q
  rcases q with q | q
  · exact h pins s σ H xs us Q I rv q
  · exact h' pins s σ H xs us Q I rv q
end
end Mi
end

section
set_option linter.all false
set_option maxRecDepth 100000
set_option maxHeartbeats 1000000
set_option Elab.async false
/-! sorted(set(a list)) -/
namespace Mi
open PySem PySem.Spec L2 PyProof.Rows
section
variable {prog : Program} {w : World} {A : Around} {E : Value → Shared → Prop} {s : Shared}
theorem call_set_listI {l : Addr} {items : Array Value} (ns : List Int) {Q : Value → Shared → Prop} (hh : A.handled = none) (hl : s.heap.IsList l items) (hi : IntsAre items.toList ns) (hb : ns.length + 1 < scanBound)
    (h : ∀ (h' : Heap) (tk c : Nat), SetR w h' s.heap.objs.size (fun j => decide (j ∈ ns)) c → c ≤ ns.length → (∀ b o, s.heap.get? b = some o → h'.get? b = some o) → Q (.ref s.heap.objs.size) { s with heap := h', toks := tk }) :
    wpAny (model prog w) A (call (.type "set") [.ref l]) Q E s := by
  obtain ⟨ol, hol, _⟩ := id hl
  have hSl : s.heap.objs.size ≠ l := Nat.ne_of_gt (Heap.lt_size hol)
  have hS : (s.heap.push { cls := .type "set", data := .set #[] 0 (SetTable.fresh 0 0 !w.params.followText "set-order") }).get? s.heap.objs.size = some { cls := .type "set", data := .set #[] 0 (SetTable.fresh 0 0 !w.params.followText "set-order") } := Heap.get?_push_size _ rfl
  have hT : (Shared.mk (s.heap.push { cls := .type "set", data := .set #[] 0 (SetTable.fresh 0 0 !w.params.followText "set-order") }) s.gens s.drawn s.toks s.os).TypeIs (.ref s.heap.objs.size) "set" := ⟨_, hS, rfl⟩
  obtain ⟨c, tl, hmro⟩ := F.called_set.mro
  have hmade := F.called_set.made
  have hsub := F.called_set.sub
  refine wpAny_call (codeAny_of_tree ?_)
  refine wpAny_pure ⟨Code.quiet_builtin _ (by first | rfl | decide | kernel_rfl), codeAny_builtin F.entry_type_call ?_⟩
  rw [Around.under_plain (weight_type_call_type "set" [.ref l] []) rfl]
  have h1 := F.called_set.notType
  have h2 := F.called_set.canCreate
  have hct := F.typeCall_set_1 (Value.ref l)
  unfold Builtin.«type.__call__»
  dsimp only
  refine wpAny_ite_false h1 (wpAny_ite_false ?_ (wpAny_bind (wpAny_of_eq hct (wpAny_bind (wpAny_of_eq hmro (wpAny_ite_false rfl (wpAny_bind (wpAny_of_eq hmade (wpAny_bind (wpAny_pure (wpAny_bind (wpAny_holding (wpAny_call (codeAny_mono (code_set_led1 (E := E) (Value.ref l) (Q₁ := fun obj s₁ => obj = .ref s.heap.objs.size ∧ s₁ = { s with heap := s.heap.push { cls := .type "set", data := .set #[] 0 (SetTable.fresh 0 0 !w.params.followText "set-order") } }) ⟨rfl, rfl⟩) fun r s₁ hr => ?_))))))))))))))
  · rfl
  cases r with
  | error e => exact hr
  | ok fl =>
    cases fl with
    | ret v =>
      obtain ⟨rfl, rfl⟩ := hr
      have hli := F.called_set.init.lookup
      have hbi := F.called_set.init.bind (Value.ref s.heap.objs.size)
      refine wpAny_bind (wpAny_isInstance (b := true) hT (by first | exact hsub | kernel_rfl) (wpAny_ite_false rfl (wpAny_bind (wpAny_holding ?_))))
      unfold callSpecial?
      refine wpAny_bind (wpAny_specialOf hT hli ?_)
      dsimp only
      refine wpAny_holding (wpAny_bind (wpAny_of_eq hbi (wpAny_bind (wpAny_call (codeAny_mono (codeAny_call_builtin (R := wants (fun r s₂ => r = Value.none ∧ Q (.ref s.heap.objs.size) s₂) E) F.called_set.init.plain F.entry_set_init (check_set_init_1 hT ?_)) fun r s₁ hr => ?_)))))
      · have hl2 : (s.heap.push { cls := .type "set", data := .set #[] 0 (SetTable.fresh 0 0 !w.params.followText "set-order") }).IsList l items := hl.push _
        have hTl : (Shared.mk (s.heap.push { cls := .type "set", data := .set #[] 0 (SetTable.fresh 0 0 !w.params.followText "set-order") }) s.gens s.drawn s.toks s.os).TypeIs (.ref l) "list" := hl2.typeIs
        show wpAny _ _ (Builtin.«set.__init__» ⟨[.ref s.heap.objs.size, .ref l], []⟩) _ _ _
        simp only [Builtin.«set.__init__»]
        unfold noKeywords
        refine wpAny_bind (wpAny_ite_true rfl (wpAny_pure ?_))
        unfold typeNameOfCut shownTypeOf
        refine wpAny_bind (wpAny_bind (wpAny_bind (wpAny_typeOf hT (wpAny_ite_false rfl (wpAny_pure ?_)))))
        show wpAny _ _ (pure "set") _ _ _
        refine wpAny_pure (wpAny_bind ?_)
        show wpAny _ _ (pure ()) _ _ _
        refine wpAny_pure (wpAny_bind (wpAny_pure (wpAny_bind ?_)))
        unfold setUsed
        refine wpAny_bind (wpAny_setState_of hS rfl rfl (wpAny_pure (wpAny_ite_false rfl (wpAny_bind ?_))))
        unfold Builtin.Frozenset.updateFrom Builtin.Frozenset.isAnySet
        refine wpAny_bind (wpAny_bind (wpAny_isInstance (b := false) hTl F.sub_list_set ?_))
        show wpAny _ _ (isInstance (Value.ref l) (Value.type "frozenset")) _ _ _
        refine wpAny_isInstance (b := false) hTl F.sub_list_frozenset (wpAny_ite_false rfl (wpAny_bind (wpAny_typeOf hTl (wpAny_ite_false rfl (wpAny_bind (wpAny_pyIter_list hl2 (wpAny_bind (wpAny_runValue ?_))))))))
        dsimp only
        obtain ⟨h1, hh1⟩ : ∃ h1, h1 = s.heap.push { cls := .type "set", data := .set #[] 0 (SetTable.fresh 0 0 !w.params.followText "set-order") } := ⟨_, rfl⟩
        have hold : ∀ b o, s.heap.get? b = some o → h1.get? b = some o := fun b o e => by rw [hh1]; exact Heap.get?_push_of_some _ e
        rw [← hh1] at hS hl2 ⊢
        have hlt : s.heap.objs.size < h1.objs.size := Heap.lt_size hS
        have hlt2 : l < h1.objs.size := Nat.lt_trans (Heap.lt_size hol) hlt
        refine set_update_ints (Walks.toS (Walks.list (A := A.in1.in1.in1) hh h1.objs.size l (Nat.ne_of_lt hlt2) items)) s.heap.objs.size ?_ ns ?_ hb ?_ _ 0 _ rfl (Nat.zero_le _) ⟨⟨_, Heap.get?_push_size _ rfl, rfl, rfl⟩, hl2.push _⟩ ⟨0, Nat.le_refl _, setR_new_at (ns := ns) (Heap.get?_push_of_some _ hS)⟩ fun s' c hm hc hR => ?_
        · simp only [List.mem_cons, List.not_mem_nil, or_false, not_or]
          exact ⟨Nat.ne_of_lt hlt, hSl⟩
        · rw [← Array.length_toList]; exact IntsAre.length hi
        · intro i v hv
          have hi2 : i < ns.length := by
            obtain ⟨h3, _⟩ := Array.getElem?_eq_some_iff.mp hv
            rw [← IntsAre.length hi, Array.length_toList]
            exact h3
          obtain ⟨t, ht⟩ := IntsAre.get hi i ns[i] (List.getElem?_eq_getElem hi2)
          rw [Array.getElem?_toList, hv] at ht
          cases ht
          exact ⟨ns[i], t, List.getElem?_eq_getElem hi2, rfl⟩
        · refine wpAny_pure (wpAny_pure ⟨rfl, ?_⟩)
          have := Moved.eq_with hm
          rw [this]
          have hlen : items.size = ns.length := by rw [← Array.length_toList]; exact IntsAre.length hi
          refine h s'.heap s'.toks c hR (by omega) fun b o e => ?_
          have hbl := Heap.lt_size e
          exact hm.heap b o (by simp only [List.mem_cons, List.not_mem_nil, or_false, not_or]; exact ⟨Nat.ne_of_lt hbl, Nat.ne_of_lt (Nat.lt_trans hbl hlt)⟩) (Heap.get?_push_of_some _ (hold b o e))
      · cases r with
        | error e => exact hr
        | ok fl =>
          cases fl with
          | ret v => obtain ⟨rfl, hq⟩ := hr; exact wpAny_pure (wpAny_ite_false rfl (wpAny_pure hq))
          | _ => exact hr.elim
    | _ => exact hr.elim
end
end Mi
namespace Mi
open PySem PySem.Spec L2
open PyProof.Rows hiding St
theorem mem_dedup {α : Type} [DecidableEq α] {a : α} : ∀ {l : List α}, a ∈ dedup l ↔ a ∈ l
  | [] => by simp [dedup]
  | b :: r => by
    unfold dedup
    split
    · rename_i h
      rw [mem_dedup (l := r), List.mem_cons]
      exact ⟨.inr, fun h' => h'.elim (fun e => e ▸ h) id⟩
    · rw [List.mem_cons, List.mem_cons, mem_dedup (l := r)]
theorem nodup_dedup {α : Type} [DecidableEq α] : ∀ l : List α, (dedup l).Nodup
  | [] => List.nodup_nil
  | b :: r => by
    unfold dedup
    split
    · exact nodup_dedup r
    · rename_i h
      exact List.nodup_cons.mpr ⟨fun h' => h (mem_dedup.mp h'), nodup_dedup r⟩
theorem perm_of_nd {α : Type} [DecidableEq α] {l m : List α} (h1 : l.Nodup) (h2 : m.Nodup) (h : ∀ a, a ∈ l ↔ a ∈ m) : l.Perm m := (List.perm_ext_iff_of_nodup h1 h2).mpr h
theorem nodup_mapsx {l : List Tx} (h : l.Nodup) : (l.map sx).Nodup := by
  refine List.pairwise_map.mpr (h.imp fun {a b} hab e => hab (sx_inj e))
def rSetI (K : PySem.W.Frag) (w : World) : List V → Hp → VK → Prop := fun xs H Q => ∃ (l : Addr) (ns : List Int), xs = [.ref l] ∧ SqL K H l (ns.map V.int) ∧ ns.length ≤ 1000 ∧ ∀ a, H a = none → Q (.ref a) (upd H a (SetO w a (fun j => decide (j ∈ ns)) (dedup ns).length))
section
variable {X : Cx} {Z : Cz} {C : Cf}
theorem cr_setI (hc : X.calm = true) : CallR X (.type "set") (rSetI X.K X.w) := by
  intro pins s σ H xs us Q I r ⟨l, ns, e, hq, hlen, q⟩
  subst e
  obtain ⟨u, rfl, ru⟩ := vals_1 r
  cases (show u = Value.ref l from ru)
  obtain ⟨its, rv, p', hz⟩ := I.list hq
  have hi := ints_of_vals rv
  refine call_set_listI ns (I.ok.hd hc) p'.isList (by simpa using hi) ?_ fun h' tk c hS hc' hk => ?_
  · exact Nat.lt_of_le_of_lt (Nat.succ_le_succ hlen) (by decide)
  have hcl : c = (dedup ns).length := by
    obtain ⟨o, es, ep, t, _, _, _, _, nd, mem, _, _, es', _⟩ := id hS
    rw [← es', ← Array.length_toList, ← List.length_map (f := keyOf)]
    refine (perm_of_nd nd (nodup_dedup ns) fun k => ?_).length_eq
    rw [← mem k, mem_dedup]
    simp
  subst hcl
  refine ⟨.ref s.heap.objs.size, upd H s.heap.objs.size (SetO X.w s.heap.objs.size (fun j => decide (j ∈ ns)) (dedup ns).length), ?_, rfl, q _ (I.hok.fresh (Nat.le_refl _))⟩
  exact I.turnedNew (t' := tk) (ch := []) (fun b o _ e => hk b o e) (fun b hb => by cases hb) (Nat.le_refl _) (setO_new hS)
theorem w_boot_set : bootBuiltins "set" = some (.type "set") := by decide +kernel
theorem e_sortset {x : Ex} {a : Expr} {p p2 pos pos2 : Pos} (hz : Z.K = X.K) (hc : X.calm = true) (hg : Gl X "sorted") (hm : X.mg "sorted" = none) (hg2 : Gl X "set") (hm2 : X.mg "set" = none) (he : PE X a (L Z (ev C x)))
    (hs : starEach [a] X.env = (false, eval a X.env) :: starEach [] X.env := by rfl)
    (hs2 : starEach [.Call (.Name "set" p2) [a] [] pos2] X.env = (false, eval (.Call (.Name "set" p2) [a] [] pos2) X.env) :: starEach [] X.env := by rfl) :
    PE X (.Call (.Name "sorted" p) [.Call (.Name "set" p2) [a] [] pos2] [] pos) (L Z (ev C (.b1 .sortset x))) :=
  PE_imp (pe_callB ((cr_sortedSet hc).or (cr_sortedTx hc)) hg hm w_boot_sorted (pa_cons (pe_callTy ((cr_setI hc).or (cr_setS hc)) hg2 hm2 w_boot_set (pa_cons he pa_nil hs) (by decide +kernel) (by decide +kernel) hs rfl) pa_nil hs2) (by decide +kernel) (by decide +kernel) hs2 rfl) fun σ H Q h => L_bind (m := ev C x) (f := fun ε d S => b1 .sortset d S) h fun ρ ε S d v H1 re rs rv p => by
    obtain ⟨K, T, W, u⟩ := Z
    have hz : K = X.K := hz
    subst hz
    cases d with
    | ref l =>
      have p' : Post X.K T W (rV X.K) ρ σ H1 (b1 .sortset (.ref l) S) Q := p
      simp only [b1] at p'
      cases h1 : S.seq l with
      | some ds =>
        rw [h1] at p'
        obtain ⟨a, xs, e1, e2, e3⟩ := seq_of rs h1 rv
        subst e1
        dsimp only at p'
        split at p'
        · rename_i es hs
          unfold sortSetD at hs
          split at hs
          · rename_i ns hn
            split at hs
            · rename_i h64
              cases hs
              have hd := numsOf_eq hn
              subst hd
              have hx := sort_listI e3
              subst hx
              refine .inl ⟨a, ns, rfl, e2, by simpa [ofI] using h64.1, fun q hq => .inl ⟨q, _, _, rfl, upd_same, h64.2, fun ks r pw mem hl hr => ?_⟩⟩
              have hk : ks = sortI (dedup ns) := sortI_eq (perm_of_nd (pw.imp (fun h => by omega)) (nodup_dedup ns) fun k => by rw [mem k, mem_dedup]; simp) (pw.imp (fun h => by omega))
              subst hk
              exact Post.ok' p' ((Gu.aside hq).trans (Gu.fresh hr)) ((rs.aside hq).fresh hr (RO.lst_new hr (RVs_iff.mp RVs.of_ints))) ⟨r, fresh_at rs, rfl⟩
            · cases hs
          · split at hs
            · rename_i ts hn
              split at hs
              · rename_i h64
                cases hs
                have hd := txtsOf_eq hn
                subst hd
                have hx := sort_list e3
                subst hx
                have pm0 : (madeL (ts.map sx)).Perm ((dedup ts).map sx) := perm_of_nd (madeL_nodup _) (nodup_mapsx (nodup_dedup ts)) fun k => by
                  rw [madeL_mem, List.mem_map, List.mem_map]
                  exact ⟨fun ⟨t, h1, h2⟩ => ⟨t, mem_dedup.mpr h1, h2⟩, fun ⟨t, h1, h2⟩ => ⟨t, mem_dedup.mp h1, h2⟩⟩
                have hl0 := pm0.length_eq
                rw [List.length_map] at hl0
                refine .inr ⟨a, ts.map sx, rfl, e2, by simpa [ofT] using h64.1, fun q hq => .inr ⟨q, _, rfl, upd_same, madeL_nodup _, by rw [hl0]; exact h64.2, fun ys r pm so hr => ?_⟩⟩
                obtain ⟨k, rfl, pm'⟩ := perm_sx (pm.trans pm0)
                have := sortT_eq pm' (sortedS_pw so)
                subst this
                exact Post.ok' p' ((Gu.aside hq).trans (Gu.fresh hr)) ((rs.aside hq).fresh hr (RO.lst_new hr (RVs_iff.mp RVs.of_txts))) ⟨r, fresh_at rs, rfl⟩
              · cases hs
            · cases hs
        · exact p'.elim
      | none => rw [h1] at p'; exact p'.elim
    | _ => exact (show False from p).elim
end
end Mi
end

section
set_option linter.all false
set_option maxRecDepth 100000
set_option Elab.async false
/-! from the head's facts to what the derivations lean on -/
namespace Mi
open PySem PySem.Spec L2
open PyProof.Rows hiding St
section
variable {K : PySem.W.Frag} {h : Heap} {mg : Str → Option Value} {w : World}
theorem gc_int (X : K.In h) (G : h.Ns mainGlobals mg) {x : Str} {i : Int} {c : Gc} (f : (He.Fa.int x i).ok K = true) (e : gval c = .int i) : GcOk K mg c x := by
  obtain ⟨t, m⟩ := He.int_ok X G f
  refine ⟨_, .int i, m, ⟨t, rfl⟩, fun ρ H => ?_⟩
  rw [e]
  rfl
theorem gc_str (X : K.In h) (G : h.Ns mainGlobals mg) {x z : Str} {t : Tx} {c : Gc} (f : (He.Fa.str x z).ok K = true) (e : gval c = .str t) (ez : z = sx t) : GcOk K mg c x := by
  obtain ⟨k, m⟩ := He.str_ok X G f
  refine ⟨_, .str z, m, ⟨k, rfl⟩, fun ρ H => ?_⟩
  rw [e, ez]
  rfl
theorem gc_tup (X : K.In h) (G : h.Ns mainGlobals mg) {x a b : Str} {t u : Tx} {c : Gc} (g : (He.Fa.glo x).ok K = true) (f : He.tupB K x [.str a, .str b] = true) (e : gval c = .tup [.str t, .str u]) (ea : a = sx t) (eb : b = sx u) : GcOk K mg c x := by
  refine ⟨_, .ref (He.ga K x), He.glo_ok X G g, rfl, fun ρ H => ?_⟩
  rw [e]
  refine ⟨_, _, rfl, He.tupB_ok f H, ?_⟩
  subst ea eb
  exact .cons rfl (.cons rfl rfl)
theorem rxk {T : GA} {c : Ec} {n : Str} (X : K.In h) (G : h.Ns mainGlobals mg) (g : (He.Fa.glo n).ok K = true) (e : (He.Fa.exc n).ok K = true) (hT : T.ea c = He.ga K n) : RxK K T mg c n := by
  obtain ⟨e1, e2, e3, e4⟩ := He.exc_ok e
  exact ⟨by rw [hT]; exact He.glo_ok X G g, by rw [hT]; exact e1, by rw [hT]; exact e2, by rw [hT]; exact e3, by rw [hT]; exact e4⟩
theorem excB_ok {D : Addr} (h : excB K D = true) : ExcC K D := by
  unfold excB at h
  simp only [Bool.and_eq_true, decide_eq_true_eq] at h
  obtain ⟨⟨⟨⟨⟨⟨⟨h1, h2⟩, h3⟩, h4⟩, h5⟩, h6⟩, h7⟩, h8⟩ := h
  exact ⟨h1, h2, h3, h4, h5, h6, h7, h8⟩
theorem fdk {T : GA} {c : Cl} {f : Fd} {C : Str} (a : (He.Fa.cls C).ok K = true) (b : (He.Fa.noat C (fstr f)).ok K = true) (hT : T.ca c = He.ga K C) : FdOk K T c f :=
  ⟨by rw [hT]; exact He.cls_ok a, by rw [hT]; exact He.noat_ok b⟩
/-! ### PARTS -/
theorem entB_ok {e : DictEntry} {k : Str} {i : Int} (h : entB e k i = true) : ∃ t u, e.key = .str k t ∧ e.val = .int i u := by
  unfold entB at h
  split at h
  · rename_i x t j u e1 e2
    obtain ⟨h1, h2⟩ := He.ba h
    have h1 := of_decide_eq_true h1
    have h2 := of_decide_eq_true h2
    subst h1 h2
    exact ⟨t, u, e1, e2⟩
  · cases h
theorem parts_ok (X : K.In h) (G : h.Ns mainGlobals mg) {n : Str} (g : (He.Fa.glo n).ok K = true) (D : ∃ es m, KDict K w (He.ga K n) es m) (b : partsB K (He.ga K n) = true) : PartsOk K w mg n := by
  obtain ⟨es, m, D⟩ := D
  refine ⟨_, es, m, He.glo_ok X G g, D, fun t => ?_⟩
  unfold partsB at b
  unfold PySem.W.nsIn
  split at b
  · rename_i oc od es' n' osl lk
    split at b
    · rename_i e1 e2 e3 e4 el
      obtain ⟨b, h4⟩ := He.ba b
      obtain ⟨b, h3⟩ := He.ba b
      obtain ⟨h1, h2⟩ := He.ba b
      obtain ⟨t1, u1, k1, v1⟩ := entB_ok h1
      have k1 : e1.key = .str (sx [97, 100, 100]) t1 := k1
      obtain ⟨t2, u2, k2, v2⟩ := entB_ok h2
      have k2 : e2.key = .str (sx [115, 117, 98]) t2 := k2
      obtain ⟨t3, u3, k3, v3⟩ := entB_ok h3
      have k3 : e3.key = .str (sx [109, 117, 108]) t3 := k3
      obtain ⟨t4, u4, k4, v4⟩ := entB_ok h4
      have k4 : e4.key = .str (sx [112, 105, 99, 107]) t4 := k4
      rw [lk]
      dsimp only
      rw [el]
      have is : ∀ (e : DictEntry) (k : Tx) (tk : Tok), e.key = .str (sx k) tk → e.key.isStr (sx t) = decide (t = k) := fun e k tk q => by
        rw [q]
        show (sx k == sx t) = _
        by_cases hh : t = k
        · subst hh; simp
        · rw [decide_eq_false hh]
          exact beq_eq_false_iff_ne.mpr fun z => hh (sx_inj z).symm
      have nr : ∀ (e : DictEntry) (k : Str) (tk : Tok), e.key = .str k tk → e.refKey = false := fun e k tk q => by
        unfold DictEntry.refKey
        rw [q]
      simp only [List.find?_cons, List.find?_nil, is e1 _ _ k1, is e2 _ _ k2, is e3 _ _ k3, is e4 _ _ k4, List.any_cons, List.any_nil, nr e1 _ _ k1, nr e2 _ _ k2, nr e3 _ _ k3, nr e4 _ _ k4]
      unfold partsOf
      by_cases q1 : t = [97, 100, 100]
      · subst q1; exact ⟨_, rfl, u1, by rw [v1]⟩
      by_cases q2 : t = [115, 117, 98]
      · subst q2; exact ⟨_, rfl, u2, by rw [v2]⟩
      by_cases q3 : t = [109, 117, 108]
      · subst q3; exact ⟨_, rfl, u3, by rw [v3]⟩
      by_cases q4 : t = [112, 105, 99, 107]
      · subst q4; exact ⟨_, rfl, u4, by rw [v4]⟩
      simp only [q1, q2, q3, q4, decide_false, if_false]
      exact ⟨_, rfl, rfl⟩
    · cases b
  · cases b
/-! ### no list among the module's own objects -/
theorem script_frz {H : Hp} {a : Addr} {xs : List V} (n : noLst K = true) (hO : Only H) (hS : SqL K H a xs) : ∃ o, H a = some (.frz o (.lst xs)) := by
  rcases hS with hS | ⟨o, its, m, lk, hc, _⟩
  · rcases hS with e | ⟨o, e⟩
    · rcases hO a with z | ⟨o, ys, z⟩ <;> rw [e] at z <;> cases z
    · exact ⟨o, e⟩
  · have z := List.all_eq_true.mp n _ (He.lookup_mem lk)
    have z : (match o.cls with
      | .type c => !decide (c = "list")
      | _ => true) = true := z
    rw [hc] at z
    cases z
theorem spM_script {T : GA} {cf : List D → Sto → Res D} {H : Hp} {a : Addr} {ns : List Int} {S : Sto} (n : noLst K = true) (hO : Only H) (hS : SqL K H a (ns.map V.int)) (h : cf [.ref 0] [.frl (ofI ns)] = .ok (.bl true) S) :
    spM K T cf [.ref a] H (fun v _ => v = .bl true) fun _ _ _ => False := by
  obtain ⟨o, e⟩ := script_frz n hO hS
  refine ⟨[a], [.ref 0], [.frl (ofI ns)], ⟨rfl, by simp, fun l ob b h1 h2 => ?_⟩, .one ⟨a, rfl, rfl⟩, ?_⟩
  · cases l with
    | zero =>
      cases h1
      cases h2
      exact ⟨o, _, e, RVs_iff.mp RVs.of_ints⟩
    | succ l => cases h1
  · rw [h]
    exact fun ρ' H' b _ _ q => q
end
/-! ### defs at a level -/
section
variable {P : Program} {w : World} {K : PySem.W.Frag} {T : GA} {mg : Str → Option Value} {base : Heap} {k : Nat}
/-- a def, at a level -/
def AtL (P : Program) (w : World) (K : PySem.W.Frag) (T : GA) (mg : Str → Option Value) (base : Heap) (g : Fn) (d : He.DefD) (ps : List Str) (k : Nat) : Prop :=
  ∃ fd, FunD K d.name d.qual d.params d.body d.scope [] [] (He.fAd K d.at_) fd ∧ FnT P w K mg base (L2.CX P w) k (He.fAd K d.at_) fd ps (spM K T (callF false k g))
theorem AtL.zero {g : Fn} {d : He.DefD} {ps : List Str} (F : ∃ fd, FunD K d.name d.qual d.params d.body d.scope [] [] (He.fAd K d.at_) fd) : AtL P w K T mg base g d ps 0 := by
  obtain ⟨fd, F⟩ := F
  exact ⟨fd, F, FnT_bad⟩
theorem AtL.one {g : Fn} {d : He.DefD} {ps : List Str} (F : ∃ fd, FunD K d.name d.qual d.params d.body d.scope [] [] (He.fAd K d.at_) fd) : AtL P w K T mg base g d ps 1 := by
  obtain ⟨fd, F⟩ := F
  exact ⟨fd, F, FnT_bad⟩
/-- the arguments of a def of these parameters alone -/
def BindsP (d : He.DefD) (ps : List Str) : Prop := ∀ (kV doc pm : Value) (an : Option Addr) (cdv ct : Value) (us : List Value), us.length = ps.length → bindArgs (PySem.W.fnOf d.name d.qual d.params d.body d.scope .none kV doc pm an cdv ct) ⟨us, []⟩ = pure (ps.zip us)
theorem AtL.fn {g : Fn} {d : He.DefD} {ps : List Str} {n : Str} {h : Heap} (A : AtL P w K T mg base g d ps k) (X : K.In h) (G : h.Ns mainGlobals mg) (f : (He.Fa.glo n).ok K = true) (b : BindsP d ps) (e : d.at_ = (n, none)) : FnC P w K T mg base k (callF false k g) n := by
  obtain ⟨fd, F, FT⟩ := A
  refine ⟨_, fd, ps, He.glo_ok X G f, ?_, F.bindsN b, ?_⟩
  · have := F.kp
    rw [e] at this
    exact this
  · rw [e] at FT
    exact FT
theorem AtL.mt {g : Fn} {d : He.DefD} {ps : List Str} {n C : Str} {c : Cl} (A : AtL P w K T mg base g d ps k) (f : (He.Fa.cls C).ok K = true) (f2 : (He.Fa.meth C n).ok K = true) (hn : ∀ fl, fstr fl ≠ n) (b : BindsP d ps) (e : d.at_ = (C, some n)) (hT : T.ca c = He.ga K C) : MtC P w K T mg base k (callF false k g) c n := by
  obtain ⟨fd, F, FT⟩ := A
  refine ⟨_, fd, ps, by rw [hT]; exact He.cls_ok f, by rw [hT]; exact He.meth_ok f2, hn, F.bindsN b, ?_⟩
  rw [e] at FT
  exact FT
theorem AtL.mk {g : Fn} {d : He.DefD} {ps : List Str} {C : Str} {c : Cl} {h : Heap} (A : AtL P w K T mg base g d ps k) (X : K.In h) (G : h.Ns mainGlobals mg) (f : (He.Fa.glo C).ok K = true) (f2 : (He.Fa.mkr C).ok K = true) (b : BindsP d ps) (e : d.at_ = (C, some ("__init__" : Str))) (hT : T.ca c = He.ga K C) : MkC P w K T mg base k (callF false k g) c C := by
  obtain ⟨fd, F, FT⟩ := A
  refine ⟨_, fd, ps, by rw [hT]; exact He.glo_ok X G f, by rw [hT]; exact He.mkr_ok f2, F.bindsN b, ?_⟩
  rw [e] at FT
  exact FT
/-- the same, its exceptions' context told -/
def AtLN (P : Program) (w : World) (K : PySem.W.Frag) (T : GA) (mg : Str → Option Value) (base : Heap) (g : Fn) (d : He.DefD) (ps : List Str) (k : Nat) : Prop :=
  ∃ fd, FunD K d.name d.qual d.params d.body d.scope [] [] (He.fAd K d.at_) fd ∧ FnT P w K mg base (L2N.CX P w) k (He.fAd K d.at_) fd ps (spM K T (callF false k g))
theorem AtLN.zero {g : Fn} {d : He.DefD} {ps : List Str} (F : ∃ fd, FunD K d.name d.qual d.params d.body d.scope [] [] (He.fAd K d.at_) fd) : AtLN P w K T mg base g d ps 0 := by
  obtain ⟨fd, F⟩ := F
  exact ⟨fd, F, FnT_badN⟩
theorem AtLN.one {g : Fn} {d : He.DefD} {ps : List Str} (F : ∃ fd, FunD K d.name d.qual d.params d.body d.scope [] [] (He.fAd K d.at_) fd) : AtLN P w K T mg base g d ps 1 := by
  obtain ⟨fd, F⟩ := F
  exact ⟨fd, F, FnT_badN⟩
theorem AtLN.fn {g : Fn} {d : He.DefD} {ps : List Str} {n : Str} {h : Heap} (A : AtLN P w K T mg base g d ps k) (X : K.In h) (G : h.Ns mainGlobals mg) (f : (He.Fa.glo n).ok K = true) (b : BindsP d ps) (e : d.at_ = (n, none)) : FnCN P w K T mg base k (callF false k g) n := by
  obtain ⟨fd, F, FT⟩ := A
  refine ⟨_, fd, ps, He.glo_ok X G f, ?_, F.bindsN b, ?_⟩
  · have := F.kp
    rw [e] at this
    exact this
  · rw [e] at FT
    exact FT
theorem lev2 {A : Nat → Prop} (h0 : A 0) (h1 : A 1) (hs : ∀ k, A k → A (k + 1) → A (k + 2)) (k : Nat) : A k := by
  have : A k ∧ A (k + 1) := by
    induction k with
    | zero => exact ⟨h0, h1⟩
    | succ k ih => exact ⟨ih.2, hs k ih.1 ih.2⟩
  exact this.1
end
/-! ### the walk's end -/
theorem walk_M {l : PySem.W.OpenLaw} {n k : Nat} {q : Program} {loose : List Str} {XP : (Str → Option Value) → Heap → Prop} {YP : World → Heap → Prop} {d : DefRec} {x : Str}
    (hn : l.most = some n) (hn2 : n ≤ sizeLine) (hdf : d.params.defaults = []) (hr : Room k callerA)
    (F : ∀ (w : World) (mg : Str → Option Value) (fa : Addr) (h : Heap), YP w h → h.Ns mainGlobals mg → mg d.name = some (.ref fa) →
      ∃ (K : PySem.W.Frag) (fd : FuncData) (sp : Sp), K.In h ∧ (∀ (s : Shared) (u : Value), BindsTo s fd ⟨[u], []⟩ [(x, u)]) ∧
        (∀ (H : Hp) (a : Addr) (ns : List Int), ns.length ≤ n → Only H → SqL K H a (ns.map V.int) → sp [.ref a] H (fun v _ => v = .bl true) fun _ _ _ => False) ∧
        ∀ base : Heap, K.In base → base.Ns mainGlobals mg → FnOk l.prog w K mg base (L2.CX l.prog w) k fa fd [x] sp) :
    PySem.W.WalkO q loose XP YP l.row.toRowW d [] (fun f vs => PySem.call f vs) := by
  refine Att.attach_call hn hdf fun w s₀ s₁ mg mb fa o pm cd doc a vs ns G Y ho hd hcd hmg hobj hints hlen hg => ?_
  obtain ⟨K, fd, sp, KX, hb, hsp, hF⟩ := F w mg fa _ Y G.T.g hmg
  exact law_call KX G.T.g G.T.b G.T.builtins G.T.nolimit hg hobj hints (Nat.le_trans hlen hn2) hr hF hb (fun H hO hS => hsp H a ns hlen hO hS) fun H e s' h => by
    obtain ⟨_, _, _, _, _, _, _, _, _, _, _, _, z⟩ := h
    exact z
end Mi
end

section
set_option Elab.async false
set_option linter.all false
set_option maxRecDepth 100000
set_option maxHeartbeats 0
namespace Mi
open PySem PySem.Spec L2
open PyProof.Rows hiding St
structure Fx (P : Program) (w : World) (K : PySem.W.Frag) (T : GA) (mg : Str → Option Value) : Prop where
  excE_BadFormula : ∀ c', c' ≠ .note → ExcC K (T.ea c') ∧ PySem.W.kitOne K (.ref (T.ea c')) (.ref (T.ea .form)) = some (Ec.sub c' .form)
  excE_NoCell : ∀ c', c' ≠ .note → ExcC K (T.ea c') ∧ PySem.W.kitOne K (.ref (T.ea c')) (.ref (T.ea .cell)) = some (Ec.sub c' .cell)
  excVE_ValueError : ∀ c', c' ≠ .note → ExcC K (T.ea c') ∧ PySem.W.kitOne K (.ref (T.ea c')) (.type "ValueError") = some true
  exm_NoCell : ∀ c', PySem.W.exmOne K (.ref (T.ea c')) (.ref (T.ea .cell)) = some (Ec.sub c' .cell)
  exm_TableError : ∀ c', PySem.W.exmOne K (.ref (T.ea c')) (.ref (T.ea .table)) = some (Ec.sub c' .table)
  fd_reader_at : FdOk K T .reader .at_
  fd_reader_words : FdOk K T .reader .words
  free_ValueError : mg "ValueError" = none
  free_abs : mg "abs" = none
  free_bool : mg "bool" = none
  free_int : mg "int" = none
  free_isinstance : mg "isinstance" = none
  free_len : mg "len" = none
  free_list : mg "list" = none
  free_range : mg "range" = none
  free_sorted : mg "sorted" = none
  free_str : mg "str" = none
  free_tuple : mg "tuple" = none
  g_COLUMNS : GcOk K mg .columns "COLUMNS"
  g_FIGURES : GcOk K mg .figures "FIGURES"
  g_MOST_DEEP : GcOk K mg .mostDeep "MOST_DEEP"
  g_MOST_FIGURES : GcOk K mg .mostFigures "MOST_FIGURES"
  g_ROWS : GcOk K mg .rows "ROWS"
  parts_PARTS : PartsOk K w mg "PARTS"
  rmg_BadFormula : mg "BadFormula" = some (.ref (T.ea .form))
  rmg_NoCell : mg "NoCell" = some (.ref (T.ea .cell))
  rmg_TableError : mg "TableError" = some (.ref (T.ea .table))
  rx_BadFormula : RxK K T mg .form "BadFormula"
  rx_NoCell : RxK K T mg .cell "NoCell"
structure Lv (P : Program) (w : World) (K : PySem.W.Frag) (T : GA) (mg : Str → Option Value) (base : Heap) (k : Nat) : Prop where
  fn_law_alike : FnC P w K T mg base (k + 1) (callF false (k + 1) .l_alike) "_law_alike"
  fn_law_begun : FnC P w K T mg base (k + 1) (callF false (k + 1) .l_begun) "_law_begun"
  fn_law_cell : FnC P w K T mg base (k + 1) (callF false (k + 1) .l_cell) "_law_cell"
  fn_law_content : FnC P w K T mg base (k + 1) (callF false (k + 1) .l_content) "_law_content"
  fn_law_deep : FnC P w K T mg base (k + 1) (callF false (k + 1) .l_deep) "_law_deep"
  fn_law_good : FnC P w K T mg base (k + 1) (callF false (k + 1) .l_good) "_law_good"
  fn_law_good_cell : FnC P w K T mg base (k + 1) (callF false (k + 1) .l_good_cell) "_law_good_cell"
  fn_law_part : FnC P w K T mg base (k + 1) (callF false (k + 1) .l_part) "_law_part"
  fn_law_part_text : FnC P w K T mg base (k + 1) (callF false (k + 1) .l_part_text) "_law_part_text"
  fn_law_reads : FnC P w K T mg base (k + 1) (callF false (k + 1) .l_reads) "_law_reads"
  fn_law_stretch : FnC P w K T mg base (k + 1) (callF false (k + 1) .l_stretch) "_law_stretch"
  fn_law_take : FnC P w K T mg base (k + 1) (callF false (k + 1) .l_take) "_law_take"
  fn_law_text : FnC P w K T mg base (k + 1) (callF false (k + 1) .l_text) "_law_text"
  fn_law_text_of : FnC P w K T mg base (k + 1) (callF false (k + 1) .l_text_of_k03) "_law_text_of"
  fn_number_of : FnC P w K T mg base (k + 1) (callF false (k + 1) .number_of) "number_of"
  fn_read : FnC P w K T mg base (k + 1) (callF false (k + 1) .read) "read"
  fnN_need_cell : FnCN P w K T mg base (k + 1) (callF false (k + 1) .need_cell) "need_cell"
  mk_Reader : MkC P w K T mg base k (callF false k (initOf .reader)) .reader "Reader"
  mt_cell : MtC P w K T mg base (k + 1) (callF false (k + 1) .rd_cell) (clsOf .rd_cell) "cell"
  mt_part : MtC P w K T mg base (k + 1) (callF false (k + 1) .rd_part) (clsOf .rd_part) "part"
  mt_word : MtC P w K T mg base (k + 1) (callF false (k + 1) .rd_word) (clsOf .rd_word) "word"
def n_need_cell : List Str := ["cell"]
theorem sc_need_cell : FnScope n_need_cell ["cell"] (defScope (top 7)) := ⟨rfl, rfl, rfl, by decide +kernel, rfl, by decide +kernel, by decide +kernel⟩
theorem ok_need_cell {P : Program} {w : World} {K : PySem.W.Frag} {T : GA} {mg : Str → Option Value} {base : Heap} {k : Nat} {f : Addr} {fd : FuncData} (F : FnP K "need_cell" "need_cell" (top 7) f fd) (fx : Fx P w K T mg) (lv : Lv P w K T mg base k) :
    FnT P w K mg base (L2.CX P w) (k + 2) f fd ["cell"] (spM K T (callF false (k + 2) .need_cell)) := by
  refine fn_M F sc_need_cell (b := b_need_cell) rfl fun cdv A outer s H E hr tk tf fr po => ?_
  have nd := (sc_need_cell).nd
  have hu := hr.units
  have hcold : (cOf false k).hot = false := rfl
  exact (b_cons (s_if (PW.pt (t_or (t_cmp .ne rfl hu (e_b1B .len (cr_len rfl) rfl fx.free_len w_boot_len (w_var 0)) e_int (nomark _)) (t_or (t_cmp .notin rfl hu (e_ix rfl (w_var 0) e_int) (e_g rfl rfl fx.g_COLUMNS) (by with_unfolding_all rfl)) (pw_or1 (t_cmp .notin rfl hu (e_ix rfl (w_var 0) e_int) (e_g rfl rfl fx.g_ROWS) (by with_unfolding_all rfl))))))
  (b_cons (s_rse rfl tk fx.rx_NoCell.rx rfl)
  b_nil)
  b_nil)
  b_nil)
theorem okN_need_cell {P : Program} {w : World} {K : PySem.W.Frag} {T : GA} {mg : Str → Option Value} {base : Heap} {k : Nat} {f : Addr} {fd : FuncData} (F : FnP K "need_cell" "need_cell" (top 7) f fd) (fx : Fx P w K T mg) (lv : Lv P w K T mg base k) :
    FnT P w K mg base (L2N.CX P w) (k + 2) f fd ["cell"] (spM K T (callF false (k + 2) .need_cell)) := by
  refine fn_MN F sc_need_cell (b := b_need_cell) rfl fun cdv A outer s H E hr tk fr po => ?_
  have nd := (sc_need_cell).nd
  have hu := hr.units
  exact (b_cons (s_if (PW.pt (t_or (t_cmp .ne rfl hu (e_b1B .len (cr_len rfl) rfl fx.free_len w_boot_len (w_var 0)) e_int (nomark _)) (t_or (t_cmp .notin rfl hu (e_ix rfl (w_var 0) e_int) (e_g rfl rfl fx.g_COLUMNS) (by with_unfolding_all rfl)) (pw_or1 (t_cmp .notin rfl hu (e_ix rfl (w_var 0) e_int) (e_g rfl rfl fx.g_ROWS) (by with_unfolding_all rfl))))))
  (b_cons (s_rseN rfl tk fx.rx_NoCell.rx rfl)
  b_nil)
  b_nil)
  b_nil)
def n_number_of : List Str := ["word", "figures", "sign"]
theorem sc_number_of : FnScope n_number_of ["word"] (defScope (top 13)) := ⟨rfl, rfl, rfl, by decide +kernel, rfl, by decide +kernel, by decide +kernel⟩
theorem ok_number_of {P : Program} {w : World} {K : PySem.W.Frag} {T : GA} {mg : Str → Option Value} {base : Heap} {k : Nat} {f : Addr} {fd : FuncData} (F : FnP K "number_of" "number_of" (top 13) f fd) (fx : Fx P w K T mg) (lv : Lv P w K T mg base k) :
    FnT P w K mg base (L2.CX P w) (k + 2) f fd ["word"] (spM K T (callF false (k + 2) .number_of)) := by
  refine fn_M F sc_number_of (b := b_number_of) rfl fun cdv A outer s H E hr tk tf fr po => ?_
  have nd := (sc_number_of).nd
  have hu := hr.units
  have hcold : (cOf false k).hot = false := rfl
  exact (b_cons (s_set (i := 1) nd (by rfl) (.inl rfl) (e_ife (t_cmp .eq rfl hu (e_slH rfl (w_var 0) e_int) (e_str (t := [45])) (nomark _)) (e_slL rfl (w_var 0) e_int) (w_var 0)))
  (b_cons (s_if (PW.pt (t_or (t_not (t_chn .le .le rfl hu e_int (e_b1B .len (cr_len rfl) rfl fx.free_len w_boot_len (w_var 1)) (e_g rfl rfl fx.g_MOST_FIGURES))) (pw_or1 (PW.pt (t_and (t_cmp .eq rfl hu (e_ix rfl (w_var 1) e_int) (e_str (t := [48])) (nomark _)) (pw_and1 (t_cmp .ne rfl hu (w_var 0) (e_str (t := [48])) (nomark _))))))))
  (b_cons (s_ret e_non)
  b_nil)
  b_nil)
  (b_cons (s_for po rfl (i_seq rfl (w_var 1)) (pg_name nd (i := 2) (by rfl) (.inl rfl))
  (b_cons (s_if (t_cmp .notin rfl hu (w_var 2) (e_g rfl rfl fx.g_FIGURES) (by with_unfolding_all rfl))
  (b_cons (s_ret e_non)
  b_nil)
  b_nil)
  b_nil) (g_one (i := 2) no_cu))
  (b_cons (s_ret (e_b1T .int cr_int rfl fx.free_int w_boot_int (w_var 0)))
  b_nil))))
def n_rd_init : List Str := ["self", "words"]
theorem sc_rd_init : FnScope n_rd_init ["self", "words"] (defScope (inClass (top 14) 0)) := ⟨rfl, rfl, rfl, by decide +kernel, rfl, by decide +kernel, by decide +kernel⟩
theorem ok_rd_init {P : Program} {w : World} {K : PySem.W.Frag} {T : GA} {mg : Str → Option Value} {base : Heap} {k : Nat} {f : Addr} {fd : FuncData} (F : FnP K "__init__" "Reader.__init__" (inClass (top 14) 0) f fd) (fx : Fx P w K T mg) (lv : Lv P w K T mg base k) :
    FnT P w K mg base (L2.CX P w) (k + 2) f fd ["self", "words"] (spM K T (callF false (k + 2) .rd_init)) := by
  refine fn_M F sc_rd_init (b := b_rd_init) rfl fun cdv A outer s H E hr tk tf fr po => ?_
  have nd := (sc_rd_init).nd
  have hu := hr.units
  have hcold : (cOf false k).hot = false := rfl
  exact (b_cons (s_setf rfl rfl fx.fd_reader_words (w_var 0) (w_var 1))
  (b_cons (s_setf rfl rfl fx.fd_reader_at (w_var 0) e_int)
  b_nil))
def n_rd_word : List Str := ["self"]
theorem sc_rd_word : FnScope n_rd_word ["self"] (defScope (inClass (top 14) 1)) := ⟨rfl, rfl, rfl, by decide +kernel, rfl, by decide +kernel, by decide +kernel⟩
theorem ok_rd_word {P : Program} {w : World} {K : PySem.W.Frag} {T : GA} {mg : Str → Option Value} {base : Heap} {k : Nat} {f : Addr} {fd : FuncData} (F : FnP K "word" "Reader.word" (inClass (top 14) 1) f fd) (fx : Fx P w K T mg) (lv : Lv P w K T mg base k) :
    FnT P w K mg base (L2.CX P w) (k + 2) f fd ["self"] (spM K T (callF false (k + 2) .rd_word)) := by
  refine fn_M F sc_rd_word (b := b_rd_word) rfl fun cdv A outer s H E hr tk tf fr po => ?_
  have nd := (sc_rd_word).nd
  have hu := hr.units
  have hcold : (cOf false k).hot = false := rfl
  exact (b_cons (s_if (t_cmp .eq rfl hu (e_fld rfl rfl fx.fd_reader_at (w_var 0)) (e_b1B .len (cr_len rfl) rfl fx.free_len w_boot_len (e_fld rfl rfl fx.fd_reader_words (w_var 0))) (nomark _))
  (b_cons (s_rse rfl tk fx.rx_BadFormula.rx rfl)
  b_nil)
  b_nil)
  (b_cons (s_setf rfl rfl fx.fd_reader_at (w_var 0) (e_bin .add rfl (e_fld rfl rfl fx.fd_reader_at (w_var 0)) e_int))
  (b_cons (s_ret (e_ix rfl (e_fld rfl rfl fx.fd_reader_words (w_var 0)) (e_bin .sub rfl (e_fld rfl rfl fx.fd_reader_at (w_var 0)) e_int)))
  b_nil)))
def n_rd_cell : List Str := ["self", "word"]
theorem sc_rd_cell : FnScope n_rd_cell ["self"] (defScope (inClass (top 14) 2)) := ⟨rfl, rfl, rfl, by decide +kernel, rfl, by decide +kernel, by decide +kernel⟩
theorem ok_rd_cell {P : Program} {w : World} {K : PySem.W.Frag} {T : GA} {mg : Str → Option Value} {base : Heap} {k : Nat} {f : Addr} {fd : FuncData} (F : FnP K "cell" "Reader.cell" (inClass (top 14) 2) f fd) (fx : Fx P w K T mg) (lv : Lv P w K T mg base k) :
    FnT P w K mg base (L2.CX P w) (k + 2) f fd ["self"] (spM K T (callF false (k + 2) .rd_cell)) := by
  refine fn_M F sc_rd_cell (b := b_rd_cell) rfl fun cdv A outer s H E hr tk tf fr po => ?_
  have nd := (sc_rd_cell).nd
  have hu := hr.units
  have hcold : (cOf false k).hot = false := rfl
  exact (b_cons (s_set (i := 1) nd (by rfl) (.inl rfl) (e_meth0 (C := cOf false k) (g := .rd_word) rfl tf hr lv.mt_word (w_var 0)))
  (b_cons (try_X rfl rfl rfl rfl ⟨rfl, by decide +kernel, .inl fx.rmg_NoCell⟩ fx.exm_NoCell (L2H.passesAt_of rfl) tk
  (fun _ _ _ tk po => (b_cons (s_ex (e_callN (C := cOf false k) (g := .need_cell) rfl tk hr lv.fnN_need_cell rfl (a_cons (w_var 1) a_nil)))
  b_nil))
  (fun _ _ _ _ _ tk hot => (b_cons (s_rseH hot tk fx.rx_BadFormula.rx rfl)
  b_nil)))
  (b_cons (s_ret (w_var 1))
  b_nil)))
def n_rd_part : List Str := ["self", "deep", "word", "k", "one", "number"]
theorem sc_rd_part : FnScope n_rd_part ["self", "deep"] (defScope (inClass (top 14) 3)) := ⟨rfl, rfl, rfl, by decide +kernel, rfl, by decide +kernel, by decide +kernel⟩
theorem ok_rd_part {P : Program} {w : World} {K : PySem.W.Frag} {T : GA} {mg : Str → Option Value} {base : Heap} {k : Nat} {f : Addr} {fd : FuncData} (F : FnP K "part" "Reader.part" (inClass (top 14) 3) f fd) (fx : Fx P w K T mg) (lv : Lv P w K T mg base k) :
    FnT P w K mg base (L2.CX P w) (k + 2) f fd ["self", "deep"] (spM K T (callF false (k + 2) .rd_part)) := by
  refine fn_M F sc_rd_part (b := b_rd_part) rfl fun cdv A outer s H E hr tk tf fr po => ?_
  have nd := (sc_rd_part).nd
  have hu := hr.units
  have hcold : (cOf false k).hot = false := rfl
  exact (b_cons (s_if (t_cmp .gt rfl hu (w_var 1) (e_g rfl rfl fx.g_MOST_DEEP) (nomark _))
  (b_cons (s_rse rfl tk fx.rx_BadFormula.rx rfl)
  b_nil)
  b_nil)
  (b_cons (s_set (i := 2) nd (by rfl) (.inl rfl) (e_meth0 (C := cOf false k) (g := .rd_word) rfl tf hr lv.mt_word (w_var 0)))
  (b_cons (s_if (t_inParts rfl fx.parts_PARTS (w_var 2))
  (b_cons (s_ret (e_bin .add rfl (e_tup (a_cons (w_var 2) a_nil)) (e_b1T .tup (cr_tuple rfl) rfl fx.free_tuple w_boot_tuple (e_lc0 (C := cOf false k) rfl tf (by exact fr) rfl nd (by exact (i_rng1 rfl fx.free_range (e_parts rfl fx.parts_PARTS (w_var 2)))) (blkOk_by (by kernel_rfl)) (by first | exact .inl rfl | exact .inr rfl) (fun _ _ _ _ _ _ tf => by exact (e_meth (C := cOf false k) (g := .rd_part) rfl tf hr lv.mt_part (w_var 0) (a_cons (e_bin .add rfl (w_var 1) e_int) a_nil)))))))
  b_nil)
  b_nil)
  (b_cons (s_if (t_cmp .eq rfl hu (w_var 2) (e_str (t := [115, 117, 109])) (nomark _))
  (b_cons (s_set (i := 4) nd (by rfl) (.inl rfl) (e_meth0 (C := cOf false k) (g := .rd_cell) rfl tf hr lv.mt_cell (w_var 0)))
  (b_cons (s_ret (e_tup (a_cons (e_str (t := [115, 117, 109])) (a_cons (w_var 4) (a_cons (e_meth0 (C := cOf false k) (g := .rd_cell) rfl tf hr lv.mt_cell (w_var 0)) a_nil)))))
  b_nil))
  b_nil)
  (b_cons (s_set (i := 5) nd (by rfl) (.inl rfl) (e_call (C := cOf false k) (g := .number_of) rfl tf hr lv.fn_number_of rfl (a_cons (w_var 2) a_nil)))
  (b_cons (s_if (t_cmp .notN rfl hu (w_var 5) e_non (nomark _))
  (b_cons (s_ret (e_tup (a_cons (e_str (t := [110, 117, 109])) (a_cons (w_var 5) a_nil))))
  b_nil)
  b_nil)
  (b_cons (s_setf rfl rfl fx.fd_reader_at (w_var 0) (e_bin .sub rfl (e_fld rfl rfl fx.fd_reader_at (w_var 0)) e_int))
  (b_cons (s_ret (e_tup (a_cons (e_str (t := [99, 101, 108, 108])) (a_cons (e_meth0 (C := cOf false k) (g := .rd_cell) rfl tf hr lv.mt_cell (w_var 0)) a_nil))))
  b_nil))))))))
def n_read : List Str := ["text", "number", "words", "reader", "part"]
theorem sc_read : FnScope n_read ["text"] (defScope (top 15)) := ⟨rfl, rfl, rfl, by decide +kernel, rfl, by decide +kernel, by decide +kernel⟩
theorem ok_read {P : Program} {w : World} {K : PySem.W.Frag} {T : GA} {mg : Str → Option Value} {base : Heap} {k : Nat} {f : Addr} {fd : FuncData} (F : FnP K "read" "read" (top 15) f fd) (fx : Fx P w K T mg) (lv : Lv P w K T mg base k) :
    FnT P w K mg base (L2.CX P w) (k + 2) f fd ["text"] (spM K T (callF false (k + 2) .read)) := by
  refine fn_M F sc_read (b := b_read) rfl fun cdv A outer s H E hr tk tf fr po => ?_
  have nd := (sc_read).nd
  have hu := hr.units
  have hcold : (cOf false k).hot = false := rfl
  exact (b_cons (s_if (t_cmp .eq rfl hu (w_var 0) (e_str (t := [])) (nomark _))
  (b_cons (s_ret e_non)
  b_nil)
  b_nil)
  (b_cons (s_if (t_cmp .ne rfl hu (e_ix rfl (w_var 0) e_int) (e_str (t := [61])) (nomark _))
  (b_cons (s_set (i := 1) nd (by rfl) (.inl rfl) (e_call (C := cOf false k) (g := .number_of) rfl tf hr lv.fn_number_of rfl (a_cons (w_var 0) a_nil)))
  (b_cons (s_if (t_cmp .isN rfl hu (w_var 1) e_non (nomark _))
  (b_cons (s_rse rfl tk fx.rx_BadFormula.rx rfl)
  b_nil)
  b_nil)
  (b_cons (s_ret (e_tup (a_cons (e_str (t := [110, 117, 109])) (a_cons (w_var 1) a_nil))))
  b_nil)))
  b_nil)
  (b_cons (s_set (i := 2) nd (by rfl) (.inl rfl) (e_split rfl (w_var 0) (e_str (t := [32]))))
  (b_cons (s_set (i := 3) nd (by rfl) (.inl rfl) (e_mk (C := cOf false k) rfl tf hr lv.mk_Reader rfl (a_cons (e_slL rfl (w_var 2) e_int) a_nil)))
  (b_cons (s_set (i := 4) nd (by rfl) (.inl rfl) (e_meth (C := cOf false k) (g := .rd_part) rfl tf hr lv.mt_part (w_var 3) (a_cons e_int a_nil)))
  (b_cons (s_if (PW.pt (t_or (t_cmp .ne rfl hu (e_ix rfl (w_var 2) e_int) (e_str (t := [61])) (nomark _)) (t_or (t_cmp .ne rfl hu (e_fld rfl rfl fx.fd_reader_at (w_var 3)) (e_bin .sub rfl (e_b1B .len (cr_len rfl) rfl fx.free_len w_boot_len (w_var 2)) e_int) (nomark _)) (pw_or1 (t_cmp .eq rfl hu (e_ix rfl (w_var 4) e_int) (e_str (t := [110, 117, 109])) (nomark _))))))
  (b_cons (s_rse rfl tk fx.rx_BadFormula.rx rfl)
  b_nil)
  b_nil)
  (b_cons (s_ret (w_var 4))
  b_nil)))))))
def n_l_begun : List Str := ["_law_script", "_law_stirred", "_law_cell_here"]
theorem sc_l_begun : FnScope n_l_begun ["_law_script"] (defScope (top 17)) := ⟨rfl, rfl, rfl, by decide +kernel, rfl, by decide +kernel, by decide +kernel⟩
theorem ok_l_begun {P : Program} {w : World} {K : PySem.W.Frag} {T : GA} {mg : Str → Option Value} {base : Heap} {k : Nat} {f : Addr} {fd : FuncData} (F : FnP K "_law_begun" "_law_begun" (top 17) f fd) (fx : Fx P w K T mg) (lv : Lv P w K T mg base k) :
    FnT P w K mg base (L2.CX P w) (k + 2) f fd ["_law_script"] (spM K T (callF false (k + 2) .l_begun)) := by
  refine fn_M F sc_l_begun (b := b_l_begun) rfl fun cdv A outer s H E hr tk tf fr po => ?_
  have nd := (sc_l_begun).nd
  have hu := hr.units
  have hcold : (cOf false k).hot = false := rfl
  exact (b_cons (s_set (i := 1) nd (by rfl) (.inl rfl) e_int)
  (b_cons (s_for po rfl (i_seq rfl (w_var 0)) (pg_name nd (i := 2) (by rfl) (.inl rfl))
  (b_cons (s_set (i := 1) nd (by rfl) (.inl rfl) (e_bin .mod rfl (e_bin .add rfl (e_bin .add rfl (e_bin .mul rfl (w_var 1) e_int) (e_bin .mul rfl (w_var 2) e_int)) e_int) e_int))
  b_nil) (g_one (i := 2) no_cu))
  (b_cons (s_ret (e_lst (a_cons (e_b1T .lst (cr_list rfl rfl) rfl fx.free_list w_boot_list (w_var 0)) (a_cons (e_bin .mul rfl (w_var 1) (e_b1T .int cr_int rfl fx.free_int w_boot_int (e_cmp .gt rfl hu (e_b1B .len (cr_len rfl) rfl fx.free_len w_boot_len (w_var 0)) e_int (nomark _)))) a_nil))))
  b_nil)))
def n_l_take : List Str := ["_law_box", "_law_many", "_law_number"]
theorem sc_l_take : FnScope n_l_take ["_law_box", "_law_many"] (defScope (top 18)) := ⟨rfl, rfl, rfl, by decide +kernel, rfl, by decide +kernel, by decide +kernel⟩
theorem ok_l_take {P : Program} {w : World} {K : PySem.W.Frag} {T : GA} {mg : Str → Option Value} {base : Heap} {k : Nat} {f : Addr} {fd : FuncData} (F : FnP K "_law_take" "_law_take" (top 18) f fd) (fx : Fx P w K T mg) (lv : Lv P w K T mg base k) :
    FnT P w K mg base (L2.CX P w) (k + 2) f fd ["_law_box", "_law_many"] (spM K T (callF false (k + 2) .l_take)) := by
  refine fn_M F sc_l_take (b := b_l_take) rfl fun cdv A outer s H E hr tk tf fr po => ?_
  have nd := (sc_l_take).nd
  have hu := hr.units
  have hcold : (cOf false k).hot = false := rfl
  exact (b_cons (s_if (t_cmp .eq rfl hu (e_ix rfl (w_var 0) e_int) (e_lst a_nil) (nomark _))
  (b_cons (s_seti (w_var 0) e_int (e_bin .mod rfl (e_bin .mul rfl (e_ix rfl (w_var 0) e_int) e_int) e_int))
  (b_cons (s_ret (e_bin .mod rfl (e_bin .fdiv rfl (e_ix rfl (w_var 0) e_int) e_int) (w_var 1)))
  b_nil))
  b_nil)
  (b_cons (s_set (i := 2) nd (by rfl) (.inl rfl) (e_ix rfl (e_ix rfl (w_var 0) e_int) e_int))
  (b_cons (s_seti (e_ix rfl (w_var 0) e_int) e_int (e_bin .fdiv rfl (w_var 2) (w_var 1)))
  (b_cons (s_if (PW.pt (t_or (t_cmp .eq rfl hu (e_ix rfl (e_ix rfl (w_var 0) e_int) e_int) e_int (nomark _)) (pw_or1 (t_cmp .eq rfl hu (e_ix rfl (e_ix rfl (w_var 0) e_int) e_int) (e_neg e_int) (nomark _)))))
  (b_cons (s_ex (e_lpop rfl (e_ix rfl (w_var 0) e_int) e_int))
  b_nil)
  b_nil)
  (b_cons (s_ret (e_bin .mod rfl (w_var 2) (w_var 1)))
  b_nil)))))
def n_l_alike : List Str := ["_law_found", "_law_due", "_law_k"]
theorem sc_l_alike : FnScope n_l_alike ["_law_found", "_law_due"] (defScope (top 19)) := ⟨rfl, rfl, rfl, by decide +kernel, rfl, by decide +kernel, by decide +kernel⟩
theorem ok_l_alike {P : Program} {w : World} {K : PySem.W.Frag} {T : GA} {mg : Str → Option Value} {base : Heap} {k : Nat} {f : Addr} {fd : FuncData} (F : FnP K "_law_alike" "_law_alike" (top 19) f fd) (fx : Fx P w K T mg) (lv : Lv P w K T mg base k) :
    FnT P w K mg base (L2.CX P w) (k + 2) f fd ["_law_found", "_law_due"] (spM K T (callF false (k + 2) .l_alike)) := by
  refine fn_M F sc_l_alike (b := b_l_alike) rfl fun cdv A outer s H E hr tk tf fr po => ?_
  have nd := (sc_l_alike).nd
  have hu := hr.units
  have hcold : (cOf false k).hot = false := rfl
  exact (b_cons (s_if (t_cmp .isN rfl hu (w_var 1) e_non (nomark _))
  (b_cons (s_ret (e_cmp .isN rfl hu (w_var 0) e_non (nomark _)))
  b_nil)
  b_nil)
  (b_cons (s_if (t_val (e_isi .bool rfl rfl fx.free_isinstance boot_isinstance rfl fx.free_bool w_boot_bool (w_var 1)))
  (b_cons (s_ret (e_and (e_isi .bool rfl rfl fx.free_isinstance boot_isinstance rfl fx.free_bool w_boot_bool (w_var 0)) (e_one (e_cmp .eq rfl hu (w_var 0) (w_var 1) (nomark _)))))
  b_nil)
  b_nil)
  (b_cons (s_if (t_val (e_isi .int rfl rfl fx.free_isinstance boot_isinstance rfl fx.free_int w_boot_int (w_var 1)))
  (b_cons (s_ret (e_and (e_isi .int rfl rfl fx.free_isinstance boot_isinstance rfl fx.free_int w_boot_int (w_var 0)) (e_and (e_not (e_isi .bool rfl rfl fx.free_isinstance boot_isinstance rfl fx.free_bool w_boot_bool (w_var 0))) (e_one (e_cmp .eq rfl hu (w_var 0) (w_var 1) (nomark _))))))
  b_nil)
  b_nil)
  (b_cons (s_if (t_val (e_isi .str rfl rfl fx.free_isinstance boot_isinstance rfl fx.free_str w_boot_str (w_var 1)))
  (b_cons (s_ret (e_and (e_isi .str rfl rfl fx.free_isinstance boot_isinstance rfl fx.free_str w_boot_str (w_var 0)) (e_one (e_cmp .eq rfl hu (w_var 0) (w_var 1) (nomark _)))))
  b_nil)
  b_nil)
  (b_cons (s_if (PW.pt (t_or (t_cmp .ne rfl hu (e_isi .tup rfl rfl fx.free_isinstance boot_isinstance rfl fx.free_tuple w_boot_tuple (w_var 1)) (e_isi .tup rfl rfl fx.free_isinstance boot_isinstance rfl fx.free_tuple w_boot_tuple (w_var 0)) (nomark _)) (pw_or1 (t_cmp .ne rfl hu (e_isi .lst rfl rfl fx.free_isinstance boot_isinstance rfl fx.free_list w_boot_list (w_var 1)) (e_isi .lst rfl rfl fx.free_isinstance boot_isinstance rfl fx.free_list w_boot_list (w_var 0)) (nomark _)))))
  (b_cons (s_ret e_bl)
  b_nil)
  b_nil)
  (b_cons (s_if (t_cmp .ne rfl hu (e_b1B .len (cr_len rfl) rfl fx.free_len w_boot_len (w_var 0)) (e_b1B .len (cr_len rfl) rfl fx.free_len w_boot_len (w_var 1)) (nomark _))
  (b_cons (s_ret e_bl)
  b_nil)
  b_nil)
  (b_cons (s_for po rfl (i_rng1 rfl fx.free_range (e_b1B .len (cr_len rfl) rfl fx.free_len w_boot_len (w_var 1))) (pg_name nd (i := 2) (by rfl) (.inl rfl))
  (b_cons (s_if (t_not (t_val (e_call (C := cOf false k) (g := .l_alike) rfl tf hr lv.fn_law_alike rfl (a_cons (e_ix rfl (w_var 0) (w_var 2)) (a_cons (e_ix rfl (w_var 1) (w_var 2)) a_nil)))))
  (b_cons (s_ret e_bl)
  b_nil)
  b_nil)
  b_nil) (g_one (i := 2) no_cu))
  (b_cons (s_ret e_bl)
  b_nil))))))))
def n_l_cell : List Str := ["_law_box"]
theorem sc_l_cell : FnScope n_l_cell ["_law_box"] (defScope (top 20)) := ⟨rfl, rfl, rfl, by decide +kernel, rfl, by decide +kernel, by decide +kernel⟩
theorem ok_l_cell {P : Program} {w : World} {K : PySem.W.Frag} {T : GA} {mg : Str → Option Value} {base : Heap} {k : Nat} {f : Addr} {fd : FuncData} (F : FnP K "_law_cell" "_law_cell" (top 20) f fd) (fx : Fx P w K T mg) (lv : Lv P w K T mg base k) :
    FnT P w K mg base (L2.CX P w) (k + 2) f fd ["_law_box"] (spM K T (callF false (k + 2) .l_cell)) := by
  refine fn_M F sc_l_cell (b := b_l_cell) rfl fun cdv A outer s H E hr tk tf fr po => ?_
  have nd := (sc_l_cell).nd
  have hu := hr.units
  have hcold : (cOf false k).hot = false := rfl
  exact (b_cons (s_if (t_cmp .eq rfl hu (e_call (C := cOf false k) (g := .l_take) rfl tf hr lv.fn_law_take rfl (a_cons (w_var 0) (a_cons e_int a_nil))) e_int (nomark _))
  (b_cons (s_ret (e_bin .add rfl (e_ix rfl (e_str (t := [97, 98, 99, 100, 101, 102])) (e_call (C := cOf false k) (g := .l_take) rfl tf hr lv.fn_law_take rfl (a_cons (w_var 0) (a_cons e_int a_nil)))) (e_ix rfl (e_str (t := [49, 50, 51, 52, 53, 54, 55, 56, 57])) (e_call (C := cOf false k) (g := .l_take) rfl tf hr lv.fn_law_take rfl (a_cons (w_var 0) (a_cons e_int a_nil))))))
  b_nil)
  b_nil)
  (b_cons (s_ret (e_bin .add rfl (e_ix rfl (e_str (t := [97, 98, 99])) (e_call (C := cOf false k) (g := .l_take) rfl tf hr lv.fn_law_take rfl (a_cons (w_var 0) (a_cons e_int a_nil)))) (e_ix rfl (e_str (t := [49, 50, 51])) (e_call (C := cOf false k) (g := .l_take) rfl tf hr lv.fn_law_take rfl (a_cons (w_var 0) (a_cons e_int a_nil))))))
  b_nil))
def n_l_stretch : List Str := ["_law_one", "_law_other", "_law_columns", "_law_rows", "_law_found", "_law_row", "_law_k"]
theorem sc_l_stretch : FnScope n_l_stretch ["_law_one", "_law_other"] (defScope (top 21)) := ⟨rfl, rfl, rfl, by decide +kernel, rfl, by decide +kernel, by decide +kernel⟩
theorem ok_l_stretch {P : Program} {w : World} {K : PySem.W.Frag} {T : GA} {mg : Str → Option Value} {base : Heap} {k : Nat} {f : Addr} {fd : FuncData} (F : FnP K "_law_stretch" "_law_stretch" (top 21) f fd) (fx : Fx P w K T mg) (lv : Lv P w K T mg base k) :
    FnT P w K mg base (L2.CX P w) (k + 2) f fd ["_law_one", "_law_other"] (spM K T (callF false (k + 2) .l_stretch)) := by
  refine fn_M F sc_l_stretch (b := b_l_stretch) rfl fun cdv A outer s H E hr tk tf fr po => ?_
  have nd := (sc_l_stretch).nd
  have hu := hr.units
  have hcold : (cOf false k).hot = false := rfl
  exact (b_cons (s_set (i := 2) nd (by rfl) (.inl rfl) (e_b1B .sorted (cr_sortedM rfl rfl) rfl fx.free_sorted w_boot_sorted (e_lst (a_cons (e_find rfl (e_str (t := [97, 98, 99, 100, 101, 102])) (e_ix rfl (w_var 0) e_int)) (a_cons (e_find rfl (e_str (t := [97, 98, 99, 100, 101, 102])) (e_ix rfl (w_var 1) e_int)) a_nil)))))
  (b_cons (s_set (i := 3) nd (by rfl) (.inl rfl) (e_b1B .sorted (cr_sortedM rfl rfl) rfl fx.free_sorted w_boot_sorted (e_lst (a_cons (e_b1T .int cr_int rfl fx.free_int w_boot_int (e_ix rfl (w_var 0) e_int)) (a_cons (e_b1T .int cr_int rfl fx.free_int w_boot_int (e_ix rfl (w_var 1) e_int)) a_nil)))))
  (b_cons (s_set (i := 4) nd (by rfl) (.inl rfl) (e_lst a_nil))
  (b_cons (s_for po rfl (i_rng2 rfl fx.free_range (e_ix rfl (w_var 3) e_int) (e_bin .add rfl (e_ix rfl (w_var 3) e_int) e_int)) (pg_name nd (i := 5) (by rfl) (.inr rfl))
  (b_cons (s_set (i := 4) nd (by rfl) (.inl rfl) (e_bin .add rfl (w_var 4) (e_lc0 (C := cOf false k) rfl tf (by exact fr) rfl nd (by exact (i_rng2 rfl fx.free_range (e_ix rfl (w_var 2) e_int) (e_bin .add rfl (e_ix rfl (w_var 2) e_int) e_int))) (blkOk_by (by kernel_rfl)) (by first | exact .inl rfl | exact .inr rfl) (fun _ _ _ _ _ _ tf => by exact (e_bin .add rfl (e_ix rfl (e_str (t := [97, 98, 99, 100, 101, 102])) (w_var 6)) (e_b1T .str cr_str rfl fx.free_str w_boot_str (w_var 5)))))))
  b_nil) (g_one (i := 5) no_cu))
  (b_cons (s_ret (w_var 4))
  b_nil)))))
def n_l_down : List Str := ["_law_cell_here", "_law_rows", "_law_row"]
theorem sc_l_down : FnScope n_l_down ["_law_cell_here", "_law_rows"] (defScope (top 22)) := ⟨rfl, rfl, rfl, by decide +kernel, rfl, by decide +kernel, by decide +kernel⟩
theorem ok_l_down {P : Program} {w : World} {K : PySem.W.Frag} {T : GA} {mg : Str → Option Value} {base : Heap} {k : Nat} {f : Addr} {fd : FuncData} (F : FnP K "_law_down" "_law_down" (top 22) f fd) (fx : Fx P w K T mg) (lv : Lv P w K T mg base k) :
    FnT P w K mg base (L2.CX P w) (k + 2) f fd ["_law_cell_here", "_law_rows"] (spM K T (callF false (k + 2) .l_down)) := by
  refine fn_M F sc_l_down (b := b_l_down) rfl fun cdv A outer s H E hr tk tf fr po => ?_
  have nd := (sc_l_down).nd
  have hu := hr.units
  have hcold : (cOf false k).hot = false := rfl
  exact (b_cons (s_set (i := 2) nd (by rfl) (.inl rfl) (e_bin .add rfl (e_b1T .int cr_int rfl fx.free_int w_boot_int (e_ix rfl (w_var 0) e_int)) (w_var 1)))
  (b_cons (s_ret (e_ife (t_chn .lt .lt rfl hu e_int (w_var 2) e_int) (e_bin .add rfl (e_ix rfl (w_var 0) e_int) (e_b1T .str cr_str rfl fx.free_str w_boot_str (w_var 2))) (e_str (t := []))))
  b_nil))
def n_l_part : List Str := ["_law_box", "_law_deep_here", "_law_kind", "_law_one", "_law_other", "_law_third"]
theorem sc_l_part : FnScope n_l_part ["_law_box", "_law_deep_here"] (defScope (top 23)) := ⟨rfl, rfl, rfl, by decide +kernel, rfl, by decide +kernel, by decide +kernel⟩
theorem ok_l_part {P : Program} {w : World} {K : PySem.W.Frag} {T : GA} {mg : Str → Option Value} {base : Heap} {k : Nat} {f : Addr} {fd : FuncData} (F : FnP K "_law_part" "_law_part" (top 23) f fd) (fx : Fx P w K T mg) (lv : Lv P w K T mg base k) :
    FnT P w K mg base (L2.CX P w) (k + 2) f fd ["_law_box", "_law_deep_here"] (spM K T (callF false (k + 2) .l_part)) := by
  refine fn_M F sc_l_part (b := b_l_part) rfl fun cdv A outer s H E hr tk tf fr po => ?_
  have nd := (sc_l_part).nd
  have hu := hr.units
  have hcold : (cOf false k).hot = false := rfl
  exact (b_cons (s_set (i := 2) nd (by rfl) (.inl rfl) (e_call (C := cOf false k) (g := .l_take) rfl tf hr lv.fn_law_take rfl (a_cons (w_var 0) (a_cons e_int a_nil))))
  (b_cons (s_if (PW.pt (t_or (t_cmp .eq rfl hu (w_var 1) e_int (nomark _)) (pw_or1 (t_cmp .lt rfl hu (w_var 2) e_int (nomark _)))))
  (b_cons (s_if (t_cmp .eq rfl hu (w_var 2) e_int (nomark _))
  (b_cons (s_ret (e_tup (a_cons (e_str (t := [110, 117, 109])) (a_cons (e_ix rfl (e_lst (a_cons (e_bin .sub rfl (e_call (C := cOf false k) (g := .l_take) rfl tf hr lv.fn_law_take rfl (a_cons (w_var 0) (a_cons e_int a_nil))) e_int) (a_cons (e_bin .sub rfl (e_call (C := cOf false k) (g := .l_take) rfl tf hr lv.fn_law_take rfl (a_cons (w_var 0) (a_cons e_int a_nil))) e_int) a_nil))) (e_call (C := cOf false k) (g := .l_take) rfl tf hr lv.fn_law_take rfl (a_cons (w_var 0) (a_cons e_int a_nil)))) a_nil))))
  b_nil)
  b_nil)
  (b_cons (s_ret (e_tup (a_cons (e_str (t := [99, 101, 108, 108])) (a_cons (e_call (C := cOf false k) (g := .l_cell) rfl tf hr lv.fn_law_cell rfl (a_cons (w_var 0) a_nil)) a_nil))))
  b_nil))
  b_nil)
  (b_cons (s_if (t_cmp .eq rfl hu (w_var 2) e_int (nomark _))
  (b_cons (s_set (i := 3) nd (by rfl) (.inl rfl) (e_call (C := cOf false k) (g := .l_cell) rfl tf hr lv.fn_law_cell rfl (a_cons (w_var 0) a_nil)))
  (b_cons (s_ret (e_tup (a_cons (e_str (t := [115, 117, 109])) (a_cons (w_var 3) (a_cons (e_call (C := cOf false k) (g := .l_cell) rfl tf hr lv.fn_law_cell rfl (a_cons (w_var 0) a_nil)) a_nil)))))
  b_nil))
  b_nil)
  (b_cons (s_set (i := 3) nd (by rfl) (.inl rfl) (e_call (C := cOf false k) (g := .l_part) rfl tf hr lv.fn_law_part rfl (a_cons (w_var 0) (a_cons (e_bin .sub rfl (w_var 1) e_int) a_nil))))
  (b_cons (s_set (i := 4) nd (by rfl) (.inl rfl) (e_call (C := cOf false k) (g := .l_part) rfl tf hr lv.fn_law_part rfl (a_cons (w_var 0) (a_cons (e_bin .sub rfl (w_var 1) e_int) a_nil))))
  (b_cons (s_if (t_cmp .eq rfl hu (w_var 2) e_int (nomark _))
  (b_cons (s_set (i := 5) nd (by rfl) (.inl rfl) (e_call (C := cOf false k) (g := .l_part) rfl tf hr lv.fn_law_part rfl (a_cons (w_var 0) (a_cons (e_bin .sub rfl (w_var 1) e_int) a_nil))))
  (b_cons (s_ret (e_tup (a_cons (e_str (t := [112, 105, 99, 107])) (a_cons (w_var 3) (a_cons (w_var 4) (a_cons (w_var 5) (a_cons (e_call (C := cOf false k) (g := .l_part) rfl tf hr lv.fn_law_part rfl (a_cons (w_var 0) (a_cons (e_bin .sub rfl (w_var 1) e_int) a_nil))) a_nil)))))))
  b_nil))
  b_nil)
  (b_cons (s_ret (e_tup (a_cons (e_ix rfl (e_lst (a_cons (e_str (t := [97, 100, 100])) (a_cons (e_str (t := [115, 117, 98])) (a_cons (e_str (t := [109, 117, 108])) (a_cons (e_str (t := [97, 100, 100])) a_nil))))) (e_bin .sub rfl (w_var 2) e_int)) (a_cons (w_var 3) (a_cons (w_var 4) a_nil)))))
  b_nil)))))))
def n_l_content : List Str := ["_law_box", "_law_deep_here", "_law_kind", "_law_part_here"]
theorem sc_l_content : FnScope n_l_content ["_law_box", "_law_deep_here"] (defScope (top 24)) := ⟨rfl, rfl, rfl, by decide +kernel, rfl, by decide +kernel, by decide +kernel⟩
theorem ok_l_content {P : Program} {w : World} {K : PySem.W.Frag} {T : GA} {mg : Str → Option Value} {base : Heap} {k : Nat} {f : Addr} {fd : FuncData} (F : FnP K "_law_content" "_law_content" (top 24) f fd) (fx : Fx P w K T mg) (lv : Lv P w K T mg base k) :
    FnT P w K mg base (L2.CX P w) (k + 2) f fd ["_law_box", "_law_deep_here"] (spM K T (callF false (k + 2) .l_content)) := by
  refine fn_M F sc_l_content (b := b_l_content) rfl fun cdv A outer s H E hr tk tf fr po => ?_
  have nd := (sc_l_content).nd
  have hu := hr.units
  have hcold : (cOf false k).hot = false := rfl
  exact (b_cons (s_set (i := 2) nd (by rfl) (.inl rfl) (e_call (C := cOf false k) (g := .l_take) rfl tf hr lv.fn_law_take rfl (a_cons (w_var 0) (a_cons e_int a_nil))))
  (b_cons (s_if (t_cmp .eq rfl hu (w_var 2) e_int (nomark _))
  (b_cons (s_ret e_non)
  b_nil)
  b_nil)
  (b_cons (s_if (t_cmp .eq rfl hu (w_var 2) e_int (nomark _))
  (b_cons (s_ret (e_tup (a_cons (e_str (t := [110, 117, 109])) (a_cons (e_ix rfl (e_lst (a_cons (e_bin .sub rfl (e_call (C := cOf false k) (g := .l_take) rfl tf hr lv.fn_law_take rfl (a_cons (w_var 0) (a_cons e_int a_nil))) e_int) (a_cons (e_bin .sub rfl (e_call (C := cOf false k) (g := .l_take) rfl tf hr lv.fn_law_take rfl (a_cons (w_var 0) (a_cons e_int a_nil))) e_int) a_nil))) (e_call (C := cOf false k) (g := .l_take) rfl tf hr lv.fn_law_take rfl (a_cons (w_var 0) (a_cons e_int a_nil)))) a_nil))))
  b_nil)
  b_nil)
  (b_cons (s_set (i := 3) nd (by rfl) (.inl rfl) (e_call (C := cOf false k) (g := .l_part) rfl tf hr lv.fn_law_part rfl (a_cons (w_var 0) (a_cons (w_var 1) a_nil))))
  (b_cons (s_ret (e_ife (t_cmp .eq rfl hu (e_ix rfl (w_var 3) e_int) (e_str (t := [110, 117, 109])) (nomark _)) (e_tup (a_cons (e_str (t := [99, 101, 108, 108])) (a_cons (e_str (t := [97, 49])) a_nil))) (w_var 3)))
  b_nil)))))
def n_l_part_text : List Str := ["_law_part_here", "_law_one"]
theorem sc_l_part_text : FnScope n_l_part_text ["_law_part_here"] (defScope (top 25)) := ⟨rfl, rfl, rfl, by decide +kernel, rfl, by decide +kernel, by decide +kernel⟩
theorem ok_l_part_text {P : Program} {w : World} {K : PySem.W.Frag} {T : GA} {mg : Str → Option Value} {base : Heap} {k : Nat} {f : Addr} {fd : FuncData} (F : FnP K "_law_part_text" "_law_part_text" (top 25) f fd) (fx : Fx P w K T mg) (lv : Lv P w K T mg base k) :
    FnT P w K mg base (L2.CX P w) (k + 2) f fd ["_law_part_here"] (spM K T (callF false (k + 2) .l_part_text)) := by
  refine fn_M F sc_l_part_text (b := b_l_part_text) rfl fun cdv A outer s H E hr tk tf fr po => ?_
  have nd := (sc_l_part_text).nd
  have hu := hr.units
  have hcold : (cOf false k).hot = false := rfl
  exact (b_cons (s_if (t_cmp .inn rfl hu (e_ix rfl (w_var 0) e_int) (e_tup (a_cons (e_str (t := [110, 117, 109])) (a_cons (e_str (t := [99, 101, 108, 108])) a_nil))) (by with_unfolding_all rfl))
  (b_cons (s_ret (e_b1T .str cr_str rfl fx.free_str w_boot_str (e_ix rfl (w_var 0) e_int)))
  b_nil)
  b_nil)
  (b_cons (s_if (t_cmp .eq rfl hu (e_ix rfl (w_var 0) e_int) (e_str (t := [115, 117, 109])) (nomark _))
  (b_cons (s_ret (e_bin .add rfl (e_bin .add rfl (e_bin .add rfl (e_str (t := [115, 117, 109, 32])) (e_ix rfl (w_var 0) e_int)) (e_str (t := [32]))) (e_ix rfl (w_var 0) e_int)))
  b_nil)
  b_nil)
  (b_cons (s_ret (e_bin .add rfl (e_bin .add rfl (e_ix rfl (w_var 0) e_int) (e_str (t := [32]))) (e_join rfl (e_str (t := [32])) (e_lc0 (C := cOf false k) rfl tf (by exact fr) rfl nd (by exact (i_seq rfl (e_slL rfl (w_var 0) e_int))) (blkOk_by (by kernel_rfl)) (by first | exact .inl rfl | exact .inr rfl) (fun _ _ _ _ _ _ tf => by exact (e_call (C := cOf false k) (g := .l_part_text) rfl tf hr lv.fn_law_part_text rfl (a_cons (w_var 1) a_nil)))))))
  b_nil)))
def n_l_text : List Str := ["_law_content_here"]
theorem sc_l_text : FnScope n_l_text ["_law_content_here"] (defScope (top 26)) := ⟨rfl, rfl, rfl, by decide +kernel, rfl, by decide +kernel, by decide +kernel⟩
theorem ok_l_text {P : Program} {w : World} {K : PySem.W.Frag} {T : GA} {mg : Str → Option Value} {base : Heap} {k : Nat} {f : Addr} {fd : FuncData} (F : FnP K "_law_text" "_law_text" (top 26) f fd) (fx : Fx P w K T mg) (lv : Lv P w K T mg base k) :
    FnT P w K mg base (L2.CX P w) (k + 2) f fd ["_law_content_here"] (spM K T (callF false (k + 2) .l_text)) := by
  refine fn_M F sc_l_text (b := b_l_text) rfl fun cdv A outer s H E hr tk tf fr po => ?_
  have nd := (sc_l_text).nd
  have hu := hr.units
  have hcold : (cOf false k).hot = false := rfl
  exact (b_cons (s_if (t_cmp .isN rfl hu (w_var 0) e_non (nomark _))
  (b_cons (s_ret (e_str (t := [])))
  b_nil)
  b_nil)
  (b_cons (s_ret (e_ife (t_cmp .eq rfl hu (e_ix rfl (w_var 0) e_int) (e_str (t := [110, 117, 109])) (nomark _)) (e_call (C := cOf false k) (g := .l_part_text) rfl tf hr lv.fn_law_part_text rfl (a_cons (w_var 0) a_nil)) (e_bin .add rfl (e_str (t := [61, 32])) (e_call (C := cOf false k) (g := .l_part_text) rfl tf hr lv.fn_law_part_text rfl (a_cons (w_var 0) a_nil)))))
  b_nil))
def n_l_reads : List Str := ["_law_content_here", "_law_found", "_law_part_here", "_law_cell_here"]
theorem sc_l_reads : FnScope n_l_reads ["_law_content_here"] (defScope (top 27)) := ⟨rfl, rfl, rfl, by decide +kernel, rfl, by decide +kernel, by decide +kernel⟩
theorem ok_l_reads {P : Program} {w : World} {K : PySem.W.Frag} {T : GA} {mg : Str → Option Value} {base : Heap} {k : Nat} {f : Addr} {fd : FuncData} (F : FnP K "_law_reads" "_law_reads" (top 27) f fd) (fx : Fx P w K T mg) (lv : Lv P w K T mg base k) :
    FnT P w K mg base (L2.CX P w) (k + 2) f fd ["_law_content_here"] (spM K T (callF false (k + 2) .l_reads)) := by
  refine fn_M F sc_l_reads (b := b_l_reads) rfl fun cdv A outer s H E hr tk tf fr po => ?_
  have nd := (sc_l_reads).nd
  have hu := hr.units
  have hcold : (cOf false k).hot = false := rfl
  exact (b_cons (s_if (PW.pt (t_or (t_cmp .isN rfl hu (w_var 0) e_non (nomark _)) (pw_or1 (t_cmp .eq rfl hu (e_ix rfl (w_var 0) e_int) (e_str (t := [110, 117, 109])) (nomark _)))))
  (b_cons (s_ret (e_lst a_nil))
  b_nil)
  b_nil)
  (b_cons (s_if (t_cmp .eq rfl hu (e_ix rfl (w_var 0) e_int) (e_str (t := [99, 101, 108, 108])) (nomark _))
  (b_cons (s_ret (e_lst (a_cons (e_ix rfl (w_var 0) e_int) a_nil)))
  b_nil)
  b_nil)
  (b_cons (s_if (t_cmp .eq rfl hu (e_ix rfl (w_var 0) e_int) (e_str (t := [115, 117, 109])) (nomark _))
  (b_cons (s_ret (e_call (C := cOf false k) (g := .l_stretch) rfl tf hr lv.fn_law_stretch rfl (a_cons (e_ix rfl (w_var 0) e_int) (a_cons (e_ix rfl (w_var 0) e_int) a_nil))))
  b_nil)
  b_nil)
  (b_cons (s_set (i := 1) nd (by rfl) (.inl rfl) (e_lst a_nil))
  (b_cons (s_for po rfl (i_seq rfl (e_slL rfl (w_var 0) e_int)) (pg_name nd (i := 2) (by rfl) (.inl rfl))
  (b_cons (s_for po rfl (i_seq rfl (e_call (C := cOf false k) (g := .l_reads) rfl tf hr lv.fn_law_reads rfl (a_cons (w_var 2) a_nil))) (pg_name nd (i := 3) (by rfl) (.inl rfl))
  (b_cons (s_if (t_cmp .notin rfl hu (w_var 3) (w_var 1) (by with_unfolding_all rfl))
  (b_cons (s_ex (e_append rfl (w_var 1) (w_var 3)))
  b_nil)
  b_nil)
  b_nil) (g_one (i := 3) no_cu))
  b_nil) (g_one (i := 2) no_cu))
  (b_cons (s_ret (w_var 1))
  b_nil))))))
def n_l_deep : List Str := ["_law_box", "_law_deep_here", "_law_one", "_law_other"]
theorem sc_l_deep : FnScope n_l_deep ["_law_box", "_law_deep_here"] (defScope (top 28)) := ⟨rfl, rfl, rfl, by decide +kernel, rfl, by decide +kernel, by decide +kernel⟩
theorem ok_l_deep {P : Program} {w : World} {K : PySem.W.Frag} {T : GA} {mg : Str → Option Value} {base : Heap} {k : Nat} {f : Addr} {fd : FuncData} (F : FnP K "_law_deep" "_law_deep" (top 28) f fd) (fx : Fx P w K T mg) (lv : Lv P w K T mg base k) :
    FnT P w K mg base (L2.CX P w) (k + 2) f fd ["_law_box", "_law_deep_here"] (spM K T (callF false (k + 2) .l_deep)) := by
  refine fn_M F sc_l_deep (b := b_l_deep) rfl fun cdv A outer s H E hr tk tf fr po => ?_
  have nd := (sc_l_deep).nd
  have hu := hr.units
  have hcold : (cOf false k).hot = false := rfl
  exact (b_cons (s_if (t_cmp .eq rfl hu (w_var 1) e_int (nomark _))
  (b_cons (s_ret (e_tup (a_cons (e_str (t := [99, 101, 108, 108])) (a_cons (e_str (t := [97, 49])) a_nil))))
  b_nil)
  b_nil)
  (b_cons (s_set (i := 2) nd (by rfl) (.inl rfl) (e_call (C := cOf false k) (g := .l_deep) rfl tf hr lv.fn_law_deep rfl (a_cons (w_var 0) (a_cons (e_bin .sub rfl (w_var 1) e_int) a_nil))))
  (b_cons (s_set (i := 3) nd (by rfl) (.inl rfl) (e_tup (a_cons (e_str (t := [110, 117, 109])) (a_cons (e_call (C := cOf false k) (g := .l_take) rfl tf hr lv.fn_law_take rfl (a_cons (w_var 0) (a_cons e_int a_nil))) a_nil))))
  (b_cons (s_ret (e_ix rfl (e_lst (a_cons (e_tup (a_cons (e_str (t := [97, 100, 100])) (a_cons (w_var 2) (a_cons (w_var 3) a_nil)))) (a_cons (e_tup (a_cons (e_str (t := [109, 117, 108])) (a_cons (w_var 3) (a_cons (w_var 2) a_nil)))) (a_cons (e_tup (a_cons (e_str (t := [112, 105, 99, 107])) (a_cons (w_var 3) (a_cons (w_var 2) (a_cons (w_var 3) (a_cons (w_var 3) a_nil)))))) a_nil)))) (e_call (C := cOf false k) (g := .l_take) rfl tf hr lv.fn_law_take rfl (a_cons (w_var 0) (a_cons e_int a_nil)))))
  b_nil))))
def n_l_text_of_k03 : List Str := ["_law_box", "_law_words", "_law_k", "_law_text_here", "_law_j", "_law_at", "_law_sign", "_law_cut"]
theorem sc_l_text_of_k03 : FnScope n_l_text_of_k03 ["_law_box"] (defScope (top 29)) := ⟨rfl, rfl, rfl, by decide +kernel, rfl, by decide +kernel, by decide +kernel⟩
theorem ok_l_text_of_k03 {P : Program} {w : World} {K : PySem.W.Frag} {T : GA} {mg : Str → Option Value} {base : Heap} {k : Nat} {f : Addr} {fd : FuncData} (F : FnP K "_law_text_of" "_law_text_of" (top 29) f fd) (fx : Fx P w K T mg) (lv : Lv P w K T mg base k) :
    FnT P w K mg base (L2.CX P w) (k + 2) f fd ["_law_box"] (spM K T (callF false (k + 2) .l_text_of_k03)) := by
  refine fn_M F sc_l_text_of_k03 (b := b_l_text_of_k03) rfl fun cdv A outer s H E hr tk tf fr po => ?_
  have nd := (sc_l_text_of_k03).nd
  have hu := hr.units
  have hcold : (cOf false k).hot = false := rfl
  exact (b_cons (s_if (t_cmp .eq rfl hu (e_call (C := cOf false k) (g := .l_take) rfl tf hr lv.fn_law_take rfl (a_cons (w_var 0) (a_cons e_int a_nil))) e_int (nomark _))
  (b_cons (s_ret (e_call (C := cOf false k) (g := .l_text) rfl tf hr lv.fn_law_text rfl (a_cons (e_call (C := cOf false k) (g := .l_deep) rfl tf hr lv.fn_law_deep rfl (a_cons (w_var 0) (a_cons (e_bin .add rfl e_int (e_call (C := cOf false k) (g := .l_take) rfl tf hr lv.fn_law_take rfl (a_cons (w_var 0) (a_cons e_int a_nil)))) a_nil))) a_nil)))
  b_nil)
  b_nil)
  (b_cons (s_if (t_cmp .eq rfl hu (e_call (C := cOf false k) (g := .l_take) rfl tf hr lv.fn_law_take rfl (a_cons (w_var 0) (a_cons e_int a_nil))) e_int (nomark _))
  (b_cons (s_set (i := 1) nd (by rfl) (.inr rfl) (e_lst (a_cons (e_str (t := [97, 100, 100])) (a_cons (e_str (t := [115, 117, 98])) (a_cons (e_str (t := [109, 117, 108])) (a_cons (e_str (t := [115, 117, 109])) (a_cons (e_str (t := [112, 105, 99, 107])) (a_cons (e_str (t := [97, 49])) (a_cons (e_str (t := [102, 57])) (a_cons (e_str (t := [51])) (a_cons (e_str (t := [45, 50])) (a_cons (e_str (t := [61])) (a_cons (e_str (t := [48])) (a_cons (e_str (t := [48, 48, 55])) (a_cons (e_str (t := [103, 49])) (a_cons (e_str (t := [])) a_nil))))))))))))))))
  (b_cons (s_ret (e_join rfl (e_str (t := [32])) (e_bin .add rfl (e_lst (a_cons (e_str (t := [61])) a_nil)) (e_lc0 (C := cOf false k) rfl tf (by exact fr) rfl nd (by exact (i_rng1 rfl fx.free_range (e_call (C := cOf false k) (g := .l_take) rfl tf hr lv.fn_law_take rfl (a_cons (w_var 0) (a_cons e_int a_nil))))) (blkOk_by (by kernel_rfl)) (by first | exact .inl rfl | exact .inr rfl) (fun _ _ _ _ _ _ tf => by exact (e_ix rfl (w_var 1) (e_call (C := cOf false k) (g := .l_take) rfl tf hr lv.fn_law_take rfl (a_cons (w_var 0) (a_cons e_int a_nil)))))))))
  b_nil))
  b_nil)
  (b_cons (s_set (i := 3) nd (by rfl) (.inl rfl) (e_call (C := cOf false k) (g := .l_text) rfl tf hr lv.fn_law_text rfl (a_cons (e_call (C := cOf false k) (g := .l_content) rfl tf hr lv.fn_law_content rfl (a_cons (w_var 0) (a_cons (e_ix rfl (e_lst (a_cons e_int (a_cons e_int a_nil))) (e_call (C := cOf false k) (g := .l_take) rfl tf hr lv.fn_law_take rfl (a_cons (w_var 0) (a_cons e_int a_nil)))) a_nil))) a_nil)))
  (b_cons (s_if (t_cmp .eq rfl hu (e_call (C := cOf false k) (g := .l_take) rfl tf hr lv.fn_law_take rfl (a_cons (w_var 0) (a_cons e_int a_nil))) e_int (nomark _))
  (b_cons (s_ret (w_var 3))
  b_nil)
  b_nil)
  (b_cons (s_for po rfl (i_rng1 rfl fx.free_range (e_bin .add rfl e_int (e_call (C := cOf false k) (g := .l_take) rfl tf hr lv.fn_law_take rfl (a_cons (w_var 0) (a_cons e_int a_nil))))) (pg_name nd (i := 4) (by rfl) (.inl rfl))
  (b_cons (s_set (i := 5) nd (by rfl) (.inl rfl) (e_call (C := cOf false k) (g := .l_take) rfl tf hr lv.fn_law_take rfl (a_cons (w_var 0) (a_cons (e_bin .add rfl (e_b1B .len (cr_len rfl) rfl fx.free_len w_boot_len (w_var 3)) e_int) a_nil))))
  (b_cons (s_set (i := 6) nd (by rfl) (.inl rfl) (e_ix rfl (e_str (t := [61, 32, 48, 49, 50, 57, 45, 97, 98, 103, 100, 109, 43, 115, 117, 112])) (e_call (C := cOf false k) (g := .l_take) rfl tf hr lv.fn_law_take rfl (a_cons (w_var 0) (a_cons e_int a_nil)))))
  (b_cons (s_set (i := 7) nd (by rfl) (.inl rfl) (e_call (C := cOf false k) (g := .l_take) rfl tf hr lv.fn_law_take rfl (a_cons (w_var 0) (a_cons e_int a_nil))))
  (b_cons (s_set (i := 3) nd (by rfl) (.inl rfl) (e_bin .add rfl (e_bin .add rfl (e_slH rfl (w_var 3) (w_var 5)) (e_ix rfl (e_lst (a_cons (e_str (t := [])) (a_cons (w_var 6) (a_cons (w_var 6) a_nil)))) (w_var 7))) (e_slL rfl (w_var 3) (e_bin .add rfl (w_var 5) (e_ix rfl (e_lst (a_cons e_int (a_cons e_int (a_cons e_int a_nil)))) (w_var 7))))))
  b_nil)))) (g_one (i := 4) no_cu))
  (b_cons (s_ret (w_var 3))
  b_nil))))))
def n_l_good_cell : List Str := ["_law_cell_here"]
theorem sc_l_good_cell : FnScope n_l_good_cell ["_law_cell_here"] (defScope (top 30)) := ⟨rfl, rfl, rfl, by decide +kernel, rfl, by decide +kernel, by decide +kernel⟩
theorem ok_l_good_cell {P : Program} {w : World} {K : PySem.W.Frag} {T : GA} {mg : Str → Option Value} {base : Heap} {k : Nat} {f : Addr} {fd : FuncData} (F : FnP K "_law_good_cell" "_law_good_cell" (top 30) f fd) (fx : Fx P w K T mg) (lv : Lv P w K T mg base k) :
    FnT P w K mg base (L2.CX P w) (k + 2) f fd ["_law_cell_here"] (spM K T (callF false (k + 2) .l_good_cell)) := by
  refine fn_M F sc_l_good_cell (b := b_l_good_cell) rfl fun cdv A outer s H E hr tk tf fr po => ?_
  have nd := (sc_l_good_cell).nd
  have hu := hr.units
  have hcold : (cOf false k).hot = false := rfl
  exact (b_cons (s_ret (e_and (e_isi .str rfl rfl fx.free_isinstance boot_isinstance rfl fx.free_str w_boot_str (w_var 0)) (e_and (e_cmp .eq rfl hu (e_b1B .len (cr_len rfl) rfl fx.free_len w_boot_len (w_var 0)) e_int (nomark _)) (e_and (e_cmp .inn rfl hu (e_ix rfl (w_var 0) e_int) (e_str (t := [97, 98, 99, 100, 101, 102])) (by with_unfolding_all rfl)) (e_one (e_cmp .inn rfl hu (e_ix rfl (w_var 0) e_int) (e_str (t := [49, 50, 51, 52, 53, 54, 55, 56, 57])) (by with_unfolding_all rfl)))))))
  b_nil)
def n_l_good : List Str := ["_law_part_here", "_law_deep_here", "_law_good_here", "_law_c", "_law_many", "_law_one"]
theorem sc_l_good : FnScope n_l_good ["_law_part_here", "_law_deep_here"] (defScope (top 31)) := ⟨rfl, rfl, rfl, by decide +kernel, rfl, by decide +kernel, by decide +kernel⟩
theorem ok_l_good {P : Program} {w : World} {K : PySem.W.Frag} {T : GA} {mg : Str → Option Value} {base : Heap} {k : Nat} {f : Addr} {fd : FuncData} (F : FnP K "_law_good" "_law_good" (top 31) f fd) (fx : Fx P w K T mg) (lv : Lv P w K T mg base k) :
    FnT P w K mg base (L2.CX P w) (k + 2) f fd ["_law_part_here", "_law_deep_here"] (spM K T (callF false (k + 2) .l_good)) := by
  refine fn_M F sc_l_good (b := b_l_good) rfl fun cdv A outer s H E hr tk tf fr po => ?_
  have nd := (sc_l_good).nd
  have hu := hr.units
  have hcold : (cOf false k).hot = false := rfl
  exact (b_cons (s_if (PW.pt (t_or (t_not (t_val (e_isi .tup rfl rfl fx.free_isinstance boot_isinstance rfl fx.free_tuple w_boot_tuple (w_var 0)))) (t_or (t_cmp .eq rfl hu (e_b1B .len (cr_len rfl) rfl fx.free_len w_boot_len (w_var 0)) e_int (nomark _)) (t_or (t_cmp .gt rfl hu (w_var 1) e_int (nomark _)) (pw_or1 (t_not (t_val (e_isi .str rfl rfl fx.free_isinstance boot_isinstance rfl fx.free_str w_boot_str (e_ix rfl (w_var 0) e_int)))))))))
  (b_cons (s_ret e_bl)
  b_nil)
  b_nil)
  (b_cons (s_if (t_cmp .eq rfl hu (e_ix rfl (w_var 0) e_int) (e_str (t := [110, 117, 109])) (nomark _))
  (b_cons (s_set (i := 2) nd (by rfl) (.inl rfl) (e_and (e_cmp .eq rfl hu (e_b1B .len (cr_len rfl) rfl fx.free_len w_boot_len (w_var 0)) e_int (nomark _)) (e_and (e_isi .int rfl rfl fx.free_isinstance boot_isinstance rfl fx.free_int w_boot_int (e_ix rfl (w_var 0) e_int)) (e_one (e_not (e_isi .bool rfl rfl fx.free_isinstance boot_isinstance rfl fx.free_bool w_boot_bool (e_ix rfl (w_var 0) e_int)))))))
  (b_cons (s_ret (e_and (w_var 2) (e_one (e_cmp .lt rfl hu (e_b1B .abs cr_abs rfl fx.free_abs w_boot_abs (e_ix rfl (w_var 0) e_int)) e_int (nomark _)))))
  b_nil))
  b_nil)
  (b_cons (s_if (t_cmp .inn rfl hu (e_ix rfl (w_var 0) e_int) (e_tup (a_cons (e_str (t := [99, 101, 108, 108])) (a_cons (e_str (t := [115, 117, 109])) a_nil))) (by with_unfolding_all rfl))
  (b_cons (s_ret (e_and (e_cmp .eq rfl hu (e_b1B .len (cr_len rfl) rfl fx.free_len w_boot_len (w_var 0)) (e_ix rfl (e_lst (a_cons e_int (a_cons e_int a_nil))) (e_b1T .int cr_int rfl fx.free_int w_boot_int (e_cmp .eq rfl hu (e_ix rfl (w_var 0) e_int) (e_str (t := [115, 117, 109])) (nomark _)))) (nomark _)) (e_one (e_cmp .eq rfl hu (e_lc1 (C := cOf false k) rfl tf (by exact fr) rfl nd (by exact (i_seq rfl (e_slL rfl (w_var 0) e_int))) (blkOk_by (by kernel_rfl)) (by first | exact .inl rfl | exact .inr rfl) (fun _ _ _ _ _ _ tf => by exact (w_var 3)) (fun _ _ _ _ _ _ tf => by exact (t_not (t_val (e_call (C := cOf false k) (g := .l_good_cell) rfl tf hr lv.fn_law_good_cell rfl (a_cons (w_var 3) a_nil)))))) (e_lst a_nil) (nomark _)))))
  b_nil)
  b_nil)
  (b_cons (s_set (i := 4) nd (by rfl) (.inl rfl) (e_dget2 hu ⟨rfl, rfl, rfl, rfl⟩ (e_dct (pps_cons (e_str (t := [97, 100, 100])) e_int (pps_cons (e_str (t := [115, 117, 98])) e_int (pps_cons (e_str (t := [109, 117, 108])) e_int (pps_cons (e_str (t := [112, 105, 99, 107])) e_int pps_nil))))) (e_ix rfl (w_var 0) e_int) e_int))
  (b_cons (s_ret (e_and (e_cmp .eq rfl hu (e_b1B .len (cr_len rfl) rfl fx.free_len w_boot_len (w_var 0)) (w_var 4) (nomark _)) (e_one (e_cmp .eq rfl hu (e_lc1 (C := cOf false k) rfl tf (by exact fr) rfl nd (by exact (i_seq rfl (e_slL rfl (w_var 0) e_int))) (blkOk_by (by kernel_rfl)) (by first | exact .inl rfl | exact .inr rfl) (fun _ _ _ _ _ _ tf => by exact (w_var 5)) (fun _ _ _ _ _ _ tf => by exact (t_not (t_val (e_call (C := cOf false k) (g := .l_good) rfl tf hr lv.fn_law_good rfl (a_cons (w_var 5) (a_cons (e_bin .add rfl (w_var 1) e_int) a_nil))))))) (e_lst a_nil) (nomark _)))))
  b_nil)))))
def n_law_k03 : List Str := ["_law_script", "_law_box", "_law_text_here", "_law_told", "e"]
theorem sc_law_k03 : FnScope n_law_k03 ["_law_script"] (defScope (top 32)) := ⟨rfl, rfl, rfl, by decide +kernel, rfl, by decide +kernel, by decide +kernel⟩
theorem ok_law_k03 {P : Program} {w : World} {K : PySem.W.Frag} {T : GA} {mg : Str → Option Value} {base : Heap} {k : Nat} {f : Addr} {fd : FuncData} (F : FnP K "law" "law" (top 32) f fd) (fx : Fx P w K T mg) (lv : Lv P w K T mg base k) :
    FnT P w K mg base (L2.CX P w) (k + 2) f fd ["_law_script"] (spM K T (callF false (k + 2) .law_k03)) := by
  refine fn_M F sc_law_k03 (b := b_law_k03) rfl fun cdv A outer s H E hr tk tf fr po => ?_
  have nd := (sc_law_k03).nd
  have hu := hr.units
  have hcold : (cOf false k).hot = false := rfl
  exact (b_cons (s_set (i := 1) nd (by rfl) (.inl rfl) (e_call (C := cOf false k) (g := .l_begun) rfl tf hr lv.fn_law_begun rfl (a_cons (w_var 0) a_nil)))
  (b_cons (s_set (i := 2) nd (by rfl) (.inl rfl) (e_call (C := cOf false k) (g := .l_text_of_k03) rfl tf hr lv.fn_law_text_of rfl (a_cons (w_var 1) a_nil)))
  (b_cons (try_as rfl rfl hcold rfl rfl nd (by rfl) rfl ⟨rfl, by decide +kernel, .inl fx.rmg_TableError⟩ fx.exm_TableError tk
  (fun _ _ _ tk po => have tf := Takes.f tk rfl; (b_cons (s_set (i := 3) nd (by rfl) (.inl rfl) (e_call (C := cOf false k) (g := .read) rfl tf hr lv.fn_read rfl (a_cons (w_var 2) a_nil)))
  b_nil))
  (fun _ _ _ _ _ hz hf => (b_cons (s_ret (e_and (e_isE (p5 := ⟨0, 0, 0, 0⟩) hcold hz hf (by rfl) (.inl rfl) rfl fx.free_isinstance rfl fx.rmg_BadFormula fx.excE_BadFormula) (e_and (e_isVE hcold hz hf (by rfl) (.inl rfl) rfl fx.free_isinstance rfl fx.free_ValueError fx.excVE_ValueError) (e_one (e_not (e_isE (p5 := ⟨0, 0, 0, 0⟩) hcold hz hf (by rfl) (.inl rfl) rfl fx.free_isinstance rfl fx.rmg_NoCell fx.excE_NoCell))))))
  b_nil)))
  (b_cons (s_if (PW.pt (t_and (t_cmp .notN rfl hu (w_var 3) e_non (nomark _)) (pw_and1 (t_not (t_val (e_call (C := cOf false k) (g := .l_good) rfl tf hr lv.fn_law_good rfl (a_cons (w_var 3) (a_cons e_int a_nil))))))))
  (b_cons (s_ret e_bl)
  b_nil)
  b_nil)
  (b_cons (s_ret (e_cmp .eq rfl hu (e_call (C := cOf false k) (g := .l_text) rfl tf hr lv.fn_law_text rfl (a_cons (w_var 3) a_nil)) (w_var 2) (nomark _)))
  b_nil)))))
end Mi
end

section
set_option Elab.async false
set_option linter.all false
set_option maxRecDepth 100000
set_option maxHeartbeats 0
namespace Mi
open PySem PySem.Spec L2
open PyProof.Rows hiding St
def TL (K : PySem.W.Frag) : GA where
  ca := fun
    | .reader => He.ga K "Reader"
    | .reckoner => He.ga K "TableError"
    | .point => He.ga K "TableError"
    | .tree => He.ga K "TableError"
  ea := fun
    | .table => He.ga K "TableError"
    | .cell => He.ga K "NoCell"
    | .form => He.ga K "BadFormula"
    | .off => He.ga K "TableError"
    | .point => He.ga K "TableError"
    | .hand => He.ga K "TableError"
    | .note => He.ga K "TableError"
theorem fxL {w : World} {K : PySem.W.Frag} {h : Heap} {mg : Str → Option Value} (X : K.In h) (G : h.Ns mainGlobals mg) {h0 : Heap} (c : He.SaysX faL fnL tsL [] exL w h0 K) : Fx PySem.Challenge.pw_undotable_k03_whole_contents_read w K (TL K) mg where
  excE_BadFormula := fun c' hn => match c', hn with
    | .table, _ => ⟨excB_ok (exk c 1), of_decide_eq_true (exk c 2)⟩
    | .cell, _ => ⟨excB_ok (exk c 3), of_decide_eq_true (exk c 4)⟩
    | .form, _ => ⟨excB_ok (exk c 5), of_decide_eq_true (exk c 6)⟩
    | .off, _ => ⟨excB_ok (exk c 1), of_decide_eq_true (exk c 2)⟩
    | .point, _ => ⟨excB_ok (exk c 1), of_decide_eq_true (exk c 2)⟩
    | .hand, _ => ⟨excB_ok (exk c 1), of_decide_eq_true (exk c 2)⟩
    | .note, hn => absurd rfl hn
  excE_NoCell := fun c' hn => match c', hn with
    | .table, _ => ⟨excB_ok (exk c 1), of_decide_eq_true (exk c 7)⟩
    | .cell, _ => ⟨excB_ok (exk c 3), of_decide_eq_true (exk c 8)⟩
    | .form, _ => ⟨excB_ok (exk c 5), of_decide_eq_true (exk c 9)⟩
    | .off, _ => ⟨excB_ok (exk c 1), of_decide_eq_true (exk c 7)⟩
    | .point, _ => ⟨excB_ok (exk c 1), of_decide_eq_true (exk c 7)⟩
    | .hand, _ => ⟨excB_ok (exk c 1), of_decide_eq_true (exk c 7)⟩
    | .note, hn => absurd rfl hn
  excVE_ValueError := fun c' hn => match c', hn with
    | .table, _ => ⟨excB_ok (exk c 1), of_decide_eq_true (exk c 10)⟩
    | .cell, _ => ⟨excB_ok (exk c 3), of_decide_eq_true (exk c 11)⟩
    | .form, _ => ⟨excB_ok (exk c 5), of_decide_eq_true (exk c 12)⟩
    | .off, _ => ⟨excB_ok (exk c 1), of_decide_eq_true (exk c 10)⟩
    | .point, _ => ⟨excB_ok (exk c 1), of_decide_eq_true (exk c 10)⟩
    | .hand, _ => ⟨excB_ok (exk c 1), of_decide_eq_true (exk c 10)⟩
    | .note, hn => absurd rfl hn
  exm_NoCell := fun c' => match c' with
    | .table => He.exm_ok (c.t.d.fact 0 (f := .exm "TableError" "NoCell" false) rfl)
    | .cell => He.exm_ok (c.t.d.fact 1 (f := .exm "NoCell" "NoCell" true) rfl)
    | .form => He.exm_ok (c.t.d.fact 2 (f := .exm "BadFormula" "NoCell" false) rfl)
    | .off => He.exm_ok (c.t.d.fact 0 (f := .exm "TableError" "NoCell" false) rfl)
    | .point => He.exm_ok (c.t.d.fact 0 (f := .exm "TableError" "NoCell" false) rfl)
    | .hand => He.exm_ok (c.t.d.fact 0 (f := .exm "TableError" "NoCell" false) rfl)
    | .note => He.exm_ok (c.t.d.fact 0 (f := .exm "TableError" "NoCell" false) rfl)
  exm_TableError := fun c' => match c' with
    | .table => He.exm_ok (c.t.d.fact 3 (f := .exm "TableError" "TableError" true) rfl)
    | .cell => He.exm_ok (c.t.d.fact 4 (f := .exm "NoCell" "TableError" true) rfl)
    | .form => He.exm_ok (c.t.d.fact 5 (f := .exm "BadFormula" "TableError" true) rfl)
    | .off => He.exm_ok (c.t.d.fact 3 (f := .exm "TableError" "TableError" true) rfl)
    | .point => He.exm_ok (c.t.d.fact 3 (f := .exm "TableError" "TableError" true) rfl)
    | .hand => He.exm_ok (c.t.d.fact 3 (f := .exm "TableError" "TableError" true) rfl)
    | .note => He.exm_ok (c.t.d.fact 3 (f := .exm "TableError" "TableError" true) rfl)
  fd_reader_at := fdk (c.t.d.fact 6 (f := .cls "Reader") rfl) (c.t.d.fact 7 (f := .noat "Reader" "at") rfl) rfl
  fd_reader_words := fdk (c.t.d.fact 6 (f := .cls "Reader") rfl) (c.t.d.fact 8 (f := .noat "Reader" "words") rfl) rfl
  free_ValueError := He.free_ok X G (c.t.d.fact 9 (f := .free "ValueError") rfl)
  free_abs := He.free_ok X G (c.t.d.fact 10 (f := .free "abs") rfl)
  free_bool := He.free_ok X G (c.t.d.fact 11 (f := .free "bool") rfl)
  free_int := He.free_ok X G (c.t.d.fact 12 (f := .free "int") rfl)
  free_isinstance := He.free_ok X G (c.t.d.fact 13 (f := .free "isinstance") rfl)
  free_len := He.free_ok X G (c.t.d.fact 14 (f := .free "len") rfl)
  free_list := He.free_ok X G (c.t.d.fact 15 (f := .free "list") rfl)
  free_range := He.free_ok X G (c.t.d.fact 16 (f := .free "range") rfl)
  free_sorted := He.free_ok X G (c.t.d.fact 17 (f := .free "sorted") rfl)
  free_str := He.free_ok X G (c.t.d.fact 18 (f := .free "str") rfl)
  free_tuple := He.free_ok X G (c.t.d.fact 19 (f := .free "tuple") rfl)
  g_COLUMNS := gc_str X G (c.t.d.fact 20 (f := .str "COLUMNS" "abcdef") rfl) rfl (by rfl)
  g_FIGURES := gc_str X G (c.t.d.fact 21 (f := .str "FIGURES" "0123456789") rfl) rfl (by rfl)
  g_MOST_DEEP := gc_int X G (c.t.d.fact 22 (f := .int "MOST_DEEP" 5) rfl) rfl
  g_MOST_FIGURES := gc_int X G (c.t.d.fact 23 (f := .int "MOST_FIGURES" 6) rfl) rfl
  g_ROWS := gc_str X G (c.t.d.fact 24 (f := .str "ROWS" "123456789") rfl) rfl (by rfl)
  parts_PARTS := parts_ok X G (c.t.d.fact 25 (f := .glo "PARTS") rfl) (c.t.tab 0) (exk c 13)
  rmg_BadFormula := He.glo_ok X G (c.t.d.fact 26 (f := .glo "BadFormula") rfl)
  rmg_NoCell := He.glo_ok X G (c.t.d.fact 27 (f := .glo "NoCell") rfl)
  rmg_TableError := He.glo_ok X G (c.t.d.fact 28 (f := .glo "TableError") rfl)
  rx_BadFormula := rxk X G (c.t.d.fact 26 (f := .glo "BadFormula") rfl) (c.t.d.fact 29 (f := .exc "BadFormula") rfl) rfl
  rx_NoCell := rxk X G (c.t.d.fact 27 (f := .glo "NoCell") rfl) (c.t.d.fact 30 (f := .exc "NoCell") rfl) rfl
structure AL (P : Program) (w : World) (K : PySem.W.Frag) (mg : Str → Option Value) (base : Heap) (k : Nat) : Prop where
  a_need_cell : AtL P w K (TL K) mg base .need_cell d_need_cell ["cell"] k
  a_number_of : AtL P w K (TL K) mg base .number_of d_number_of ["word"] k
  a_rd_init : AtL P w K (TL K) mg base .rd_init d_rd_init ["self", "words"] k
  a_rd_word : AtL P w K (TL K) mg base .rd_word d_rd_word ["self"] k
  a_rd_cell : AtL P w K (TL K) mg base .rd_cell d_rd_cell ["self"] k
  a_rd_part : AtL P w K (TL K) mg base .rd_part d_rd_part ["self", "deep"] k
  a_read : AtL P w K (TL K) mg base .read d_read ["text"] k
  a_l_begun : AtL P w K (TL K) mg base .l_begun d_l_begun ["_law_script"] k
  a_l_take : AtL P w K (TL K) mg base .l_take d_l_take ["_law_box", "_law_many"] k
  a_l_alike : AtL P w K (TL K) mg base .l_alike d_l_alike ["_law_found", "_law_due"] k
  a_l_cell : AtL P w K (TL K) mg base .l_cell d_l_cell ["_law_box"] k
  a_l_stretch : AtL P w K (TL K) mg base .l_stretch d_l_stretch ["_law_one", "_law_other"] k
  a_l_down : AtL P w K (TL K) mg base .l_down d_l_down ["_law_cell_here", "_law_rows"] k
  a_l_part : AtL P w K (TL K) mg base .l_part d_l_part ["_law_box", "_law_deep_here"] k
  a_l_content : AtL P w K (TL K) mg base .l_content d_l_content ["_law_box", "_law_deep_here"] k
  a_l_part_text : AtL P w K (TL K) mg base .l_part_text d_l_part_text ["_law_part_here"] k
  a_l_text : AtL P w K (TL K) mg base .l_text d_l_text ["_law_content_here"] k
  a_l_reads : AtL P w K (TL K) mg base .l_reads d_l_reads ["_law_content_here"] k
  a_l_deep : AtL P w K (TL K) mg base .l_deep d_l_deep ["_law_box", "_law_deep_here"] k
  a_l_text_of_k03 : AtL P w K (TL K) mg base .l_text_of_k03 d_l_text_of_k03 ["_law_box"] k
  a_l_good_cell : AtL P w K (TL K) mg base .l_good_cell d_l_good_cell ["_law_cell_here"] k
  a_l_good : AtL P w K (TL K) mg base .l_good d_l_good ["_law_part_here", "_law_deep_here"] k
  a_law_k03 : AtL P w K (TL K) mg base .law_k03 d_law_k03 ["_law_script"] k
  n_need_cell : AtLN P w K (TL K) mg base .need_cell d_need_cell ["cell"] k
theorem bi_need_cell : BindsP d_need_cell ["cell"] := fun _ _ _ _ _ _ us hl => match us, hl with | [_], _ => rfl
theorem bi_number_of : BindsP d_number_of ["word"] := fun _ _ _ _ _ _ us hl => match us, hl with | [_], _ => rfl
theorem bi_rd_init : BindsP d_rd_init ["self", "words"] := fun _ _ _ _ _ _ us hl => match us, hl with | [_, _], _ => rfl
theorem bi_rd_word : BindsP d_rd_word ["self"] := fun _ _ _ _ _ _ us hl => match us, hl with | [_], _ => rfl
theorem bi_rd_cell : BindsP d_rd_cell ["self"] := fun _ _ _ _ _ _ us hl => match us, hl with | [_], _ => rfl
theorem bi_rd_part : BindsP d_rd_part ["self", "deep"] := fun _ _ _ _ _ _ us hl => match us, hl with | [_, _], _ => rfl
theorem bi_read : BindsP d_read ["text"] := fun _ _ _ _ _ _ us hl => match us, hl with | [_], _ => rfl
theorem bi_l_begun : BindsP d_l_begun ["_law_script"] := fun _ _ _ _ _ _ us hl => match us, hl with | [_], _ => rfl
theorem bi_l_take : BindsP d_l_take ["_law_box", "_law_many"] := fun _ _ _ _ _ _ us hl => match us, hl with | [_, _], _ => rfl
theorem bi_l_alike : BindsP d_l_alike ["_law_found", "_law_due"] := fun _ _ _ _ _ _ us hl => match us, hl with | [_, _], _ => rfl
theorem bi_l_cell : BindsP d_l_cell ["_law_box"] := fun _ _ _ _ _ _ us hl => match us, hl with | [_], _ => rfl
theorem bi_l_stretch : BindsP d_l_stretch ["_law_one", "_law_other"] := fun _ _ _ _ _ _ us hl => match us, hl with | [_, _], _ => rfl
theorem bi_l_down : BindsP d_l_down ["_law_cell_here", "_law_rows"] := fun _ _ _ _ _ _ us hl => match us, hl with | [_, _], _ => rfl
theorem bi_l_part : BindsP d_l_part ["_law_box", "_law_deep_here"] := fun _ _ _ _ _ _ us hl => match us, hl with | [_, _], _ => rfl
theorem bi_l_content : BindsP d_l_content ["_law_box", "_law_deep_here"] := fun _ _ _ _ _ _ us hl => match us, hl with | [_, _], _ => rfl
theorem bi_l_part_text : BindsP d_l_part_text ["_law_part_here"] := fun _ _ _ _ _ _ us hl => match us, hl with | [_], _ => rfl
theorem bi_l_text : BindsP d_l_text ["_law_content_here"] := fun _ _ _ _ _ _ us hl => match us, hl with | [_], _ => rfl
theorem bi_l_reads : BindsP d_l_reads ["_law_content_here"] := fun _ _ _ _ _ _ us hl => match us, hl with | [_], _ => rfl
theorem bi_l_deep : BindsP d_l_deep ["_law_box", "_law_deep_here"] := fun _ _ _ _ _ _ us hl => match us, hl with | [_, _], _ => rfl
theorem bi_l_text_of_k03 : BindsP d_l_text_of_k03 ["_law_box"] := fun _ _ _ _ _ _ us hl => match us, hl with | [_], _ => rfl
theorem bi_l_good_cell : BindsP d_l_good_cell ["_law_cell_here"] := fun _ _ _ _ _ _ us hl => match us, hl with | [_], _ => rfl
theorem bi_l_good : BindsP d_l_good ["_law_part_here", "_law_deep_here"] := fun _ _ _ _ _ _ us hl => match us, hl with | [_, _], _ => rfl
theorem bi_law_k03 : BindsP d_law_k03 ["_law_script"] := fun _ _ _ _ _ _ us hl => match us, hl with | [_], _ => rfl
section
variable {w : World} {K : PySem.W.Frag} {h h0 : Heap} {mg : Str → Option Value} {base : Heap}
theorem lvL {P : Program} {k : Nat} (X : K.In h) (G : h.Ns mainGlobals mg) (c : He.SaysX faL fnL tsL [] exL w h0 K) (a : AL P w K mg base k) (b : AL P w K mg base (k + 1)) : Lv P w K (TL K) mg base k where
  fn_law_alike := b.a_l_alike.fn X G (c.t.d.fact 31 (f := .glo "_law_alike") rfl) bi_l_alike rfl
  fn_law_begun := b.a_l_begun.fn X G (c.t.d.fact 32 (f := .glo "_law_begun") rfl) bi_l_begun rfl
  fn_law_cell := b.a_l_cell.fn X G (c.t.d.fact 33 (f := .glo "_law_cell") rfl) bi_l_cell rfl
  fn_law_content := b.a_l_content.fn X G (c.t.d.fact 34 (f := .glo "_law_content") rfl) bi_l_content rfl
  fn_law_deep := b.a_l_deep.fn X G (c.t.d.fact 35 (f := .glo "_law_deep") rfl) bi_l_deep rfl
  fn_law_good := b.a_l_good.fn X G (c.t.d.fact 36 (f := .glo "_law_good") rfl) bi_l_good rfl
  fn_law_good_cell := b.a_l_good_cell.fn X G (c.t.d.fact 37 (f := .glo "_law_good_cell") rfl) bi_l_good_cell rfl
  fn_law_part := b.a_l_part.fn X G (c.t.d.fact 38 (f := .glo "_law_part") rfl) bi_l_part rfl
  fn_law_part_text := b.a_l_part_text.fn X G (c.t.d.fact 39 (f := .glo "_law_part_text") rfl) bi_l_part_text rfl
  fn_law_reads := b.a_l_reads.fn X G (c.t.d.fact 40 (f := .glo "_law_reads") rfl) bi_l_reads rfl
  fn_law_stretch := b.a_l_stretch.fn X G (c.t.d.fact 41 (f := .glo "_law_stretch") rfl) bi_l_stretch rfl
  fn_law_take := b.a_l_take.fn X G (c.t.d.fact 42 (f := .glo "_law_take") rfl) bi_l_take rfl
  fn_law_text := b.a_l_text.fn X G (c.t.d.fact 43 (f := .glo "_law_text") rfl) bi_l_text rfl
  fn_law_text_of := b.a_l_text_of_k03.fn X G (c.t.d.fact 44 (f := .glo "_law_text_of") rfl) bi_l_text_of_k03 rfl
  fn_number_of := b.a_number_of.fn X G (c.t.d.fact 45 (f := .glo "number_of") rfl) bi_number_of rfl
  fn_read := b.a_read.fn X G (c.t.d.fact 46 (f := .glo "read") rfl) bi_read rfl
  fnN_need_cell := b.n_need_cell.fn X G (c.t.d.fact 47 (f := .glo "need_cell") rfl) bi_need_cell rfl
  mk_Reader := a.a_rd_init.mk X G (c.t.d.fact 48 (f := .glo "Reader") rfl) (c.t.d.fact 49 (f := .mkr "Reader") rfl) bi_rd_init rfl rfl
  mt_cell := b.a_rd_cell.mt (c.t.d.fact 6 (f := .cls "Reader") rfl) (c.t.d.fact 50 (f := .meth "Reader" "cell") rfl) (by intro fl; cases fl <;> decide) bi_rd_cell rfl rfl
  mt_part := b.a_rd_part.mt (c.t.d.fact 6 (f := .cls "Reader") rfl) (c.t.d.fact 51 (f := .meth "Reader" "part") rfl) (by intro fl; cases fl <;> decide) bi_rd_part rfl rfl
  mt_word := b.a_rd_word.mt (c.t.d.fact 6 (f := .cls "Reader") rfl) (c.t.d.fact 52 (f := .meth "Reader" "word") rfl) (by intro fl; cases fl <;> decide) bi_rd_word rfl rfl
theorem alL {P : Program} (X : K.In h) (G : h.Ns mainGlobals mg) (c : He.SaysX faL fnL tsL [] exL w h0 K) (fx : Fx P w K (TL K) mg) (k : Nat) : AL P w K mg base k := by
  refine lev2 ?_ ?_ (fun k a b => ?_) k
  · exact { a_need_cell := .zero (c.t.d.def_ 0 (d := d_need_cell) rfl), a_number_of := .zero (c.t.d.def_ 1 (d := d_number_of) rfl), a_rd_init := .zero (c.t.d.def_ 2 (d := d_rd_init) rfl), a_rd_word := .zero (c.t.d.def_ 3 (d := d_rd_word) rfl), a_rd_cell := .zero (c.t.d.def_ 4 (d := d_rd_cell) rfl), a_rd_part := .zero (c.t.d.def_ 5 (d := d_rd_part) rfl), a_read := .zero (c.t.d.def_ 6 (d := d_read) rfl), a_l_begun := .zero (c.t.d.def_ 7 (d := d_l_begun) rfl), a_l_take := .zero (c.t.d.def_ 8 (d := d_l_take) rfl), a_l_alike := .zero (c.t.d.def_ 9 (d := d_l_alike) rfl), a_l_cell := .zero (c.t.d.def_ 10 (d := d_l_cell) rfl), a_l_stretch := .zero (c.t.d.def_ 11 (d := d_l_stretch) rfl), a_l_down := .zero (c.t.d.def_ 12 (d := d_l_down) rfl), a_l_part := .zero (c.t.d.def_ 13 (d := d_l_part) rfl), a_l_content := .zero (c.t.d.def_ 14 (d := d_l_content) rfl), a_l_part_text := .zero (c.t.d.def_ 15 (d := d_l_part_text) rfl), a_l_text := .zero (c.t.d.def_ 16 (d := d_l_text) rfl), a_l_reads := .zero (c.t.d.def_ 17 (d := d_l_reads) rfl), a_l_deep := .zero (c.t.d.def_ 18 (d := d_l_deep) rfl), a_l_text_of_k03 := .zero (c.t.d.def_ 19 (d := d_l_text_of_k03) rfl), a_l_good_cell := .zero (c.t.d.def_ 20 (d := d_l_good_cell) rfl), a_l_good := .zero (c.t.d.def_ 21 (d := d_l_good) rfl), a_law_k03 := .zero (c.t.d.def_ 22 (d := d_law_k03) rfl), n_need_cell := .zero (c.t.d.def_ 0 (d := d_need_cell) rfl) }
  · exact { a_need_cell := .one (c.t.d.def_ 0 (d := d_need_cell) rfl), a_number_of := .one (c.t.d.def_ 1 (d := d_number_of) rfl), a_rd_init := .one (c.t.d.def_ 2 (d := d_rd_init) rfl), a_rd_word := .one (c.t.d.def_ 3 (d := d_rd_word) rfl), a_rd_cell := .one (c.t.d.def_ 4 (d := d_rd_cell) rfl), a_rd_part := .one (c.t.d.def_ 5 (d := d_rd_part) rfl), a_read := .one (c.t.d.def_ 6 (d := d_read) rfl), a_l_begun := .one (c.t.d.def_ 7 (d := d_l_begun) rfl), a_l_take := .one (c.t.d.def_ 8 (d := d_l_take) rfl), a_l_alike := .one (c.t.d.def_ 9 (d := d_l_alike) rfl), a_l_cell := .one (c.t.d.def_ 10 (d := d_l_cell) rfl), a_l_stretch := .one (c.t.d.def_ 11 (d := d_l_stretch) rfl), a_l_down := .one (c.t.d.def_ 12 (d := d_l_down) rfl), a_l_part := .one (c.t.d.def_ 13 (d := d_l_part) rfl), a_l_content := .one (c.t.d.def_ 14 (d := d_l_content) rfl), a_l_part_text := .one (c.t.d.def_ 15 (d := d_l_part_text) rfl), a_l_text := .one (c.t.d.def_ 16 (d := d_l_text) rfl), a_l_reads := .one (c.t.d.def_ 17 (d := d_l_reads) rfl), a_l_deep := .one (c.t.d.def_ 18 (d := d_l_deep) rfl), a_l_text_of_k03 := .one (c.t.d.def_ 19 (d := d_l_text_of_k03) rfl), a_l_good_cell := .one (c.t.d.def_ 20 (d := d_l_good_cell) rfl), a_l_good := .one (c.t.d.def_ 21 (d := d_l_good) rfl), a_law_k03 := .one (c.t.d.def_ 22 (d := d_law_k03) rfl), n_need_cell := .one (c.t.d.def_ 0 (d := d_need_cell) rfl) }
  · have lv := lvL X G c a b
    exact { a_need_cell := (c.t.d.def_ 0 (d := d_need_cell) rfl).elim (fun fd F => ⟨fd, F, ok_need_cell F fx lv⟩), a_number_of := (c.t.d.def_ 1 (d := d_number_of) rfl).elim (fun fd F => ⟨fd, F, ok_number_of F fx lv⟩), a_rd_init := (c.t.d.def_ 2 (d := d_rd_init) rfl).elim (fun fd F => ⟨fd, F, ok_rd_init F fx lv⟩), a_rd_word := (c.t.d.def_ 3 (d := d_rd_word) rfl).elim (fun fd F => ⟨fd, F, ok_rd_word F fx lv⟩), a_rd_cell := (c.t.d.def_ 4 (d := d_rd_cell) rfl).elim (fun fd F => ⟨fd, F, ok_rd_cell F fx lv⟩), a_rd_part := (c.t.d.def_ 5 (d := d_rd_part) rfl).elim (fun fd F => ⟨fd, F, ok_rd_part F fx lv⟩), a_read := (c.t.d.def_ 6 (d := d_read) rfl).elim (fun fd F => ⟨fd, F, ok_read F fx lv⟩), a_l_begun := (c.t.d.def_ 7 (d := d_l_begun) rfl).elim (fun fd F => ⟨fd, F, ok_l_begun F fx lv⟩), a_l_take := (c.t.d.def_ 8 (d := d_l_take) rfl).elim (fun fd F => ⟨fd, F, ok_l_take F fx lv⟩), a_l_alike := (c.t.d.def_ 9 (d := d_l_alike) rfl).elim (fun fd F => ⟨fd, F, ok_l_alike F fx lv⟩), a_l_cell := (c.t.d.def_ 10 (d := d_l_cell) rfl).elim (fun fd F => ⟨fd, F, ok_l_cell F fx lv⟩), a_l_stretch := (c.t.d.def_ 11 (d := d_l_stretch) rfl).elim (fun fd F => ⟨fd, F, ok_l_stretch F fx lv⟩), a_l_down := (c.t.d.def_ 12 (d := d_l_down) rfl).elim (fun fd F => ⟨fd, F, ok_l_down F fx lv⟩), a_l_part := (c.t.d.def_ 13 (d := d_l_part) rfl).elim (fun fd F => ⟨fd, F, ok_l_part F fx lv⟩), a_l_content := (c.t.d.def_ 14 (d := d_l_content) rfl).elim (fun fd F => ⟨fd, F, ok_l_content F fx lv⟩), a_l_part_text := (c.t.d.def_ 15 (d := d_l_part_text) rfl).elim (fun fd F => ⟨fd, F, ok_l_part_text F fx lv⟩), a_l_text := (c.t.d.def_ 16 (d := d_l_text) rfl).elim (fun fd F => ⟨fd, F, ok_l_text F fx lv⟩), a_l_reads := (c.t.d.def_ 17 (d := d_l_reads) rfl).elim (fun fd F => ⟨fd, F, ok_l_reads F fx lv⟩), a_l_deep := (c.t.d.def_ 18 (d := d_l_deep) rfl).elim (fun fd F => ⟨fd, F, ok_l_deep F fx lv⟩), a_l_text_of_k03 := (c.t.d.def_ 19 (d := d_l_text_of_k03) rfl).elim (fun fd F => ⟨fd, F, ok_l_text_of_k03 F fx lv⟩), a_l_good_cell := (c.t.d.def_ 20 (d := d_l_good_cell) rfl).elim (fun fd F => ⟨fd, F, ok_l_good_cell F fx lv⟩), a_l_good := (c.t.d.def_ 21 (d := d_l_good) rfl).elim (fun fd F => ⟨fd, F, ok_l_good F fx lv⟩), a_law_k03 := (c.t.d.def_ 22 (d := d_law_k03) rfl).elim (fun fd F => ⟨fd, F, ok_law_k03 F fx lv⟩), n_need_cell := (c.t.d.def_ 0 (d := d_need_cell) rfl).elim (fun fd F => ⟨fd, F, okN_need_cell F fx lv⟩) }
end
end Mi
open PySem PySem.W PySem.Calls PyProof.Rows
theorem Mi.walkL (M : ∀ ns : List Int, ns.length ≤ 63 → ∃ S, Mi.callF false 693 .law_k03 [.ref 0] [.frl (Mi.ofI ns)] = .ok (.bl true) S) : WalkO (view (OpenLaw.row PySem.Challenge.rw_undotable_k03_whole_contents_read).prog [32]) Mi.looseL (XL (view (OpenLaw.row PySem.Challenge.rw_undotable_k03_whole_contents_read).prog [32]) []) Mi.hkL.says (OpenLaw.row PySem.Challenge.rw_undotable_k03_whole_contents_read).toRowW (HandSHeadRun.topDef (OpenLaw.row PySem.Challenge.rw_undotable_k03_whole_contents_read).prog 32) [] (fun f vs => PySem.call f vs) := by
  refine Mi.walk_M (l := PySem.Challenge.rw_undotable_k03_whole_contents_read) (n := 63) (k := 231) (x := "_law_script") rfl (by decide) (by kernel_rfl) ⟨rfl, by decide, by decide⟩ ?F
  intro w mg fa h Y G hmg0
  obtain ⟨K, KX, c⟩ := Y
  have hmg : mg ("law" : PySem.Str) = some (.ref fa) := by
    have e : (HandSHeadRun.topDef (OpenLaw.row PySem.Challenge.rw_undotable_k03_whole_contents_read).prog 32).name = ("law" : PySem.Str) := by kernel_rfl
    rw [← e]
    exact hmg0
  have ea := hmg.symm.trans (He.glo_ok KX G (c.t.d.fact 53 (f := .glo "law") rfl))
  cases ea
  have A := fun base : Heap => (Mi.alL (P := (PySem.Challenge.rw_undotable_k03_whole_contents_read).prog) (base := base) KX G c (Mi.fxL KX G c) 693).a_law_k03
  obtain ⟨fd, F⟩ := c.t.d.def_ 22 (d := Mi.d_law_k03) rfl
  refine ⟨K, fd, Mi.spM K (Mi.TL K) (Mi.callF false 693 .law_k03), KX, fun s v => L2.FunD.bindsA (ps := ["_law_script"]) F Mi.bi_law_k03 s [v] rfl, fun H a ns hl hO hS => ?_, fun base _ _ => ?_⟩
  · obtain ⟨S, e⟩ := M ns hl
    exact Mi.spM_script (Mi.exk c 0) hO hS e
  · obtain ⟨fd', F', FT⟩ := A base
    have efd : fd' = fd := by
      obtain ⟨_, _, _, _, _, _, _, _, _, _, h1, h2, _⟩ := F.ex
      obtain ⟨_, _, _, _, _, _, _, _, _, _, k1, k2, _⟩ := F'.ex
      rw [h2] at k2
      injection k2 with k2
      injection k2 with _ _ k2
      injection k2 with k2
      exact k2.symm
    subst efd
    exact Mi.FnT.ok (k := 231) FT
theorem Mi.row_of2 (hc : WalkO (view (OpenLaw.row PySem.Challenge.rw_undotable_k03_whole_contents_read).prog [32]) Mi.looseL (XL (view (OpenLaw.row PySem.Challenge.rw_undotable_k03_whole_contents_read).prog [32]) []) Mi.hkL.says (OpenLaw.row PySem.Challenge.rw_undotable_k03_whole_contents_read).toRowW (HandSHeadRun.topDef (OpenLaw.row PySem.Challenge.rw_undotable_k03_whole_contents_read).prog 32) [] (fun f vs => PySem.call f vs)) : PySem.Challenge.rw_undotable_k03_whole_contents_read.Holds := by
  w_on; o_law
  refine HandSHeadRun.head_any (r := OpenLaw.row PySem.Challenge.rw_undotable_k03_whole_contents_read) (q := view (OpenLaw.row PySem.Challenge.rw_undotable_k03_whole_contents_read).prog [32]) (H := Mi.hkL) (ob := Mi.obL) (M := 10000) (loose := Mi.looseL) (d := HandSHeadRun.topDef (OpenLaw.row PySem.Challenge.rw_undotable_k03_whole_contents_read).prog 32) (kwd := []) Mi.obL_eq
    (by kernel_rfl) (fun s => by kernel_rfl) Mi.runL (by kernel_rfl) (by kernel_rfl) (by kernel_rfl) (by rfl) (by first | assumption | decide +kernel) (by decide +kernel) ⟨rfl, rfl, rfl, rfl, rfl, by decide +kernel⟩ ?hw ?hc
  case hw => w_witness2
  case hc => exact hc
theorem Mi.row_of (M : ∀ ns : List Int, ns.length ≤ 63 → ∃ S, Mi.callF false 693 .law_k03 [.ref 0] [.frl (Mi.ofI ns)] = .ok (.bl true) S) : PySem.Challenge.rw_undotable_k03_whole_contents_read.Holds := Mi.row_of2 (Mi.walkL M)
end

section
set_option linter.all false
set_option maxRecDepth 100000
set_option Elab.async false
/-! the plain law: evaluation of bodies, by value: what waits for a value stands as a name that is unfolded only when the value has come -/
namespace Mi
open PySem
/-! ### what waits for a value -/
def kParts : D → Sto → Res D := fun a S1 => match a with
    | .str t => (match partsOf t with
      | some n => .ok (.int n) S1
      | none => .bad)
    | _ => .bad
def kInParts : D → Sto → Res D := fun a S1 => match a with
    | .str t => .ok (.bl (partsOf t).isSome) S1
    | _ => .bad
def kBin (C : Cf) (o : Bo) (b : Ex) (ε : Env) : D → Sto → Res D := fun x S1 => (ev C b ε S1).bind (binop o x)
def kNeg : D → Sto → Res D := fun x S1 => match x with
    | .int i => .ok (.int (-i)) S1
    | _ => .bad
def kCmp (C : Cf) (o : Co) (b : Ex) (ε : Env) : D → Sto → Res D := fun x S1 => (ev C b ε S1).bind (cmpop o x)
def kChn3 (C : Cf) (p : Co) (y : D) (c : Ex) (ε : Env) : D → Sto → Res D := fun r S3 => match r with
      | .bl true => (ev C c ε S3).bind (cmpop p y)
      | .bl false => .ok (.bl false) S3
      | _ => .bad
def kChn2 (C : Cf) (o p : Co) (x : D) (c : Ex) (ε : Env) : D → Sto → Res D := fun y S2 => (cmpop o x y S2).bind (kChn3 C p y c ε)
def kChn (C : Cf) (o p : Co) (b c : Ex) (ε : Env) : D → Sto → Res D := fun x S1 => (ev C b ε S1).bind (kChn2 C o p x c ε)
def kAnd (C : Cf) (b : Ex) (ε : Env) : D → Sto → Res D := fun x S1 => match x with
    | .bl true => ev C b ε S1
    | .bl false => .ok (.bl false) S1
    | _ => .bad
def kOr (C : Cf) (b : Ex) (ε : Env) : D → Sto → Res D := fun x S1 => match x with
    | .bl true => .ok (.bl true) S1
    | .bl false => ev C b ε S1
    | _ => .bad
def kNot : D → Sto → Res D := fun x S1 => match x with
    | .bl k => .ok (.bl (!k)) S1
    | _ => .bad
def kIfe (C : Cf) (a b : Ex) (ε : Env) : D → Sto → Res D := fun x S1 => match x with
    | .bl true => ev C a ε S1
    | .bl false => ev C b ε S1
    | _ => .bad
def kTup : List D → Sto → Res D := fun ds S1 => .ok (.tup ds) S1
def kLst : List D → Sto → Res D := fun ds S1 => new S1 (.lst ds)
def kDct : List D → Sto → Res D := fun ds S1 => match pairUp ds with
    | some kvs => new S1 (.dct (kvs.foldl (fun acc kv => kput acc kv.1 kv.2) []))
    | none => .bad
def kIx (C : Cf) (i : Ex) (ε : Env) : D → Sto → Res D := fun x S1 => (ev C i ε S1).bind (getix x)
def kKey (C : Cf) (i : Ex) (ε : Env) : D → Sto → Res D := fun x S1 => (ev C i ε S1).bind (getkey x)
def kSl3 (x : D) (l : Option Int) : List D → Sto → Res D := fun h S3 => match partOf h with
      | none => .bad
      | some h => slice x l h S3
def kSl2 (C : Cf) (x : D) (hi : Exs) (ε : Env) : List D → Sto → Res D := fun l S2 => match partOf l with
    | none => .bad
    | some l => (evs C hi ε S2).bind (kSl3 x l)
def kSl (C : Cf) (lo hi : Exs) (ε : Env) : D → Sto → Res D := fun x S1 => (evs C lo ε S1).bind (kSl2 C x hi ε)
def kMk2 (n : Nat) : D → Sto → Res D := fun r S2 => match r with
    | .non => .ok (.ref n) S2
    | _ => .bad
def kMk (C : Cf) (c : Cl) : List D → Sto → Res D := fun ds S1 => (C.ci (initOf c) (.ref S1.length :: ds) (S1 ++ [.ins c []])).bind (kMk2 S1.length)
def kMeth2 (C : Cf) (f : Fn) (x : D) : List D → Sto → Res D := fun ds S2 => C.cf f (x :: ds) S2
def kMeth (C : Cf) (f : Fn) (es : Exs) (ε : Env) : D → Sto → Res D := fun x S1 => if isIns x (clsOf f) S1 then (evs C es ε S1).bind (kMeth2 C f x) else .bad
def kFld (c : Cl) (f : Fd) : D → Sto → Res D := fun x S1 => getfd x c f S1
def kB2 (C : Cf) (f : B2) (b : Ex) (ε : Env) : D → Sto → Res D := fun x S1 => (ev C b ε S1).bind (b2 f x)
def kM1 (C : Cf) (m : M1) (a : Ex) (ε : Env) : D → Sto → Res D := fun x S1 => if recv1 m x S1 then (ev C a ε S1).bind (m1 m x) else .bad
def kM2c (m : M2) (x y : D) : D → Sto → Res D := fun z S3 => m2 m x y z S3
def kM2b (C : Cf) (m : M2) (x : D) (b : Ex) (ε : Env) : D → Sto → Res D := fun y S2 => (ev C b ε S2).bind (kM2c m x y)
def kM2 (C : Cf) (m : M2) (a b : Ex) (ε : Env) : D → Sto → Res D := fun x S1 => if isDic x S1 then (ev C a ε S1).bind (kM2b C m x b ε) else .bad
def kLc3 : D → Sto → Res (Option D) := fun y S3 => .ok (some y) S3
def kLc2 (C : Cf) (elt : Ex) (ε : Env) : List D → Sto → Res (Option D) := fun ks S2 => match ks with
      | [] => (ev C elt ε S2).bind kLc3
      | [.bl true] => (ev C elt ε S2).bind kLc3
      | [.bl false] => .ok none S2
      | _ => .bad
def kStep (C : Cf) (i : Nat) (cond : Exs) (elt : Ex) (ε : Env) : D → Sto → Res (Option D) := fun d S' => (evs C cond (ε.put i d) S').bind (kLc2 C elt (ε.put i d))
def kLc (C : Cf) (i : Nat) (cond : Exs) (elt : Ex) (ε : Env) : It → Sto → Res D := fun J S1 => (compI (kStep C i cond elt ε) J S1).bind kLst
def kEvs2 (d : D) : List D → Sto → Res (List D) := fun ds S2 => .ok (d :: ds) S2
def kEvs (C : Cf) (r : Exs) (ε : Env) : D → Sto → Res (List D) := fun d S1 => (evs C r ε S1).bind (kEvs2 d)
def kIt (k : Src) : D → Sto → Res It := fun a S1 => match toIt k [a] S1 with
    | some J => .ok J S1
    | none => .bad
def kRng2 (a : D) : D → Sto → Res It := fun b S2 => match toIt (.rng2 .non .non) [a, b] S2 with
    | some J => .ok J S2
    | none => .bad
theorem exR1 : ∃ f : D → Sto → Res It, f = kIt (.rng1 .non) := ⟨_, rfl⟩
/-- ranges, not to be reckoned by the kernel -/
noncomputable def kR1 : D → Sto → Res It := Classical.choose exR1
theorem kR1_eq : kR1 = kIt (.rng1 .non) := Classical.choose_spec exR1
theorem exR2 : ∃ f : D → D → Sto → Res It, f = kRng2 := ⟨_, rfl⟩
noncomputable def kR2 : D → D → Sto → Res It := Classical.choose exR2
theorem kR2_eq : kR2 = kRng2 := Classical.choose_spec exR2
noncomputable def kRng (C : Cf) (f : Ex) (ε : Env) : D → Sto → Res It := fun a S1 => (ev C f ε S1).bind (kR2 a)
section
variable (C : Cf) (ε : Env) (S : Sto)
@[simp] theorem ev_v (i : Nat) : ev C (.v i) ε S = match ε.get i with | some d => .ok d S | none => .bad := by simp only [ev] <;> rfl
@[simp] theorem ev_int (i : Int) : ev C (.int i) ε S = .ok (.int i) S := by simp only [ev]
@[simp] theorem ev_str (t : Tx) : ev C (.str t) ε S = .ok (.str t) S := by simp only [ev]
@[simp] theorem ev_bl (b : Bool) : ev C (.bl b) ε S = .ok (.bl b) S := by simp only [ev]
@[simp] theorem ev_non : ev C .non ε S = .ok .non S := by simp only [ev]
@[simp] theorem ev_g (c : Gc) : ev C (.g c) ε S = .ok (gval c) S := by simp only [ev]
@[simp] theorem ev_parts (e : Ex) : ev C (.parts e) ε S = (ev C e ε S).bind kParts := by simp only [ev] <;> rfl
@[simp] theorem ev_inParts (e : Ex) : ev C (.inParts e) ε S = (ev C e ε S).bind kInParts := by simp only [ev] <;> rfl
@[simp] theorem ev_bin (o : Bo) (a b : Ex) : ev C (.bin o a b) ε S = (ev C a ε S).bind (kBin C o b ε) := by simp only [ev] <;> rfl
@[simp] theorem ev_neg (a : Ex) : ev C (.neg a) ε S = (ev C a ε S).bind kNeg := by simp only [ev] <;> rfl
@[simp] theorem ev_cmp (o : Co) (a b : Ex) : ev C (.cmp o a b) ε S = (ev C a ε S).bind (kCmp C o b ε) := by simp only [ev] <;> rfl
@[simp] theorem ev_chn (o p : Co) (a b c : Ex) : ev C (.chn o p a b c) ε S = (ev C a ε S).bind (kChn C o p b c ε) := by simp only [ev] <;> rfl
@[simp] theorem ev_and (a b : Ex) : ev C (.and a b) ε S = (ev C a ε S).bind (kAnd C b ε) := by simp only [ev] <;> rfl
@[simp] theorem ev_or (a b : Ex) : ev C (.or a b) ε S = (ev C a ε S).bind (kOr C b ε) := by simp only [ev] <;> rfl
@[simp] theorem ev_not (a : Ex) : ev C (.not a) ε S = (ev C a ε S).bind kNot := by simp only [ev] <;> rfl
@[simp] theorem ev_ife (c a b : Ex) : ev C (.ife c a b) ε S = (ev C c ε S).bind (kIfe C a b ε) := by simp only [ev] <;> rfl
@[simp] theorem ev_tup (es : Exs) : ev C (.tup es) ε S = (evs C es ε S).bind kTup := by simp only [ev] <;> rfl
@[simp] theorem ev_lst (es : Exs) : ev C (.lst es) ε S = (evs C es ε S).bind kLst := by simp only [ev] <;> rfl
@[simp] theorem ev_dct (es : Exs) : ev C (.dct es) ε S = (evs C es ε S).bind kDct := by simp only [ev] <;> rfl
@[simp] theorem ev_ix (a i : Ex) : ev C (.ix a i) ε S = (ev C a ε S).bind (kIx C i ε) := by simp only [ev] <;> rfl
@[simp] theorem ev_dget (a i : Ex) : ev C (.dget a i) ε S = (ev C a ε S).bind (kKey C i ε) := by simp only [ev] <;> rfl
@[simp] theorem ev_sl (a : Ex) (lo hi : Exs) : ev C (.sl a lo hi) ε S = (ev C a ε S).bind (kSl C lo hi ε) := by simp only [ev] <;> rfl
@[simp] theorem ev_call (f : Fn) (es : Exs) : ev C (.call f es) ε S = (evs C es ε S).bind (C.cf f) := by simp only [ev]
@[simp] theorem ev_mk (c : Cl) (es : Exs) : ev C (.mk c es) ε S = (evs C es ε S).bind (kMk C c) := by simp only [ev] <;> rfl
@[simp] theorem ev_meth (f : Fn) (o : Ex) (es : Exs) : ev C (.meth f o es) ε S = (ev C o ε S).bind (kMeth C f es ε) := by simp only [ev] <;> rfl
@[simp] theorem ev_fld (o : Ex) (c : Cl) (f : Fd) : ev C (.fld o c f) ε S = (ev C o ε S).bind (kFld c f) := by simp only [ev] <;> rfl
@[simp] theorem ev_b1 (f : B1) (a : Ex) : ev C (.b1 f a) ε S = (ev C a ε S).bind (b1 f) := by simp only [ev]
@[simp] theorem ev_b2 (f : B2) (a b : Ex) : ev C (.b2 f a b) ε S = (ev C a ε S).bind (kB2 C f b ε) := by simp only [ev] <;> rfl
@[simp] theorem ev_m0 (m : M0) (o : Ex) : ev C (.m0 m o) ε S = (ev C o ε S).bind (m0 m) := by simp only [ev]
@[simp] theorem ev_m1 (m : M1) (o a : Ex) : ev C (.m1 m o a) ε S = (ev C o ε S).bind (kM1 C m a ε) := by simp only [ev] <;> rfl
@[simp] theorem ev_m2 (m : M2) (o a b : Ex) : ev C (.m2 m o a b) ε S = (ev C o ε S).bind (kM2 C m a b ε) := by simp only [ev] <;> rfl
@[simp] theorem ev_lc (i : Nat) (s : Src) (cond : Exs) (elt : Ex) : ev C (.lc i s cond elt) ε S = (evI C s ε S).bind (kLc C i cond elt ε) := by simp only [ev] <;> rfl
@[simp] theorem evs_nil : evs C .nil ε S = .ok [] S := by simp only [evs]
@[simp] theorem evs_cons (e : Ex) (r : Exs) : evs C (.cons e r) ε S = (ev C e ε S).bind (kEvs C r ε) := by simp only [evs] <;> rfl
@[simp] theorem evI_seq (e : Ex) : evI C (.seq e) ε S = (ev C e ε S).bind (kIt (.seq .non)) := by simp only [evI] <;> rfl
@[simp] theorem evI_dic (e : Ex) : evI C (.dic e) ε S = (ev C e ε S).bind (kIt (.dic .non)) := by simp only [evI] <;> rfl
@[simp] theorem evI_rng1 (e : Ex) : evI C (.rng1 e) ε S = (ev C e ε S).bind kR1 := by rw [kR1_eq]; simp only [evI] <;> rfl
@[simp] theorem evI_rng2 (e f : Ex) : evI C (.rng2 e f) ε S = (ev C e ε S).bind (kRng C f ε) := by unfold kRng; rw [kR2_eq]; simp only [evI] <;> rfl
@[simp] theorem evI_rev (e : Ex) : evI C (.rev e) ε S = (ev C e ε S).bind (kIt (.rev .non)) := by simp only [evI] <;> rfl
@[simp] theorem evI_enm (e : Ex) : evI C (.enm e) ε S = (ev C e ε S).bind (kIt (.enm .non)) := by simp only [evI] <;> rfl
end
section
variable (C : Cf) (ε : Env) (S : Sto)
@[simp] theorem kParts_str (t : Tx) : kParts (.str t) S = match partsOf t with | some n => .ok (.int n) S | none => .bad := rfl
@[simp] theorem kInParts_str (t : Tx) : kInParts (.str t) S = .ok (.bl (partsOf t).isSome) S := rfl
@[simp] theorem kBin_eq (o : Bo) (b : Ex) (x : D) : kBin C o b ε x S = (ev C b ε S).bind (binop o x) := rfl
@[simp] theorem kNeg_eq (i : Int) : kNeg (.int i) S = .ok (.int (-i)) S := rfl
@[simp] theorem kCmp_eq (o : Co) (b : Ex) (x : D) : kCmp C o b ε x S = (ev C b ε S).bind (cmpop o x) := rfl
@[simp] theorem kChn_eq (o p : Co) (b c : Ex) (x : D) : kChn C o p b c ε x S = (ev C b ε S).bind (kChn2 C o p x c ε) := rfl
@[simp] theorem kChn2_eq (o p : Co) (x : D) (c : Ex) (y : D) : kChn2 C o p x c ε y S = (cmpop o x y S).bind (kChn3 C p y c ε) := rfl
@[simp] theorem kChn3_t (p : Co) (y : D) (c : Ex) : kChn3 C p y c ε (.bl true) S = (ev C c ε S).bind (cmpop p y) := rfl
@[simp] theorem kChn3_f (p : Co) (y : D) (c : Ex) : kChn3 C p y c ε (.bl false) S = .ok (.bl false) S := rfl
@[simp] theorem kAnd_t (b : Ex) : kAnd C b ε (.bl true) S = ev C b ε S := rfl
@[simp] theorem kAnd_f (b : Ex) : kAnd C b ε (.bl false) S = .ok (.bl false) S := rfl
@[simp] theorem kOr_t (b : Ex) : kOr C b ε (.bl true) S = .ok (.bl true) S := rfl
@[simp] theorem kOr_f (b : Ex) : kOr C b ε (.bl false) S = ev C b ε S := rfl
@[simp] theorem kNot_eq (k : Bool) : kNot (.bl k) S = .ok (.bl (!k)) S := rfl
@[simp] theorem kIfe_t (a b : Ex) : kIfe C a b ε (.bl true) S = ev C a ε S := rfl
@[simp] theorem kIfe_f (a b : Ex) : kIfe C a b ε (.bl false) S = ev C b ε S := rfl
@[simp] theorem kTup_eq (ds : List D) : kTup ds S = .ok (.tup ds) S := rfl
@[simp] theorem kLst_eq (ds : List D) : kLst ds S = .ok (.ref S.length) (S ++ [.lst ds]) := rfl
@[simp] theorem kIx_eq (i : Ex) (x : D) : kIx C i ε x S = (ev C i ε S).bind (getix x) := rfl
@[simp] theorem kKey_eq (i : Ex) (x : D) : kKey C i ε x S = (ev C i ε S).bind (getkey x) := rfl
@[simp] theorem kSl_eq (lo hi : Exs) (x : D) : kSl C lo hi ε x S = (evs C lo ε S).bind (kSl2 C x hi ε) := rfl
@[simp] theorem kSl2_nil (x : D) (hi : Exs) : kSl2 C x hi ε [] S = (evs C hi ε S).bind (kSl3 x none) := rfl
@[simp] theorem kSl2_one (x : D) (hi : Exs) (i : Int) : kSl2 C x hi ε [.int i] S = (evs C hi ε S).bind (kSl3 x (some i)) := rfl
@[simp] theorem kSl3_nil (x : D) (l : Option Int) : kSl3 x l [] S = slice x l none S := rfl
@[simp] theorem kSl3_one (x : D) (l : Option Int) (i : Int) : kSl3 x l [.int i] S = slice x l (some i) S := rfl
@[simp] theorem kMk_eq (c : Cl) (ds : List D) : kMk C c ds S = (C.ci (initOf c) (.ref S.length :: ds) (S ++ [.ins c []])).bind (kMk2 S.length) := rfl
@[simp] theorem kMk2_eq (n : Nat) : kMk2 n .non S = .ok (.ref n) S := rfl
@[simp] theorem kMeth_eq (f : Fn) (es : Exs) (x : D) : kMeth C f es ε x S = if isIns x (clsOf f) S then (evs C es ε S).bind (kMeth2 C f x) else .bad := rfl
@[simp] theorem kMeth2_eq (f : Fn) (x : D) (ds : List D) : kMeth2 C f x ds S = C.cf f (x :: ds) S := rfl
@[simp] theorem kFld_eq (c : Cl) (f : Fd) (x : D) : kFld c f x S = getfd x c f S := rfl
@[simp] theorem kB2_eq (f : B2) (b : Ex) (x : D) : kB2 C f b ε x S = (ev C b ε S).bind (b2 f x) := rfl
@[simp] theorem kM1_eq (m : M1) (a : Ex) (x : D) : kM1 C m a ε x S = if recv1 m x S then (ev C a ε S).bind (m1 m x) else .bad := rfl
@[simp] theorem kM2_eq (m : M2) (a b : Ex) (x : D) : kM2 C m a b ε x S = if isDic x S then (ev C a ε S).bind (kM2b C m x b ε) else .bad := rfl
@[simp] theorem kM2b_eq (m : M2) (b : Ex) (x y : D) : kM2b C m x b ε y S = (ev C b ε S).bind (kM2c m x y) := rfl
@[simp] theorem kM2c_eq (m : M2) (x y z : D) : kM2c m x y z S = m2 m x y z S := rfl
@[simp] theorem kLc_eq (i : Nat) (cond : Exs) (elt : Ex) (J : It) : kLc C i cond elt ε J S = (compI (kStep C i cond elt ε) J S).bind kLst := rfl
@[simp] theorem kStep_eq (i : Nat) (cond : Exs) (elt : Ex) (d : D) : kStep C i cond elt ε d S = (evs C cond (ε.put i d) S).bind (kLc2 C elt (ε.put i d)) := rfl
@[simp] theorem kLc2_nil (elt : Ex) : kLc2 C elt ε [] S = (ev C elt ε S).bind kLc3 := rfl
@[simp] theorem kLc2_t (elt : Ex) : kLc2 C elt ε [.bl true] S = (ev C elt ε S).bind kLc3 := rfl
@[simp] theorem kLc2_f (elt : Ex) : kLc2 C elt ε [.bl false] S = .ok none S := rfl
@[simp] theorem kLc3_eq (d : D) : kLc3 d S = .ok (some d) S := rfl
@[simp] theorem kEvs_eq (r : Exs) (d : D) : kEvs C r ε d S = (evs C r ε S).bind (kEvs2 d) := rfl
@[simp] theorem kEvs2_eq (d : D) (ds : List D) : kEvs2 d ds S = .ok (d :: ds) S := rfl
@[simp] theorem kIt_eq (k : Src) (a : D) : kIt k a S = match toIt k [a] S with | some J => .ok J S | none => .bad := rfl
@[simp] theorem kRng_eq (f : Ex) (a : D) : kRng C f ε a S = (ev C f ε S).bind (kR2 a) := rfl
end
theorem toItR1 (S : Sto) (j : Int) : toIt (.rng1 .non) [.int j] S = if -(2 ^ 62) ≤ j ∧ j < 2 ^ 62 then some (.items ((List.range j.toNat).map fun i : Nat => .int i)) else none := by
  unfold toIt
  rfl
theorem toItR2 (S : Sto) (i j : Int) : toIt (.rng2 .non .non) [.int i, .int j] S = if -(2 ^ 62) ≤ i ∧ i < 2 ^ 62 ∧ -(2 ^ 62) ≤ j ∧ j < 2 ^ 62 then some (.items ((List.range (j - i).toNat).map fun k : Nat => .int (i + k))) else none := by
  unfold toIt
  rfl
theorem kR1_int (S : Sto) (j : Int) (h : j ≤ 1000000) (h0 : -1000000 ≤ j) : kR1 (.int j) S = .ok (.items ((List.range j.toNat).map fun i : Nat => .int i)) S := by
  rw [kR1_eq, kIt_eq, toItR1, if_pos ⟨by omega, by omega⟩]
theorem kR1_nat (S : Sto) (n : Nat) (hn : n ≤ 1000000) : kR1 (.int n) S = .ok (.items ((List.range n).map fun i : Nat => .int i)) S := by
  rw [kR1_int S n (by omega) (by omega), Int.toNat_natCast]
@[simp] theorem kR1_2 (S : Sto) : kR1 (.int 2) S = .ok (.items [.int 0, .int 1]) S := kR1_int S 2 (by decide) (by decide)
@[simp] theorem kR1_3 (S : Sto) : kR1 (.int 3) S = .ok (.items [.int 0, .int 1, .int 2]) S := kR1_int S 3 (by decide) (by decide)
@[simp] theorem kR1_4 (S : Sto) : kR1 (.int 4) S = .ok (.items [.int 0, .int 1, .int 2, .int 3]) S := kR1_int S 4 (by decide) (by decide)
@[simp] theorem kR1_5 (S : Sto) : kR1 (.int 5) S = .ok (.items [.int 0, .int 1, .int 2, .int 3, .int 4]) S := kR1_int S 5 (by decide) (by decide)
theorem kR2_int (S : Sto) (i j : Int) (h1 : -1000000 ≤ i) (h2 : i ≤ 1000000) (h3 : -1000000 ≤ j) (h4 : j ≤ 1000000) : kR2 (.int i) (.int j) S = .ok (.items ((List.range (j - i).toNat).map fun k : Nat => .int (i + k))) S := by
  rw [kR2_eq]
  unfold kRng2
  rw [toItR2, if_pos ⟨by omega, by omega, by omega, by omega⟩]
/-! ### statements -/
def sSet (i : Nat) (ε : Env) : D → Sto → SR := fun d S1 => .nx (ε.put i d) S1
def sUnp (is : List Nat) (ε : Env) : D → Sto → SR := fun d S1 => match d with
    | .tup ds => (match putAll is ds ε with
      | some ε' => .nx ε' S1
      | none => .bad)
    | _ => .bad
def sOpt (ε : Env) (o : Option Sto) : SR := match o with
    | some S3 => .nx ε S3
    | none => .bad
def sSetf2 (c : Cl) (f : Fd) (ε : Env) (d : D) : D → Sto → SR := fun x S2 => sOpt ε (setfd x c f d S2)
def sSetf (C : Cf) (o : Ex) (c : Cl) (f : Fd) (ε : Env) : D → Sto → SR := fun d S1 => (ev C o ε S1).toS ε (sSetf2 c f ε d)
def sSeti3 (ε : Env) (d x : D) : D → Sto → SR := fun y S3 => sOpt ε (setlx x y d S3)
def sSeti2 (C : Cf) (i : Ex) (ε : Env) (d : D) : D → Sto → SR := fun x S2 => (ev C i ε S2).toS ε (sSeti3 ε d x)
def sSeti (C : Cf) (o i : Ex) (ε : Env) : D → Sto → SR := fun d S1 => (ev C o ε S1).toS ε (sSeti2 C i ε d)
def sSetk3 (ε : Env) (d x : D) : D → Sto → SR := fun y S3 => sOpt ε (setkx x y d S3)
def sSetk2 (C : Cf) (i : Ex) (ε : Env) (d : D) : D → Sto → SR := fun x S2 => (ev C i ε S2).toS ε (sSetk3 ε d x)
def sSetk (C : Cf) (o i : Ex) (ε : Env) : D → Sto → SR := fun d S1 => (ev C o ε S1).toS ε (sSetk2 C i ε d)
def sEx (ε : Env) : D → Sto → SR := fun _ S1 => .nx ε S1
def sRet : D → Sto → SR := fun d S1 => .rt d S1
def sIff (C : Cf) (a b : Sms) (ε : Env) : D → Sto → SR := fun k S1 => match k with
    | .bl true => exs C a ε S1
    | .bl false => exs C b ε S1
    | _ => .bad
def turn (C : Cf) (t : Tg) (b : Sms) : D → Env → Sto → SR := fun d ε S => match t.bind d ε with
    | some ε' => exs C b ε' S
    | none => .bad
def sFor (C : Cf) (t : Tg) (b : Sms) (ε : Env) : It → Sto → SR := fun J S1 => loopI (turn C t b) J ε S1
def fin (r : SR) : Res D := match r with
    | .nx _ S' => .ok .non S'
    | .rt d S' => .ok d S'
    | .ex x _ S' => .ex x S'
    | .bad => .bad
section
variable (C : Cf) (ε : Env) (S : Sto)
@[simp] theorem ex_set (i : Nat) (e : Ex) : ex C (.set i e) ε S = (ev C e ε S).toS ε (sSet i ε) := by simp only [ex] <;> rfl
@[simp] theorem ex_unp (is : List Nat) (e : Ex) : ex C (.unp is e) ε S = (ev C e ε S).toS ε (sUnp is ε) := by simp only [ex] <;> rfl
@[simp] theorem ex_setf (o : Ex) (c : Cl) (f : Fd) (e : Ex) : ex C (.setf o c f e) ε S = (ev C e ε S).toS ε (sSetf C o c f ε) := by simp only [ex] <;> rfl
@[simp] theorem ex_seti (o i e : Ex) : ex C (.seti o i e) ε S = (ev C e ε S).toS ε (sSeti C o i ε) := by simp only [ex] <;> rfl
@[simp] theorem ex_setk (o i e : Ex) : ex C (.setk o i e) ε S = (ev C e ε S).toS ε (sSetk C o i ε) := by simp only [ex] <;> rfl
@[simp] theorem ex_ex (e : Ex) : ex C (.ex e) ε S = (ev C e ε S).toS ε (sEx ε) := by simp only [ex] <;> rfl
@[simp] theorem ex_ret (e : Ex) : ex C (.ret e) ε S = (ev C e ε S).toS ε sRet := by simp only [ex] <;> rfl
@[simp] theorem ex_retN : ex C .retN ε S = .rt .non S := by simp only [ex]
@[simp] theorem ex_iff (c : Ex) (a b : Sms) : ex C (.iff c a b) ε S = (ev C c ε S).toS ε (sIff C a b ε) := by simp only [ex] <;> rfl
@[simp] theorem ex_for (t : Tg) (s : Src) (b : Sms) : ex C (.for_ t s b) ε S = (evI C s ε S).toS ε (sFor C t b ε) := by simp only [ex] <;> rfl
@[simp] theorem ex_rse (c : Ec) : ex C (.rse false c) ε S = .ex ⟨c, none⟩ ε S := by simp [ex]
@[simp] theorem ex_pass : ex C .pass ε S = .nx ε S := by simp only [ex]
@[simp] theorem exs_nil : exs C .nil ε S = .nx ε S := by simp only [exs]
@[simp] theorem exs_cons (s : Sm) (r : Sms) : exs C (.cons s r) ε S = (ex C s ε S).then_ (exs C r) := by simp only [exs]
@[simp] theorem sSet_eq (i : Nat) (d : D) : sSet i ε d S = .nx (ε.put i d) S := rfl
@[simp] theorem sUnp_eq (is : List Nat) (ds : List D) : sUnp is ε (.tup ds) S = match putAll is ds ε with | some ε' => .nx ε' S | none => .bad := rfl
@[simp] theorem sOpt_some : sOpt ε (some S) = .nx ε S := rfl
@[simp] theorem sSetf_eq (o : Ex) (c : Cl) (f : Fd) (d : D) : sSetf C o c f ε d S = (ev C o ε S).toS ε (sSetf2 c f ε d) := rfl
@[simp] theorem sSetf2_eq (c : Cl) (f : Fd) (d x : D) : sSetf2 c f ε d x S = sOpt ε (setfd x c f d S) := rfl
@[simp] theorem sSeti_eq (o i : Ex) (d : D) : sSeti C o i ε d S = (ev C o ε S).toS ε (sSeti2 C i ε d) := rfl
@[simp] theorem sSeti2_eq (i : Ex) (d x : D) : sSeti2 C i ε d x S = (ev C i ε S).toS ε (sSeti3 ε d x) := rfl
@[simp] theorem sSeti3_eq (d x y : D) : sSeti3 ε d x y S = sOpt ε (setlx x y d S) := rfl
@[simp] theorem sSetk_eq (o i : Ex) (d : D) : sSetk C o i ε d S = (ev C o ε S).toS ε (sSetk2 C i ε d) := rfl
@[simp] theorem sSetk2_eq (i : Ex) (d x : D) : sSetk2 C i ε d x S = (ev C i ε S).toS ε (sSetk3 ε d x) := rfl
@[simp] theorem sSetk3_eq (d x y : D) : sSetk3 ε d x y S = sOpt ε (setkx x y d S) := rfl
@[simp] theorem sEx_eq (d : D) : sEx ε d S = .nx ε S := rfl
@[simp] theorem sRet_eq (d : D) : sRet d S = .rt d S := rfl
@[simp] theorem sIff_t (a b : Sms) : sIff C a b ε (.bl true) S = exs C a ε S := rfl
@[simp] theorem sIff_f (a b : Sms) : sIff C a b ε (.bl false) S = exs C b ε S := rfl
@[simp] theorem sFor_eq (t : Tg) (b : Sms) (J : It) : sFor C t b ε J S = loopI (turn C t b) J ε S := rfl
@[simp] theorem turn_one (i : Nat) (b : Sms) (d : D) : turn C (.one i) b d ε S = exs C b (ε.put i d) S := rfl
@[simp] theorem fin_nx : fin (.nx ε S) = .ok .non S := rfl
@[simp] theorem fin_rt (d : D) : fin (.rt d S) = .ok d S := rfl
@[simp] theorem fin_ex (x : Exn) : fin (.ex x ε S) = .ex x S := rfl
end
@[simp] theorem get_zero (d : Option D) (l : List (Option D)) (c : Option Exn) : Env.get ⟨d :: l, c⟩ 0 = d := by cases d <;> rfl
@[simp] theorem get_succ (d : Option D) (l : List (Option D)) (c : Option Exn) (i : Nat) : Env.get ⟨d :: l, c⟩ (i + 1) = Env.get ⟨l, c⟩ i := by
  unfold Env.get
  simp
@[simp] theorem put_eq (l : List (Option D)) (c : Option Exn) (i : Nat) (d : D) : Env.put ⟨l, c⟩ i d = ⟨l.set i (some d), c⟩ := rfl
theorem callF_eq (k : Nat) (f : Fn) (args : List D) (S : Sto) (np nl : Nat) (b : Sms) (h : bodyOf f = ⟨np, nl, b⟩) (hl : args.length = np) :
    callF false (k + 2) f args S = fin (exs ⟨false, callF false (k + 1), callF false k⟩ b ⟨args.map some ++ List.replicate (nl - np) none, none⟩ S) := by
  rw [callF_succ]
  unfold runF
  rw [h, if_pos hl]
  rfl
/-! ### the store -/
theorem seq_lst {S : Sto} {l : Nat} {ds : List D} (h : S[l]? = some (.lst ds)) : S.seq l = some ds := by unfold Sto.seq; rw [h]
theorem seq_frl {S : Sto} {l : Nat} {ds : List D} (h : S[l]? = some (.frl ds)) : S.seq l = some ds := by unfold Sto.seq; rw [h]
theorem lst_lst {S : Sto} {l : Nat} {ds : List D} (h : S[l]? = some (.lst ds)) : S.lst l = some ds := by unfold Sto.lst; rw [h]
theorem okns_ofI : ∀ (n : Nat) (l : List Int), D.okns n (ofI l) = true
  | _, [] => by simp [ofI, D.okns]
  | n, i :: r => by
    have := okns_ofI n r
    simp only [ofI] at this
    simp [ofI, D.okns, D.okn, this]
theorem eqvs_nil (l : List D) : D.eqvs l [] = l.isEmpty := by cases l <;> simp [D.eqvs]
theorem app_l {S : Sto} {o : Ob} {l : Nat} {G : Sto} (h : S[l]? = some o) : (S ++ G)[l]? = some o := by
  rw [List.getElem?_append_left (by
    by_cases hl : l < S.length
    · exact hl
    · rw [List.getElem?_eq_none (by omega)] at h; cases h)]
  exact h
theorem app_new {S : Sto} {o : Ob} : (S ++ [o])[S.length]? = some o := by simp
end Mi
end

section
set_option linter.all false
set_option maxRecDepth 100000
set_option Elab.async false
/-! the plain law: operations, draws, cells -/
namespace Mi
open PySem
@[simp] theorem atI_zero {α : Type} (xs : List α) : L2.atI xs 0 = xs[0]? := by
  unfold L2.atI L2.ixN
  cases xs <;> simp
@[simp] theorem atI_one {α : Type} (xs : List α) : L2.atI xs 1 = xs[1]? := by
  unfold L2.atI L2.ixN
  by_cases h : (1 : Int) < xs.length
  · simp [h]
  · simp only [h, if_false]
    rw [List.getElem?_eq_none (by omega)]
    simp
theorem atI_nat {α : Type} (xs : List α) (i : Nat) : L2.atI xs (i : Int) = xs[i]? := by
  unfold L2.atI L2.ixN
  by_cases h : (i : Int) < xs.length
  · simp [h]
  · simp only [h, if_false]
    rw [List.getElem?_eq_none (by omega)]
    simp
theorem atI_int {α : Type} (xs : List α) (i : Int) (h : 0 ≤ i) : L2.atI xs i = xs[i.toNat]? := by
  obtain ⟨n, rfl⟩ := Int.eq_ofNat_of_zero_le h
  exact atI_nat xs n
@[simp] theorem eqS_int (S : Sto) (i j : Int) : eqS S (.int i) (.int j) = some (i == j) := by simp [eqS, D.flat, D.eqv]
@[simp] theorem eqS_str (S : Sto) (i j : Tx) : eqS S (.str i) (.str j) = some (i == j) := by simp [eqS, D.flat, D.eqv]
@[simp] theorem eqS_bl (S : Sto) (i j : Bool) : eqS S (.bl i) (.bl j) = some (i == j) := by simp [eqS, D.flat, D.eqv]
@[simp] theorem neS_int (S : Sto) (i j : Int) : neS S (.int i) (.int j) = some (!(i == j)) := by simp [neS]
@[simp] theorem neS_str (S : Sto) (i j : Tx) : neS S (.str i) (.str j) = some (!(i == j)) := by simp [neS]
@[simp] theorem neS_bl (S : Sto) (i j : Bool) : neS S (.bl i) (.bl j) = some (!(i == j)) := by simp [neS]
@[simp] theorem cmp_eq (S : Sto) (a b : D) : cmpop .eq a b S = match eqS S a b with | some k => .ok (.bl k) S | none => .bad := rfl
@[simp] theorem cmp_ne (S : Sto) (a b : D) : cmpop .ne a b S = match neS S a b with | some k => .ok (.bl k) S | none => .bad := rfl
@[simp] theorem cmp_lt (S : Sto) (i j : Int) : cmpop .lt (.int i) (.int j) S = .ok (.bl (decide (i < j))) S := rfl
@[simp] theorem cmp_le (S : Sto) (i j : Int) : cmpop .le (.int i) (.int j) S = .ok (.bl (decide (i ≤ j))) S := rfl
@[simp] theorem cmp_gt (S : Sto) (i j : Int) : cmpop .gt (.int i) (.int j) S = .ok (.bl (decide (j < i))) S := rfl
@[simp] theorem cmp_ge (S : Sto) (i j : Int) : cmpop .ge (.int i) (.int j) S = .ok (.bl (decide (j ≤ i))) S := rfl
@[simp] theorem cmp_in (S : Sto) (a b : D) : cmpop .inn a b S = match isIn a b S with | some k => .ok (.bl k) S | none => .bad := rfl
@[simp] theorem cmp_notin (S : Sto) (a b : D) : cmpop .notin a b S = match isIn a b S with | some k => .ok (.bl (!k)) S | none => .bad := rfl
@[simp] theorem isN_non (S : Sto) : cmpop .isN .non .non S = .ok (.bl true) S := rfl
@[simp] theorem isN_tup (S : Sto) (ds : List D) : cmpop .isN (.tup ds) .non S = .ok (.bl false) S := rfl
@[simp] theorem isN_int (S : Sto) (i : Int) : cmpop .isN (.int i) .non S = .ok (.bl false) S := rfl
@[simp] theorem isN_str (S : Sto) (i : Tx) : cmpop .isN (.str i) .non S = .ok (.bl false) S := rfl
@[simp] theorem isN_ref (S : Sto) (l : Nat) : cmpop .isN (.ref l) .non S = .ok (.bl false) S := rfl
@[simp] theorem notN_non (S : Sto) : cmpop .notN .non .non S = .ok (.bl false) S := rfl
@[simp] theorem notN_tup (S : Sto) (ds : List D) : cmpop .notN (.tup ds) .non S = .ok (.bl true) S := rfl
@[simp] theorem notN_int (S : Sto) (i : Int) : cmpop .notN (.int i) .non S = .ok (.bl true) S := rfl
@[simp] theorem in_sign (S : Sto) (c : Nat) (z : Tx) : isIn (.str [c]) (.str z) S = some (decide (c ∈ z)) := rfl
@[simp] theorem add_int (S : Sto) (i j : Int) : binop .add (.int i) (.int j) S = .ok (.int (i + j)) S := rfl
@[simp] theorem sub_int (S : Sto) (i j : Int) : binop .sub (.int i) (.int j) S = .ok (.int (i - j)) S := rfl
@[simp] theorem add_str (S : Sto) (x y : Tx) : binop .add (.str x) (.str y) S = if x.length + y.length ≤ lim then .ok (.str (x ++ y)) S else .bad := rfl
@[simp] theorem mul_int (S : Sto) (i j : Int) : binop .mul (.int i) (.int j) S = if smallI i || smallI j then .ok (.int (i * j)) S else .bad := rfl
@[simp] theorem div_int (S : Sto) (i j : Int) : binop .fdiv (.int i) (.int j) S = if 0 < j ∧ j < 1073741824 then .ok (.int (i / j)) S else .bad := rfl
@[simp] theorem mod_int (S : Sto) (i j : Int) : binop .mod (.int i) (.int j) S = if 0 < j then .ok (.int (i % j)) S else .bad := rfl
@[simp] theorem ix_str (S : Sto) (t : Tx) (k : Int) : getix (.str t) (.int k) S = if t.length ≤ lim then (match L2.atI t k with | some c => .ok (.str [c]) S | none => .bad) else .bad := rfl
@[simp] theorem ix_tup (S : Sto) (t : List D) (k : Int) : getix (.tup t) (.int k) S = match L2.atI t k with | some c => .ok c S | none => .bad := rfl
@[simp] theorem ix_ref (S : Sto) (l : Nat) (k : Int) : getix (.ref l) (.int k) S = match S.seq l with | some ds => (match L2.atI ds k with | some d => .ok d S | none => .bad) | none => .bad := by
  simp only [getix] <;> cases S.seq l <;> rfl
@[simp] theorem len_str (S : Sto) (t : Tx) : b1 .len (.str t) S = if t.length ≤ lim then .ok (.int t.length) S else .bad := rfl
@[simp] theorem len_tup (S : Sto) (t : List D) : b1 .len (.tup t) S = .ok (.int t.length) S := rfl
@[simp] theorem smallI_lit1 : smallI 48271 = true := by decide
@[simp] theorem smallI_lit2 : smallI 69621 = true := by decide
@[simp] theorem lim_eq : lim = 16777216 := rfl
theorem callF_eqL {L : Nat} (hL : 2 ≤ L) (f : Fn) (args : List D) (S : Sto) (np nl : Nat) (b : Sms) (h : bodyOf f = ⟨np, nl, b⟩) (hl : args.length = np) :
    callF false L f args S = fin (exs ⟨false, callF false (L - 1), callF false (L - 2)⟩ b ⟨args.map some ++ List.replicate (nl - np) none, none⟩ S) := by
  obtain ⟨k, rfl⟩ := Nat.exists_eq_add_of_le' hL
  exact callF_eq k f args S np nl b h hl
/-! ### places of the store -/
def Sto.at (S : Sto) (l : Nat) : Option Ob := S[l]?
theorem seq_at (S : Sto) (l : Nat) : S.seq l = match S.at l with | some (.lst ds) => some ds | some (.frl ds) => some ds | _ => none := rfl
theorem lst_at (S : Sto) (l : Nat) : S.lst l = match S.at l with | some (.lst ds) => some ds | _ => none := rfl
theorem ins_at' (S : Sto) (l : Nat) : S.ins l = match S.at l with | some (.ins c fs) => some (c, fs) | _ => none := rfl
theorem dic_at (S : Sto) (l : Nat) : S.dic l = match S.at l with | some (.dct ds) => some ds | some (.frd ds) => some ds | _ => none := rfl
theorem dct_at (S : Sto) (l : Nat) : S.dct l = match S.at l with | some (.dct ds) => some ds | _ => none := rfl
theorem at_app {S G : Sto} {l : Nat} (h : l < S.length) : Sto.at (S ++ G) l = S.at l := List.getElem?_append_left h
@[simp] theorem at_new {S : Sto} {o : Ob} : Sto.at (S ++ [o]) S.length = some o := by simp [Sto.at]
theorem at_self {S : Sto} {l : Nat} {o : Ob} (h : l < S.length) : Sto.at (S.set l o) l = some o := List.getElem?_set_self h
theorem at_ne {S : Sto} {l m : Nat} {o : Ob} (h : l ≠ m) : Sto.at (S.set l o) m = S.at m := List.getElem?_set_ne h
theorem lt_of_at {S : Sto} {l : Nat} {o : Ob} (h : S.at l = some o) : l < S.length := by
  by_cases hl : l < S.length
  · exact hl
  · unfold Sto.at at h
    rw [List.getElem?_eq_none (by omega)] at h; cases h
/-! ### the draws -/
structure Box (S : Sto) (b q : Nat) (ns : List Int) (n : Int) : Prop where
  ab : S.at b = some (.lst [.ref q, .int n])
  aq : S.at q = some (.lst (ofI ns))
  ne : b ≠ q
/-- what stays but for two places -/
structure Fr (b q : Nat) (S S' : Sto) : Prop where
  len : S.length ≤ S'.length
  at_ : ∀ l, l < S.length → l ≠ b → l ≠ q → S'.at l = S.at l
theorem Fr.refl {b q : Nat} {S : Sto} : Fr b q S S := ⟨Nat.le_refl _, fun _ _ _ _ => rfl⟩
theorem Fr.trans {b q : Nat} {S S1 S2 : Sto} (h : Fr b q S S1) (g : Fr b q S1 S2) : Fr b q S S2 :=
  ⟨Nat.le_trans h.len g.len, fun l hl h1 h2 => (g.at_ l (by have := h.len; omega) h1 h2).trans (h.at_ l hl h1 h2)⟩
theorem Fr.app {b q : Nat} {S G : Sto} : Fr b q S (S ++ G) := ⟨by simp, fun _ hl _ _ => at_app hl⟩
theorem Fr.setb {b q : Nat} {S : Sto} {o : Ob} : Fr b q S (S.set b o) := ⟨by simp, fun _ _ h _ => at_ne h.symm⟩
theorem Fr.setq {b q : Nat} {S : Sto} {o : Ob} : Fr b q S (S.set q o) := ⟨by simp, fun _ _ _ h => at_ne h.symm⟩
/-- a draw: below m, the box goes on, all else stays -/
theorem take_ok {L : Nat} (hL : 2 ≤ L) (S : Sto) (b q : Nat) (ns : List Int) (n m : Int) (B : Box S b q ns n) (hm : 0 < m) (hm2 : m < 1073741824) :
  ∃ r S' ns' n', callF false L .l_take [.ref b, .int m] S = .ok (.int r) S' ∧ 0 ≤ r ∧ r < m ∧ Box S' b q ns' n' ∧ Fr b q S S' := by
  obtain ⟨hb, hq, hne⟩ := B
  have lb := lt_of_at hb
  have lq := lt_of_at hq
  have hne' := hne.symm
  have lb2 : b < S.length + 1 := by omega
  have lq2 : q < S.length + 1 := by omega
  rw [callF_eqL (by omega) .l_take _ S _ _ _ rfl rfl]
  have eN : eqS (S ++ [.lst []]) (.ref q) (.ref S.length) = some ns.isEmpty := by
    have e1 : Sto.seq (S ++ [.lst []]) q = some (ofI ns) := by simp [seq_at, at_app, lq, hq]
    have e2 : Sto.seq (S ++ [.lst []]) S.length = some [] := by simp [seq_at]
    simp only [eqS, e1, e2, okns_ofI]
    cases ns <;> simp [D.okns, eqvs_nil, ofI]
  cases ns with
  | nil =>
    simp [b_l_take, seq_at, lst_at, hb, eN, at_app, at_self, at_ne, lb, lq, lb2, lq2, setlx, L2.ixN, hne, hne', hm, -Int.emod_emod_of_dvd]
    refine ⟨_, _, ⟨rfl, rfl⟩, Int.emod_nonneg _ (by omega), Int.emod_lt_of_pos _ hm, ⟨[], n * 48271 % 2147483647, ?_, ?_, hne⟩, Fr.setb.trans Fr.app⟩
    · rw [at_app (by simpa using lb), at_self lb]
    · rw [at_app (by simpa using lq), at_ne hne, hq]
  | cons i r =>
    by_cases h0 : i / m = 0
    · simp [b_l_take, seq_at, lst_at, hb, eN, at_app, at_self, at_ne, lb, lq, lb2, lq2, setlx, L2.ixN, hne, hne', hm, hm2, hq, ofI, h0, recv1, isSeq, m1]
      refine ⟨_, _, ⟨rfl, rfl⟩, Int.emod_nonneg _ (by omega), Int.emod_lt_of_pos _ hm, ⟨r, n, ?_, ?_, hne⟩, Fr.setq.trans Fr.app⟩
      · rw [at_app (by simpa using lb), at_ne hne', hb]
      · rw [at_app (by simpa using lq), at_self lq]
        rfl
    · by_cases h1 : i / m = -1
      · simp [b_l_take, seq_at, lst_at, hb, eN, at_app, at_self, at_ne, lb, lq, lb2, lq2, setlx, L2.ixN, hne, hne', hm, hm2, hq, ofI, h1, recv1, isSeq, m1]
        refine ⟨_, _, ⟨rfl, rfl⟩, Int.emod_nonneg _ (by omega), Int.emod_lt_of_pos _ hm, ⟨r, n, ?_, ?_, hne⟩, Fr.setq.trans Fr.app⟩
        · rw [at_app (by simpa using lb), at_ne hne', hb]
        · rw [at_app (by simpa using lq), at_self lq]
          rfl
      · have q0 : (i / m == 0) = false := by simpa using h0
        have q1 : (i / m == -1) = false := by simpa using h1
        simp [b_l_take, seq_at, lst_at, hb, eN, at_app, at_self, at_ne, lb, lq, lb2, lq2, setlx, L2.ixN, hne, hne', hm, hm2, hq, ofI, q0, q1, recv1, isSeq, m1]
        refine ⟨_, _, ⟨rfl, rfl⟩, Int.emod_nonneg _ (by omega), Int.emod_lt_of_pos _ hm, ⟨(i / m) :: r, n, ?_, ?_, hne⟩, Fr.setq.trans Fr.app⟩
        · rw [at_app (by simpa using lb), at_ne hne', hb]
        · rw [at_app (by simpa using lq), at_self lq]
          rfl
/-! ### cells -/
def colA : Tx := [97, 98, 99, 100, 101, 102]
def rowA : Tx := [49, 50, 51, 52, 53, 54, 55, 56, 57]
/-- a cell's text -/
def cellT (c r : Nat) : Tx := [97 + c, 49 + r]
theorem colA_at : ∀ y : Nat, y < 6 → colA[y]? = some (97 + y) := by decide
theorem rowA_at : ∀ y : Nat, y < 9 → rowA[y]? = some (49 + y) := by decide
theorem colA3_at : ∀ y : Nat, y < 3 → ([97, 98, 99] : Tx)[y]? = some (97 + y) := by decide
theorem rowA3_at : ∀ y : Nat, y < 3 → ([49, 50, 51] : Tx)[y]? = some (49 + y) := by decide
theorem need_cell_ok {L : Nat} (hL : 2 ≤ L) (S : Sto) (c r : Nat) (hc : c < 6) (hr : r < 9) : callF false L .need_cell [.str (cellT c r)] S = .ok .non S := by
  rw [callF_eqL (by omega) .need_cell _ S _ _ _ rfl rfl]
  have h1 : (97 + c) ∈ colA := by revert c; decide
  have h2 : (49 + r) ∈ rowA := by revert r; decide
  simp only [colA, rowA] at h1 h2
  simp only [cellT]
  simp [-List.mem_cons, b_need_cell, gval, h1, h2]
theorem place_of_ok {L : Nat} (hL : 3 ≤ L) (S : Sto) (c r : Nat) (hc : c < 6) (hr : r < 9) : callF false L .place_of [.str (cellT c r)] S = .ok (.tup [.int c, .int r]) S := by
  rw [callF_eqL (by omega) .place_of _ S _ _ _ rfl rfl]
  have h1 : findC (97 + c) colA = c := by revert c; decide
  have h2 : findC (49 + r) rowA = r := by revert r; decide
  simp only [colA, rowA] at h1 h2
  have := need_cell_ok (L := L - 1) (by omega) S c r hc hr
  simp only [cellT] at this ⊢
  simp [b_place_of, gval, this, recv1, isTxt, m1, h1, h2]
theorem cell_at_ok {L : Nat} (hL : 2 ≤ L) (S : Sto) (c r : Nat) (hc : c < 6) (hr : r < 9) : callF false L .cell_at [.int c, .int r] S = .ok (.str (cellT c r)) S := by
  rw [callF_eqL (by omega) .cell_at _ S _ _ _ rfl rfl]
  have h1 : colA[c]? = some (97 + c) := by revert c; decide
  have h2 : rowA[r]? = some (49 + r) := by revert r; decide
  simp only [colA, rowA] at h1 h2
  simp [b_cell_at, gval, atI_nat, h1, h2, cellT]
/-- the law's own cell -/
theorem l_cell_ok {L : Nat} (hL : 3 ≤ L) (S : Sto) (b q : Nat) (ns : List Int) (n : Int) (B : Box S b q ns n) :
  ∃ c r S' ns' n', callF false L .l_cell [.ref b] S = .ok (.str (cellT c r)) S' ∧ c < 6 ∧ r < 9 ∧ Box S' b q ns' n' ∧ Fr b q S S' := by
  rw [callF_eqL (by omega) .l_cell _ S _ _ _ rfl rfl]
  obtain ⟨x, S1, _, _, e1, h1, h2, B1, F1⟩ := take_ok (L := L - 1) (by omega) S b q ns n 4 B (by decide) (by decide)
  by_cases hx : x = 1
  · obtain ⟨y, S2, _, _, e2, h3, h4, B2, F2⟩ := take_ok (L := L - 1) (by omega) S1 b q _ _ 6 B1 (by decide) (by decide)
    obtain ⟨z, S3, _, _, e3, h5, h6, B3, F3⟩ := take_ok (L := L - 1) (by omega) S2 b q _ _ 9 B2 (by decide) (by decide)
    obtain ⟨y, rfl⟩ := Int.eq_ofNat_of_zero_le h3
    obtain ⟨z, rfl⟩ := Int.eq_ofNat_of_zero_le h5
    have hy : y < 6 := by omega
    have hz : z < 9 := by omega
    have g1 := colA_at y hy
    have g2 := rowA_at z hz
    simp only [colA, rowA] at g1 g2
    refine ⟨y, z, S3, _, _, ?_, hy, hz, B3, (F1.trans F2).trans F3⟩
    simp [b_l_cell, e1, e2, e3, hx, atI_nat, g1, g2, cellT]
  · obtain ⟨y, S2, _, _, e2, h3, h4, B2, F2⟩ := take_ok (L := L - 1) (by omega) S1 b q _ _ 3 B1 (by decide) (by decide)
    obtain ⟨z, S3, _, _, e3, h5, h6, B3, F3⟩ := take_ok (L := L - 1) (by omega) S2 b q _ _ 3 B2 (by decide) (by decide)
    obtain ⟨y, rfl⟩ := Int.eq_ofNat_of_zero_le h3
    obtain ⟨z, rfl⟩ := Int.eq_ofNat_of_zero_le h5
    have hy : y < 3 := by omega
    have hz : z < 3 := by omega
    have g1 := colA3_at y hy
    have g2 := rowA3_at z hz
    have hx' : (x == 1) = false := by simpa using hx
    refine ⟨y, z, S3, _, _, ?_, by omega, by omega, B3, (F1.trans F2).trans F3⟩
    simp [b_l_cell, e1, e2, e3, hx', atI_nat, g1, g2, cellT]
end Mi
end

section
set_option linter.all false
set_option maxRecDepth 100000
set_option Elab.async false
/-! the plain law: contents, drawn -/
namespace Mi
open PySem
inductive Pt where
  | num (i : Int) | cell (c r : Nat) | sum (c r c' r' : Nat) | op (o : Nat) (a b : Pt) | pick (a b c d : Pt)
def sNum : Tx := [110, 117, 109]
def sCell : Tx := [99, 101, 108, 108]
def sSum : Tx := [115, 117, 109]
def sPick : Tx := [112, 105, 99, 107]
def opT : Nat → Tx
  | 0 => [97, 100, 100]
  | 1 => [115, 117, 98]
  | _ => [109, 117, 108]
def Pt.d : Pt → D
  | .num i => .tup [.str sNum, .int i]
  | .cell c r => .tup [.str sCell, .str (cellT c r)]
  | .sum c r c' r' => .tup [.str sSum, .str (cellT c r), .str (cellT c' r')]
  | .op o a b => .tup [.str (opT o), a.d, b.d]
  | .pick a b c d => .tup [.str sPick, a.d, b.d, c.d, d.d]
def Pt.ok : Nat → Pt → Prop
  | _, .num i => -999999 ≤ i ∧ i ≤ 999999
  | _, .cell c r => c < 6 ∧ r < 9
  | _, .sum c r c' r' => (c < 6 ∧ r < 9) ∧ c' < 6 ∧ r' < 9
  | n + 1, .op o a b => o < 3 ∧ a.ok n ∧ b.ok n
  | n + 1, .pick a b c d => (a.ok n ∧ b.ok n) ∧ c.ok n ∧ d.ok n
  | 0, _ => False
/-- the number's draw, in a part and in a content -/
theorem num_draw {L : Nat} (hL : 2 ≤ L) (S : Sto) (b q : Nat) (ns : List Int) (n : Int) (B : Box S b q ns n) :
  ∃ x y z S1 S2 S3 ns' n', callF false L .l_take [.ref b, .int 9] S = .ok (.int x) S1 ∧ callF false L .l_take [.ref b, .int 1999999] S1 = .ok (.int y) S2 ∧ callF false L .l_take [.ref b, .int 2] (S2 ++ [.lst [.int (x - 3), .int (y - 999999)]]) = .ok (.int z) S3 ∧
    (∃ i : Int, -999999 ≤ i ∧ i ≤ 999999 ∧ S3.at S2.length = some (.lst [.int (x - 3), .int (y - 999999)]) ∧ L2.atI [D.int (x - 3), D.int (y - 999999)] z = some (.int i)) ∧ Box S3 b q ns' n' ∧ Fr b q S S3 := by
  obtain ⟨x, S1, _, _, e1, h1, h2, B1, F1⟩ := take_ok hL S b q ns n 9 B (by decide) (by decide)
  obtain ⟨y, S2, _, _, e2, h3, h4, B2, F2⟩ := take_ok hL S1 b q _ _ 1999999 B1 (by decide) (by decide)
  have lb := lt_of_at B2.ab
  have lq := lt_of_at B2.aq
  have B2' : Box (S2 ++ [.lst [.int (x - 3), .int (y - 999999)]]) b q _ _ := ⟨by rw [at_app lb]; exact B2.ab, by rw [at_app lq]; exact B2.aq, B2.ne⟩
  obtain ⟨z, S3, _, _, e3, h5, h6, B3, F3⟩ := take_ok hL _ b q _ _ 2 B2' (by decide) (by decide)
  refine ⟨x, y, z, S1, S2, S3, _, _, e1, e2, e3, ?_, B3, ((F1.trans F2).trans Fr.app).trans F3⟩
  have g : S3.at S2.length = some (.lst [.int (x - 3), .int (y - 999999)]) := by
    rw [F3.at_ S2.length (by simp) (by omega) (by omega), at_new]
  by_cases hz : z = 0
  · subst hz
    exact ⟨x - 3, by omega, by omega, g, by simp⟩
  · have : z = 1 := by omega
    subst this
    exact ⟨y - 999999, by omega, by omega, g, by simp⟩
/-- _law_part -/
theorem l_part_ok : ∀ (d : Nat) {L : Nat} (hL : d + 4 ≤ L) (S : Sto) (b q : Nat) (ns : List Int) (n : Int) (B : Box S b q ns n),
  ∃ p S' ns' n', callF false L .l_part [.ref b, .int d] S = .ok (Pt.d p) S' ∧ p.ok d ∧ Box S' b q ns' n' ∧ Fr b q S S'
  | 0, L, hL, S, b, q, ns, n, B => by
    rw [callF_eqL (by omega) .l_part _ S _ _ _ rfl rfl]
    obtain ⟨x, S1, _, _, e1, h1, h2, B1, F1⟩ := take_ok (L := L - 1) (by omega) S b q ns n 9 B (by decide) (by decide)
    by_cases hx : x = 1
    · obtain ⟨x', y, z, S2, S3, S4, _, _, e2, e3, e4, ⟨i, i1, i2, g1, g2⟩, B4, F4⟩ := num_draw (L := L - 1) (by omega) S1 b q _ _ B1
      refine ⟨.num i, S4, _, _, ?_, ⟨i1, i2⟩, B4, F1.trans F4⟩
      subst hx
      simp [b_l_part, e1, e2, e3, e4, seq_at, g1, g2, Pt.d, sNum]
    · obtain ⟨c, r, S2, _, _, e2, h3, h4, B2, F2⟩ := l_cell_ok (L := L - 1) (by omega) S1 b q _ _ B1
      refine ⟨.cell c r, S2, _, _, ?_, ⟨h3, h4⟩, B2, F1.trans F2⟩
      have hx' : (x == 1) = false := by simpa using hx
      simp [b_l_part, e1, e2, hx', Pt.d, sCell]
  | d + 1, L, hL, S, b, q, ns, n, B => by
    rw [callF_eqL (by omega) .l_part _ S _ _ _ rfl rfl]
    obtain ⟨x, S1, _, _, e1, h1, h2, B1, F1⟩ := take_ok (L := L - 1) (by omega) S b q ns n 9 B (by decide) (by decide)
    have hd0 : ((d : Int) + 1 == 0) = false := by simp; omega
    by_cases h3 : x < 3
    · by_cases hx : x = 1
      · obtain ⟨x', y, z, S2, S3, S4, _, _, e2, e3, e4, ⟨i, i1, i2, g1, g2⟩, B4, F4⟩ := num_draw (L := L - 1) (by omega) S1 b q _ _ B1
        refine ⟨.num i, S4, _, _, ?_, ⟨i1, i2⟩, B4, F1.trans F4⟩
        subst hx
        simp [b_l_part, e1, e2, e3, e4, seq_at, g1, g2, Pt.d, sNum, hd0]
      · obtain ⟨c, r, S2, _, _, e2, h3', h4, B2, F2⟩ := l_cell_ok (L := L - 1) (by omega) S1 b q _ _ B1
        refine ⟨.cell c r, S2, _, _, ?_, ⟨h3', h4⟩, B2, F1.trans F2⟩
        have hx' : (x == 1) = false := by simpa using hx
        simp [b_l_part, e1, e2, hx', h3, Pt.d, sCell, hd0]
    · by_cases hx3 : x = 3
      · obtain ⟨c, r, S2, _, _, e2, h5, h6, B2, F2⟩ := l_cell_ok (L := L - 1) (by omega) S1 b q _ _ B1
        obtain ⟨c', r', S3, _, _, e3, h7, h8, B3, F3⟩ := l_cell_ok (L := L - 1) (by omega) S2 b q _ _ B2
        refine ⟨.sum c r c' r', S3, _, _, ?_, ⟨⟨h5, h6⟩, h7, h8⟩, B3, (F1.trans F2).trans F3⟩
        subst hx3
        simp [b_l_part, e1, e2, e3, Pt.d, sSum, hd0]
      · obtain ⟨p1, S2, _, _, e2, o1, B2, F2⟩ := l_part_ok d (L := L - 1) (by omega) S1 b q _ _ B1
        obtain ⟨p2, S3, _, _, e3, o2, B3, F3⟩ := l_part_ok d (L := L - 1) (by omega) S2 b q _ _ B2
        have hx3' : (x == 3) = false := by simpa using hx3
        by_cases hx4 : x = 4
        · obtain ⟨p3, S4, _, _, e4, o3, B4, F4⟩ := l_part_ok d (L := L - 1) (by omega) S3 b q _ _ B3
          obtain ⟨p4, S5, _, _, e5, o4, B5, F5⟩ := l_part_ok d (L := L - 1) (by omega) S4 b q _ _ B4
          refine ⟨.pick p1 p2 p3 p4, S5, _, _, ?_, ⟨⟨o1, o2⟩, o3, o4⟩, B5, (((F1.trans F2).trans F3).trans F4).trans F5⟩
          subst hx4
          simp [b_l_part, e1, e2, e3, e4, e5, Pt.d, sPick, hd0]
        · have hx4' : (x == 4) = false := by simpa using hx4
          have lb := lt_of_at B3.ab
          have lq := lt_of_at B3.aq
          have B3' : Box (S3 ++ [.lst [.str [97, 100, 100], .str [115, 117, 98], .str [109, 117, 108], .str [97, 100, 100]]]) b q _ _ := ⟨by rw [at_app lb]; exact B3.ab, by rw [at_app lq]; exact B3.aq, B3.ne⟩
          have hh : ∃ o, o < 3 ∧ L2.atI [D.str [97, 100, 100], .str [115, 117, 98], .str [109, 117, 108], .str [97, 100, 100]] (x - 5) = some (.str (opT o)) := by
            rw [atI_int _ _ (by omega)]
            have : x = 5 ∨ x = 6 ∨ x = 7 ∨ x = 8 := by omega
            rcases this with rfl | rfl | rfl | rfl
            · exact ⟨0, by decide, rfl⟩
            · exact ⟨1, by decide, rfl⟩
            · exact ⟨2, by decide, rfl⟩
            · exact ⟨0, by decide, rfl⟩
          obtain ⟨o, ho, hg⟩ := hh
          refine ⟨.op o p1 p2, _, _, _, ?_, ⟨ho, o1, o2⟩, B3', ((F1.trans F2).trans F3).trans Fr.app⟩
          simp [b_l_part, e1, e2, e3, Pt.d, hd0, h3, hx3', hx4', seq_at, hg]
end Mi
end

section
set_option linter.all false
set_option maxRecDepth 100000
set_option Elab.async false
/-! the plain law: loops; the script's beginning; contents -/
namespace Mi
open PySem
theorem loopL_inv (body : D → Env → Sto → SR) (l : Nat) (ds : List D) (I : Nat → Env → Sto → Prop) (hs : ∀ i ε S, I i ε S → S.seq l = some ds)
    (h : ∀ i d ε S, ds[i]? = some d → I i ε S → ∃ ε' S', body d ε S = .nx ε' S' ∧ I (i + 1) ε' S') : ∀ (n i : Nat) (ε : Env) (S : Sto), ds.length < n + i → i ≤ ds.length → I i ε S → ∃ ε' S', loopL body l n i ε S = .nx ε' S' ∧ I ds.length ε' S'
  | 0, i, ε, S, h1, h2, _ => by omega
  | n + 1, i, ε, S, h1, h2, hI => by
    rw [loopL, hs i ε S hI]
    by_cases hi : i < ds.length
    · obtain ⟨ε', S', e, hI'⟩ := h i ds[i] ε S (List.getElem?_eq_getElem hi) hI
      dsimp only
      rw [List.getElem?_eq_getElem hi]
      dsimp only
      rw [e, SR.then_nx]
      exact loopL_inv body l ds I hs h n (i + 1) ε' S' (by omega) (by omega) hI'
    · have : i = ds.length := by omega
      subst this
      dsimp only
      rw [List.getElem?_eq_none (by omega)]
      exact ⟨ε, S, rfl, hI⟩
theorem loopX_inv (body : D → Env → Sto → SR) (I : Nat → Env → Sto → Prop) : ∀ (ds : List D) (k : Nat) (h : ∀ i d ε S, ds[i]? = some d → I (k + i) ε S → ∃ ε' S', body d ε S = .nx ε' S' ∧ I (k + i + 1) ε' S') (ε : Env) (S : Sto), I k ε S → ∃ ε' S', loopX body ds ε S = .nx ε' S' ∧ I (k + ds.length) ε' S'
  | [], k, h, ε, S, hI => ⟨ε, S, rfl, hI⟩
  | d :: r, k, h, ε, S, hI => by
    obtain ⟨ε', S', e, hI'⟩ := h 0 d ε S rfl hI
    rw [loopX, e, SR.then_nx]
    obtain ⟨ε2, S2, e2, hI2⟩ := loopX_inv body I r (k + 1) (fun i x ε S hx hI => by
      have := h (i + 1) x ε S hx (by rw [show k + (i + 1) = k + 1 + i by omega]; exact hI)
      rw [show k + (i + 1) + 1 = k + 1 + i + 1 by omega] at this
      exact this) ε' S' hI'
    refine ⟨ε2, S2, e2, ?_⟩
    rw [show k + (d :: r).length = k + 1 + r.length by simp; omega]
    exact hI2
@[simp] theorem toItS_seq (S : Sto) (l : Nat) : toIt (.seq .non) [.ref l] S = if (S.seq l).isSome then some (.live l) else none := rfl
@[simp] theorem toItS_tup (S : Sto) (ds : List D) : toIt (.seq .non) [.tup ds] S = some (.items ds) := rfl
@[simp] theorem toItS_str (S : Sto) (t : Tx) : toIt (.seq .non) [.str t] S = some (.items (t.map fun c => .str [c])) := rfl
@[simp] theorem b1_lst (S : Sto) (l : Nat) : b1 .lst (.ref l) S = match S.seq l with | some ds => .ok (.ref S.length) (S ++ [.lst ds]) | none => match S.dct l with | some kvs => .ok (.ref S.length) (S ++ [.lst (kvs.map fun kv => kv.1.d)]) | none => .bad := rfl
@[simp] theorem b1_len (S : Sto) (l : Nat) : b1 .len (.ref l) S = match S.seq l with | some ds => .ok (.int ds.length) S | none => match S.dic l with | some kvs => .ok (.int kvs.length) S | none => .bad := rfl
@[simp] theorem b1_intB (S : Sto) (k : Bool) : b1 .int (.bl k) S = .ok (.int (if k then 1 else 0)) S := rfl
theorem begun_ok {L : Nat} (hL : 2 ≤ L) (ns : List Int) (hn : ns.length ≤ 63) : ∃ b q S' n', callF false L .l_begun [.ref 0] [.frl (ofI ns)] = .ok (.ref b) S' ∧ Box S' b q ns n' := by
  rw [callF_eqL (by omega) .l_begun _ _ _ _ _ rfl rfl]
  have hlen : (ofI ns).length = ns.length := by simp [ofI]
  obtain ⟨ε', S', e, hS, n, x, hε⟩ := loopL_inv (turn ⟨false, callF false (L - 1), callF false (L - 2)⟩ (.one 2) (.cons (.set 1 (.bin .mod (.bin .add (.bin .add (.bin .mul (.v 1) (.int 48271)) (.bin .mul (.v 2) (.int 69621))) (.int 11)) (.int 2147483647))) .nil)) 0 (ofI ns)
    (fun _ ε S => S = [.frl (ofI ns)] ∧ ∃ n x, ε = ⟨[some (.ref 0), some (.int n), x], none⟩) (fun i ε S ⟨h, _⟩ => by subst h; rfl)
    (fun i d ε S hd ⟨h, n, x, hε⟩ => by
      subst h hε
      have : ∃ j : Int, d = .int j := by
        simp only [ofI, List.getElem?_map, Option.map_eq_some_iff] at hd
        obtain ⟨j, _, rfl⟩ := hd
        exact ⟨j, rfl⟩
      obtain ⟨j, rfl⟩ := this
      exact ⟨⟨[some (.ref 0), some (.int ((n * 48271 + j * 69621 + 11) % 2147483647)), some (.int j)], none⟩, [.frl (ofI ns)], by simp, rfl, _, _, rfl⟩) FU 0 ⟨[some (.ref 0), some (.int 0), none], none⟩ [.frl (ofI ns)] (by rw [hlen]; unfold FU; omega) (by omega) ⟨rfl, 0, none, rfl⟩
  subst hS hε
  have sm : ∀ k : Bool, smallI (if k = true then 1 else 0) = true := by decide
  refine ⟨2, 1, [.frl (ofI ns), .lst (ofI ns), .lst [.ref 1, .int (n * (if decide (2 < (ns.length : Int)) then 1 else 0))]], n * (if decide (2 < (ns.length : Int)) then 1 else 0), ?_, ⟨rfl, rfl, by decide⟩⟩
  simp [b_l_begun, seq_at, Sto.at, loopI, e, hlen]
  have := sm (decide ((2 : Int) < ns.length))
  simp at this
  simp [this]
/-- contents: nothing or a part -/
def Ct.d : Option Pt → D
  | none => .non
  | some p => p.d
/-- a content: no number below the top but in parts -/
def Ct.ok (n : Nat) : Option Pt → Prop
  | none => True
  | some p => p.ok n
theorem l_content_ok (d : Nat) {L : Nat} (hL : d + 5 ≤ L) (S : Sto) (b q : Nat) (ns : List Int) (n : Int) (B : Box S b q ns n) :
  ∃ c S' ns' n', callF false L .l_content [.ref b, .int d] S = .ok (Ct.d c) S' ∧ Ct.ok d c ∧ Box S' b q ns' n' ∧ Fr b q S S' := by
  rw [callF_eqL (by omega) .l_content _ S _ _ _ rfl rfl]
  obtain ⟨x, S1, _, _, e1, h1, h2, B1, F1⟩ := take_ok (L := L - 1) (by omega) S b q ns n 5 B (by decide) (by decide)
  by_cases hx0 : x = 0
  · subst hx0
    refine ⟨none, S1, _, _, ?_, trivial, B1, F1⟩
    simp [b_l_content, e1, Ct.d]
  · have hx0' : (x == 0) = false := by simpa using hx0
    by_cases hx : x = 1
    · obtain ⟨x', y, z, S2, S3, S4, _, _, e2, e3, e4, ⟨i, i1, i2, g1, g2⟩, B4, F4⟩ := num_draw (L := L - 1) (by omega) S1 b q _ _ B1
      refine ⟨some (.num i), S4, _, _, ?_, by cases d <;> exact ⟨i1, i2⟩, B4, F1.trans F4⟩
      subst hx
      simp [b_l_content, e1, e2, e3, e4, seq_at, g1, g2, Ct.d, Pt.d, sNum]
    · have hx' : (x == 1) = false := by simpa using hx
      obtain ⟨p, S2, _, _, e2, o1, B2, F2⟩ := l_part_ok d (L := L - 1) (by omega) S1 b q _ _ B1
      cases p with
      | num i =>
        refine ⟨some (.cell 0 0), S2, _, _, ?_, by cases d <;> exact ⟨by decide, by decide⟩, B2, F1.trans F2⟩
        simp [b_l_content, e1, e2, hx0', hx', Ct.d, Pt.d, sNum, sCell, cellT]
      | cell c r =>
        refine ⟨some (.cell c r), S2, _, _, ?_, o1, B2, F1.trans F2⟩
        simp [b_l_content, e1, e2, hx0', hx', Ct.d, Pt.d, sNum, sCell, cellT]
      | sum c r c' r' =>
        refine ⟨some (.sum c r c' r'), S2, _, _, ?_, o1, B2, F1.trans F2⟩
        simp [b_l_content, e1, e2, hx0', hx', Ct.d, Pt.d, sSum]
      | op o a c =>
        refine ⟨some (.op o a c), S2, _, _, ?_, o1, B2, F1.trans F2⟩
        have : (opT o == [110, 117, 109]) = false := by
          unfold opT
          split <;> decide
        simp only [Pt.d] at e2
        simp [b_l_content, e1, e2, hx0', hx', Ct.d, Pt.d, this]
      | pick a c d' e =>
        refine ⟨some (.pick a c d' e), S2, _, _, ?_, o1, B2, F1.trans F2⟩
        simp [b_l_content, e1, e2, hx0', hx', Ct.d, Pt.d, sPick]
end Mi
end

section
set_option linter.all false
set_option maxRecDepth 100000
set_option Elab.async false
/-! the plain law: texts of contents -/
namespace Mi
open PySem
def Pt.t : Pt → Tx
  | .num i => strI i
  | .cell c r => cellT c r
  | .sum c r c' r' => sSum ++ [32] ++ cellT c r ++ [32] ++ cellT c' r'
  | .op o a b => opT o ++ [32] ++ (a.t ++ [32] ++ b.t)
  | .pick a b c d => sPick ++ [32] ++ (a.t ++ [32] ++ (b.t ++ [32] ++ (c.t ++ [32] ++ d.t)))
theorem digits_len : ∀ (k n : Nat), n < 10 ^ (k + 1) → (digits n).length ≤ k + 1
  | 0, n, h => by
    unfold digits
    rw [TL.numL_lt (by omega)]
    simp
  | k + 1, n, h => by
    by_cases h10 : n < 10
    · unfold digits
      rw [TL.numL_lt h10]
      simp
    · have := digits_len k (n / 10) (by rw [Nat.pow_succ] at h; omega)
      unfold digits at this ⊢
      rw [TL.numL_step (by omega)]
      simp
      omega
theorem strI_len {i : Int} (h1 : -999999 ≤ i) (h2 : i ≤ 999999) : (strI i).length ≤ 7 := by
  have := digits_len 5 i.natAbs (by omega)
  unfold strI
  split <;> simp <;> omega
theorem opT_len (o : Nat) : (opT o).length = 3 := by unfold opT; split <;> rfl
theorem pow5 (d : Nat) : 25 ≤ 5 ^ (d + 2) := by
  have : 1 ≤ 5 ^ d := Nat.one_le_pow _ _ (by decide)
  rw [show d + 2 = d + 1 + 1 by rfl, Nat.pow_succ, Nat.pow_succ]
  omega
theorem Pt.t_len : ∀ (d : Nat) (p : Pt), p.ok d → p.t.length ≤ 5 ^ (d + 2)
  | d, .num i, h => by
    have := pow5 d
    have h : -999999 ≤ i ∧ i ≤ 999999 := by cases d <;> exact h
    have := strI_len h.1 h.2
    simp only [Pt.t]
    omega
  | d, .cell c r, h => by
    have := pow5 d
    simp [Pt.t, cellT]
    omega
  | d, .sum c r c' r', h => by
    have := pow5 d
    simp [Pt.t, cellT, sSum]
    omega
  | d + 1, .op o a b, h => by
    have h1 := Pt.t_len d a h.2.1
    have h2 := Pt.t_len d b h.2.2
    have := pow5 d
    have := opT_len o
    rw [show d + 1 + 2 = (d + 2) + 1 by omega, Nat.pow_succ]
    simp [Pt.t]
    omega
  | d + 1, .pick a b c e, h => by
    have h1 := Pt.t_len d a h.1.1
    have h2 := Pt.t_len d b h.1.2
    have h3 := Pt.t_len d c h.2.1
    have h4 := Pt.t_len d e h.2.2
    have := pow5 d
    rw [show d + 1 + 2 = (d + 2) + 1 by omega, Nat.pow_succ]
    simp [Pt.t, sPick]
    omega
theorem Pt.t_len5 {d : Nat} {p : Pt} (hd : d ≤ 4) (h : p.ok d) : p.t.length ≤ 15625 :=
  Nat.le_trans (Pt.t_len d p h) (Nat.le_trans (Nat.pow_le_pow_right (by decide) (show d + 2 ≤ 6 by omega)) (by decide))
theorem slice_tl (x a : D) (r : List D) (S : Sto) : slice (.tup (x :: a :: r)) (some 1) none S = .ok (.tup (a :: r)) S := by
  have h1 : HT.sIx (x :: a :: r).length 0 (some 1) = 1 := by simp [HT.sIx]
  have h2 : HT.sIx (x :: a :: r).length (x :: a :: r).length none = (x :: a :: r).length := rfl
  simp only [slice, cut, h1, h2]
  simp
@[simp] theorem in_tup (S : Sto) (a : D) (xs : List D) : isIn a (.tup xs) S = if a.flat && xs.all D.flat then some (inL a xs) else none := rfl
@[simp] theorem flat_str (t : Tx) : D.flat (.str t) = true := rfl
@[simp] theorem flat_int (t : Int) : D.flat (.int t) = true := rfl
@[simp] theorem b1_strI (S : Sto) (i : Int) : b1 .str (.int i) S = if i.natAbs < 10 ^ 500 then .ok (.str (strI i)) S else .bad := rfl
@[simp] theorem b1_strS (S : Sto) (t : Tx) : b1 .str (.str t) S = .ok (.str t) S := rfl
theorem small500 {i : Int} (h1 : -999999 ≤ i) (h2 : i ≤ 999999) : i.natAbs < 10 ^ 500 := Nat.lt_of_lt_of_le (show i.natAbs < 10 ^ 6 by omega) (Nat.pow_le_pow_right (by decide) (by decide))
@[simp] theorem atI_2 {α : Type} (xs : List α) : L2.atI xs 2 = xs[2]? := atI_nat xs 2
@[simp] theorem atI_3 {α : Type} (xs : List α) : L2.atI xs 3 = xs[3]? := atI_nat xs 3
@[simp] theorem atI_4 {α : Type} (xs : List α) : L2.atI xs 4 = xs[4]? := atI_nat xs 4
@[simp] theorem atI_5 {α : Type} (xs : List α) : L2.atI xs 5 = xs[5]? := atI_nat xs 5
@[simp] theorem atI_6 {α : Type} (xs : List α) : L2.atI xs 6 = xs[6]? := atI_nat xs 6
@[simp] theorem atI_7 {α : Type} (xs : List α) : L2.atI xs 7 = xs[7]? := atI_nat xs 7
@[simp] theorem atI_8 {α : Type} (xs : List α) : L2.atI xs 8 = xs[8]? := atI_nat xs 8
@[simp] theorem atI_9 {α : Type} (xs : List α) : L2.atI xs 9 = xs[9]? := atI_nat xs 9
/-- all that was stays -/
structure Ext (S S' : Sto) : Prop where
  len : S.length ≤ S'.length
  at_ : ∀ l, l < S.length → S'.at l = S.at l
theorem Ext.refl {S : Sto} : Ext S S := ⟨Nat.le_refl _, fun _ _ => rfl⟩
theorem Ext.trans {S S1 S2 : Sto} (h : Ext S S1) (g : Ext S1 S2) : Ext S S2 := ⟨Nat.le_trans h.len g.len, fun l hl => (g.at_ l (Nat.lt_of_lt_of_le hl h.len)).trans (h.at_ l hl)⟩
theorem Ext.app {S G : Sto} : Ext S (S ++ G) := ⟨by simp, fun _ hl => at_app hl⟩
theorem l_part_text_ok : ∀ (d : Nat) (hd : d ≤ 4) (p : Pt), p.ok d → ∀ {L : Nat} (hL : d + 2 ≤ L) (S : Sto), ∃ S', callF false L .l_part_text [p.d] S = .ok (.str p.t) S' ∧ Ext S S'
  | d, hd, .num i, h, L, hL, S => by
    have h : -999999 ≤ i ∧ i ≤ 999999 := by cases d <;> exact h
    rw [callF_eqL (by omega) .l_part_text _ S _ _ _ rfl rfl]
    refine ⟨S, ?_, .refl⟩
    have := small500 h.1 h.2
    simp [b_l_part_text, Pt.d, Pt.t, sNum, inL, D.eqv, -Nat.reducePow, this]
  | d, hd, .cell c r, h, L, hL, S => by
    rw [callF_eqL (by omega) .l_part_text _ S _ _ _ rfl rfl]
    refine ⟨S, ?_, .refl⟩
    simp [b_l_part_text, Pt.d, Pt.t, sCell, inL, D.eqv]
  | d, hd, .sum c r c' r', h, L, hL, S => by
    rw [callF_eqL (by omega) .l_part_text _ S _ _ _ rfl rfl]
    refine ⟨S, ?_, .refl⟩
    simp [b_l_part_text, Pt.d, Pt.t, sSum, inL, D.eqv, cellT]
  | d + 1, hd, .op o a b, h, L, hL, S => by
    rw [callF_eqL (by omega) .l_part_text _ S _ _ _ rfl rfl]
    obtain ⟨S1, e1, x1⟩ := l_part_text_ok d (by omega) a h.2.1 (L := L - 1) (by omega) S
    obtain ⟨S2, e2, x2⟩ := l_part_text_ok d (by omega) b h.2.2 (L := L - 1) (by omega) S1
    have l1 := Pt.t_len5 (by omega) h.2.1
    have l2 := Pt.t_len5 (by omega) h.2.2
    have o1 : inL (.str (opT o)) [D.str [110, 117, 109], D.str [99, 101, 108, 108]] = false := by unfold opT; split <;> decide
    have o2 : (opT o == [115, 117, 109]) = false := by unfold opT; split <;> decide
    have o3 := opT_len o
    have le : a.t.length + (b.t.length + 1) ≤ 16777215 := by omega
    have le2 : 3 + 1 + (a.t.length + (b.t.length + 1)) ≤ 16777216 := by omega
    refine ⟨_, ?_, (x1.trans x2).trans (.app (G := [.lst [.str a.t, .str b.t]]))⟩
    simp [b_l_part_text, Pt.d, Pt.t, o1, o2, o3, slice_tl, compI, compX, accd, e1, e2, recv1, isTxt, m1, seq_at, txtsOf, TL.joinL, le, le2]
  | d + 1, hd, .pick a b c e, h, L, hL, S => by
    rw [callF_eqL (by omega) .l_part_text _ S _ _ _ rfl rfl]
    obtain ⟨S1, e1, x1⟩ := l_part_text_ok d (by omega) a h.1.1 (L := L - 1) (by omega) S
    obtain ⟨S2, e2, x2⟩ := l_part_text_ok d (by omega) b h.1.2 (L := L - 1) (by omega) S1
    obtain ⟨S3, e3, x3⟩ := l_part_text_ok d (by omega) c h.2.1 (L := L - 1) (by omega) S2
    obtain ⟨S4, e4, x4⟩ := l_part_text_ok d (by omega) e h.2.2 (L := L - 1) (by omega) S3
    have l1 := Pt.t_len5 (by omega) h.1.1
    have l2 := Pt.t_len5 (by omega) h.1.2
    have l3 := Pt.t_len5 (by omega) h.2.1
    have l4 := Pt.t_len5 (by omega) h.2.2
    have le : a.t.length + (b.t.length + (c.t.length + (e.t.length + 1) + 1) + 1) ≤ 16777215 := by omega
    have le2 : a.t.length + (b.t.length + (c.t.length + (e.t.length + 1) + 1) + 1) + 5 ≤ 16777216 := by omega
    have le3 : 5 + (a.t.length + (b.t.length + (c.t.length + (e.t.length + 1) + 1) + 1)) ≤ 16777216 := by omega
    refine ⟨_, ?_, (((x1.trans x2).trans x3).trans x4).trans (.app (G := [.lst [.str a.t, .str b.t, .str c.t, .str e.t]]))⟩
    simp [b_l_part_text, Pt.d, Pt.t, sPick, inL, D.eqv, slice_tl, compI, compX, accd, e1, e2, e3, e4, recv1, isTxt, m1, seq_at, txtsOf, TL.joinL, le, le2, le3]
end Mi
end

section
set_option linter.all false
set_option maxRecDepth 100000
set_option Elab.async false
/-! the plain law: part_text, text_of -/
namespace Mi
open PySem
theorem Ext.set {S S1 : Sto} {w : Nat} {o : Ob} (h : Ext S S1) (hw : S.length ≤ w) : Ext S (S1.set w o) :=
  ⟨by simpa using h.len, fun l hl => by rw [at_ne (by omega)]; exact h.at_ l hl⟩
@[simp] theorem isi_str (S : Sto) (t : Ty) (x : Tx) : b1 (.isi t) (.str x) S = .ok (.bl (decide (t = .str))) S := rfl
@[simp] theorem isi_int (S : Sto) (t : Ty) (x : Int) : b1 (.isi t) (.int x) S = .ok (.bl (decide (t = .int))) S := rfl
@[simp] theorem isi_tup (S : Sto) (t : Ty) (x : List D) : b1 (.isi t) (.tup x) S = .ok (.bl (decide (t = .tup))) S := rfl
@[simp] theorem isi_non (S : Sto) (t : Ty) : b1 (.isi t) .non S = .ok (.bl false) S := rfl
@[simp] theorem isi_bl (S : Sto) (t : Ty) (b : Bool) : b1 (.isi t) (.bl b) S = .ok (.bl (decide (t = .bool) || decide (t = .int))) S := rfl
@[simp] theorem m1_append (S : Sto) (l : Nat) (a : D) : m1 .append (.ref l) a S = match S.lst l with | some ds => if ds.length < lim then .ok .non (S.set l (.lst (ds ++ [a]))) else .bad | none => .bad := rfl
@[simp] theorem recv1_append (S : Sto) (l : Nat) : recv1 .append (.ref l) S = (S.seq l).isSome := rfl
@[simp] theorem m1_join (S : Sto) (t : Tx) (l : Nat) : m1 .join (.str t) (.ref l) S = match S.seq l with | some ds => (match txtsOf ds with | some ts => if (TL.joinL t ts).length + t.length ≤ lim then .ok (.str (TL.joinL t ts)) S else .bad | none => .bad) | none => .bad := rfl
@[simp] theorem recv1_join (S : Sto) (t : Tx) : recv1 .join (.str t) S = true := rfl
theorem Pt.d_tup (p : Pt) : ∃ x r, p.d = .tup (x :: r) := by cases p <;> exact ⟨_, _, rfl⟩
theorem part_text_ok : ∀ (d : Nat) (hd : d ≤ 4) (p : Pt), p.ok d → ∀ {L : Nat} (hL : d + 2 ≤ L) (S : Sto), ∃ S', callF false L .part_text [p.d] S = .ok (.str p.t) S' ∧ Ext S S'
  | d, hd, .num i, h, L, hL, S => by
    have h : -999999 ≤ i ∧ i ≤ 999999 := by cases d <;> exact h
    rw [callF_eqL (by omega) .part_text _ S _ _ _ rfl rfl]
    have := small500 h.1 h.2
    have l0 := strI_len h.1 h.2
    have l1 : (strI i).length ≤ 16777215 := by omega
    refine ⟨S ++ [.lst [.str (strI i)]], ?_, .app⟩
    simp [b_part_text, Pt.d, Pt.t, sNum, inL, D.eqv, -Nat.reducePow, this, loopI, loopX, seq_at, lst_at, txtsOf, TL.joinL, l1]
  | d, hd, .cell c r, h, L, hL, S => by
    rw [callF_eqL (by omega) .part_text _ S _ _ _ rfl rfl]
    refine ⟨S ++ [.lst [.str (cellT c r)]], ?_, .app⟩
    simp [b_part_text, Pt.d, Pt.t, sCell, inL, D.eqv, cellT, loopI, loopX, seq_at, lst_at, txtsOf, TL.joinL]
  | d, hd, .sum c r c' r', h, L, hL, S => by
    rw [callF_eqL (by omega) .part_text _ S _ _ _ rfl rfl]
    refine ⟨S ++ [.lst [.str sSum, .str (cellT c r), .str (cellT c' r')]], ?_, .app⟩
    simp [b_part_text, Pt.d, Pt.t, sSum, inL, D.eqv, cellT, loopI, loopX, seq_at, lst_at, txtsOf, TL.joinL]
  | d + 1, hd, .op o a b, h, L, hL, S => by
    rw [callF_eqL (by omega) .part_text _ S _ _ _ rfl rfl]
    obtain ⟨S1, e1, x1⟩ := part_text_ok d (by omega) a h.2.1 (L := L - 1) (by omega) (S ++ [.lst [.str (opT o)]])
    have w1 : S1.at S.length = some (.lst [.str (opT o)]) := (x1.at_ S.length (by simp)).trans at_new
    have k1 := lt_of_at w1
    obtain ⟨S2, e2, x2⟩ := part_text_ok d (by omega) b h.2.2 (L := L - 1) (by omega) (S1.set S.length (.lst [.str (opT o), .str a.t]))
    have w2 : S2.at S.length = some (.lst [.str (opT o), .str a.t]) := (x2.at_ S.length (by simpa using k1)).trans (at_self k1)
    have k2 := lt_of_at w2
    have l1 := Pt.t_len5 (by omega) h.2.1
    have l2 := Pt.t_len5 (by omega) h.2.2
    have o1 : inL (.str (opT o)) [D.str [110, 117, 109], D.str [99, 101, 108, 108]] = false := by unfold opT; split <;> decide
    have o3 := opT_len o
    obtain ⟨xa, ra, ea⟩ := a.d_tup
    obtain ⟨xb, rb, eb⟩ := b.d_tup
    rw [ea] at e1
    rw [eb] at e2
    refine ⟨S2.set S.length (.lst [.str (opT o), .str a.t, .str b.t]), ?_, (((Ext.app.trans x1).set (Nat.le_refl _)).trans x2).set (Nat.le_refl _)⟩
    have le : 3 + (a.t.length + (b.t.length + 1) + 1) ≤ 16777215 := by omega
    have le2 : a.t.length + (b.t.length + 1) + 1 + 3 ≤ 16777215 := by omega
    simp [b_part_text, Pt.d, Pt.t, ea, eb, o1, o3, loopI, loopX, seq_at, lst_at, txtsOf, TL.joinL, e1, e2, w1, w2, at_self, k1, k2, le, le2]
  | d + 1, hd, .pick a b c e, h, L, hL, S => by
    rw [callF_eqL (by omega) .part_text _ S _ _ _ rfl rfl]
    obtain ⟨S1, e1, x1⟩ := part_text_ok d (by omega) a h.1.1 (L := L - 1) (by omega) (S ++ [.lst [.str sPick]])
    have w1 : S1.at S.length = some (.lst [.str sPick]) := (x1.at_ S.length (by simp)).trans at_new
    have k1 := lt_of_at w1
    obtain ⟨S2, e2, x2⟩ := part_text_ok d (by omega) b h.1.2 (L := L - 1) (by omega) (S1.set S.length (.lst [.str sPick, .str a.t]))
    have w2 : S2.at S.length = some (.lst [.str sPick, .str a.t]) := (x2.at_ S.length (by simpa using k1)).trans (at_self k1)
    have k2 := lt_of_at w2
    obtain ⟨S3, e3, x3⟩ := part_text_ok d (by omega) c h.2.1 (L := L - 1) (by omega) (S2.set S.length (.lst [.str sPick, .str a.t, .str b.t]))
    have w3 : S3.at S.length = some (.lst [.str sPick, .str a.t, .str b.t]) := (x3.at_ S.length (by simpa using k2)).trans (at_self k2)
    have k3 := lt_of_at w3
    obtain ⟨S4, e4, x4⟩ := part_text_ok d (by omega) e h.2.2 (L := L - 1) (by omega) (S3.set S.length (.lst [.str sPick, .str a.t, .str b.t, .str c.t]))
    have w4 : S4.at S.length = some (.lst [.str sPick, .str a.t, .str b.t, .str c.t]) := (x4.at_ S.length (by simpa using k3)).trans (at_self k3)
    have k4 := lt_of_at w4
    have l1 := Pt.t_len5 (by omega) h.1.1
    have l2 := Pt.t_len5 (by omega) h.1.2
    have l3 := Pt.t_len5 (by omega) h.2.1
    have l4 := Pt.t_len5 (by omega) h.2.2
    obtain ⟨xa, ra, ea⟩ := a.d_tup
    obtain ⟨xb, rb, eb⟩ := b.d_tup
    obtain ⟨xc, rc, ec⟩ := c.d_tup
    obtain ⟨xe, re, ee⟩ := e.d_tup
    rw [ea] at e1
    rw [eb] at e2
    rw [ec] at e3
    rw [ee] at e4
    simp only [sPick] at e1 e2 e3 e4 w1 w2 w3 w4
    refine ⟨S4.set S.length (.lst [.str sPick, .str a.t, .str b.t, .str c.t, .str e.t]), ?_, (((((((Ext.app.trans x1).set (Nat.le_refl _)).trans x2).set (Nat.le_refl _)).trans x3).set (Nat.le_refl _)).trans x4).set (Nat.le_refl _)⟩
    have le : a.t.length + (b.t.length + (c.t.length + (e.t.length + 1) + 1) + 1) + 5 ≤ 16777215 := by omega
    have le2 : a.t.length + (b.t.length + (c.t.length + (e.t.length + 1) + 1) + 1) ≤ 16777210 := by omega
    simp [b_part_text, Pt.d, Pt.t, ea, eb, ec, ee, sPick, inL, D.eqv, loopI, loopX, seq_at, lst_at, txtsOf, TL.joinL, e1, e2, e3, e4, w1, w2, w3, w4, at_self, k1, k2, k3, k4, le, le2]
/-! ### of contents -/
def Ct.t : Option Pt → Tx
  | none => []
  | some (.num i) => strI i
  | some p => [61, 32] ++ p.t
theorem opT_num (o : Nat) : (opT o == ([110, 117, 109] : Tx)) = false := by unfold opT; split <;> decide
theorem l_text_ok (d : Nat) (hd : d ≤ 4) (c : Option Pt) (h : Ct.ok d c) {L : Nat} (hL : d + 3 ≤ L) (S : Sto) : ∃ S', callF false L .l_text [Ct.d c] S = .ok (.str (Ct.t c)) S' ∧ Ext S S' := by
  rw [callF_eqL (by omega) .l_text _ S _ _ _ rfl rfl]
  cases c with
  | none => exact ⟨S, by simp [b_l_text, Ct.d, Ct.t], .refl⟩
  | some p =>
    obtain ⟨S1, e1, x1⟩ := l_part_text_ok d hd p h (L := L - 1) (by omega) S
    have l1 := Pt.t_len5 hd h
    have le : 2 + p.t.length ≤ 16777216 := by omega
    refine ⟨S1, ?_, x1⟩
    cases p <;> simp only [Pt.d, Pt.t] at e1 le <;> simp [b_l_text, Ct.d, Ct.t, Pt.d, Pt.t, e1, sNum, sCell, sSum, sPick, opT_num] at e1 le ⊢ <;> simp_all
theorem text_of_ok (d : Nat) (hd : d ≤ 4) (c : Option Pt) (h : Ct.ok d c) {L : Nat} (hL : d + 3 ≤ L) (S : Sto) : ∃ S', callF false L .text_of [Ct.d c] S = .ok (.str (Ct.t c)) S' ∧ Ext S S' := by
  rw [callF_eqL (by omega) .text_of _ S _ _ _ rfl rfl]
  cases c with
  | none => exact ⟨S, by simp [b_text_of, Ct.d, Ct.t], .refl⟩
  | some p =>
    obtain ⟨S1, e1, x1⟩ := part_text_ok d hd p h (L := L - 1) (by omega) S
    have l1 := Pt.t_len5 hd h
    have le : 2 + p.t.length ≤ 16777216 := by omega
    cases p with
    | num i =>
      have h : -999999 ≤ i ∧ i ≤ 999999 := by cases d <;> exact h
      have := small500 h.1 h.2
      exact ⟨S, by simp [b_text_of, Ct.d, Ct.t, Pt.d, sNum, this, -Nat.reducePow], .refl⟩
    | cell c r =>
      refine ⟨S1, ?_, x1⟩
      simp only [Pt.d, Pt.t, sCell] at e1 le
      simp [b_text_of, Ct.d, Ct.t, Pt.d, Pt.t, e1, sCell, le]
    | sum c r c' r' =>
      refine ⟨S1, ?_, x1⟩
      simp only [Pt.d, Pt.t, sSum] at e1 le
      have le := le
      simp at le
      simp [b_text_of, Ct.d, Ct.t, Pt.d, Pt.t, e1, sSum]
      simp_all
    | op o a b =>
      refine ⟨S1, ?_, x1⟩
      simp only [Pt.d] at e1
      simp [b_text_of, Ct.d, Ct.t, Pt.d, e1, opT_num, le]
    | pick a b c e =>
      refine ⟨S1, ?_, x1⟩
      simp only [Pt.d, sPick] at e1
      simp [b_text_of, Ct.d, Ct.t, Pt.d, e1, sPick, le]
end Mi
end

section
set_option linter.all false
set_option maxRecDepth 100000
set_option Elab.async false
/-! the plain law: _law_alike of equals -/
namespace Mi
open PySem
theorem alike_str {L : Nat} (hL : 2 ≤ L) (S : Sto) (t : Tx) : callF false L .l_alike [.str t, .str t] S = .ok (.bl true) S := by
  rw [callF_eqL (by omega) .l_alike _ S _ _ _ rfl rfl]
  simp [b_l_alike]
theorem alike_int {L : Nat} (hL : 2 ≤ L) (S : Sto) (t : Int) : callF false L .l_alike [.int t, .int t] S = .ok (.bl true) S := by
  rw [callF_eqL (by omega) .l_alike _ S _ _ _ rfl rfl]
  simp [b_l_alike]
theorem alike_tup2 {L : Nat} (hL : 2 ≤ L) (S : Sto) (a b : D) (ha : callF false (L - 1) .l_alike [a, a] S = .ok (.bl true) S) (hb : callF false (L - 1) .l_alike [b, b] S = .ok (.bl true) S) : callF false L .l_alike [.tup [a, b], .tup [a, b]] S = .ok (.bl true) S := by
  rw [callF_eqL (by omega) .l_alike _ S _ _ _ rfl rfl]
  simp [b_l_alike, loopI, loopX, ha, hb]
theorem alike_tup3 {L : Nat} (hL : 2 ≤ L) (S : Sto) (a b c : D) (ha : callF false (L - 1) .l_alike [a, a] S = .ok (.bl true) S) (hb : callF false (L - 1) .l_alike [b, b] S = .ok (.bl true) S) (hc : callF false (L - 1) .l_alike [c, c] S = .ok (.bl true) S) :
    callF false L .l_alike [.tup [a, b, c], .tup [a, b, c]] S = .ok (.bl true) S := by
  rw [callF_eqL (by omega) .l_alike _ S _ _ _ rfl rfl]
  simp [b_l_alike, loopI, loopX, ha, hb, hc]
theorem alike_tup5 {L : Nat} (hL : 2 ≤ L) (S : Sto) (a b c d e : D) (ha : callF false (L - 1) .l_alike [a, a] S = .ok (.bl true) S) (hb : callF false (L - 1) .l_alike [b, b] S = .ok (.bl true) S) (hc : callF false (L - 1) .l_alike [c, c] S = .ok (.bl true) S)
    (hd : callF false (L - 1) .l_alike [d, d] S = .ok (.bl true) S) (he : callF false (L - 1) .l_alike [e, e] S = .ok (.bl true) S) : callF false L .l_alike [.tup [a, b, c, d, e], .tup [a, b, c, d, e]] S = .ok (.bl true) S := by
  rw [callF_eqL (by omega) .l_alike _ S _ _ _ rfl rfl]
  simp [b_l_alike, loopI, loopX, ha, hb, hc, hd, he]
theorem alike_pt : ∀ (d : Nat) (p : Pt), p.ok d → ∀ {L : Nat} (hL : d + 3 ≤ L) (S : Sto), callF false L .l_alike [p.d, p.d] S = .ok (.bl true) S
  | d, .num i, h, L, hL, S => alike_tup2 (by omega) S _ _ (alike_str (by omega) S _) (alike_int (by omega) S _)
  | d, .cell c r, h, L, hL, S => alike_tup2 (by omega) S _ _ (alike_str (by omega) S _) (alike_str (by omega) S _)
  | d, .sum c r c' r', h, L, hL, S => alike_tup3 (by omega) S _ _ _ (alike_str (by omega) S _) (alike_str (by omega) S _) (alike_str (by omega) S _)
  | d + 1, .op o a b, h, L, hL, S => alike_tup3 (by omega) S _ _ _ (alike_str (by omega) S _) (alike_pt d a h.2.1 (by omega) S) (alike_pt d b h.2.2 (by omega) S)
  | d + 1, .pick a b c e, h, L, hL, S => alike_tup5 (by omega) S _ _ _ _ _ (alike_str (by omega) S _) (alike_pt d a h.1.1 (by omega) S) (alike_pt d b h.1.2 (by omega) S) (alike_pt d c h.2.1 (by omega) S) (alike_pt d e h.2.2 (by omega) S)
/-- two lists of the same texts -/
theorem alike_lst {L : Nat} (hL : 3 ≤ L) (S : Sto) (l m : Nat) (ts : List Tx) (hl : S.at l = some (.lst (ofT ts))) (hm : S.at m = some (.lst (ofT ts))) (hn : ts.length ≤ 1000) : callF false L .l_alike [.ref l, .ref m] S = .ok (.bl true) S := by
  rw [callF_eqL (by omega) .l_alike _ S _ _ _ rfl rfl]
  have i1 : ∀ t : Ty, b1 (.isi t) (.ref l) S = .ok (.bl (decide (t = .lst))) S := fun t => by
    have hl' : S[l]? = some (.lst (ofT ts)) := hl
    simp [b1, isTy, hl']
  have i2 : ∀ t : Ty, b1 (.isi t) (.ref m) S = .ok (.bl (decide (t = .lst))) S := fun t => by
    have hl' : S[m]? = some (.lst (ofT ts)) := hm
    simp [b1, isTy, hl']
  have hlen : (ofT ts).length = ts.length := by simp [ofT]
  obtain ⟨ε', S', e, hS, x, hε⟩ := loopX_inv (turn ⟨false, callF false (L - 1), callF false (L - 2)⟩ (.one 2) (.cons (.iff (.not (.call .l_alike (.cons (.ix (.v 0) (.v 2)) (.cons (.ix (.v 1) (.v 2)) .nil)))) (.cons (.ret (.bl false)) .nil) .nil) .nil))
    (fun _ ε S' => S' = S ∧ ∃ x, ε = ⟨[some (.ref l), some (.ref m), x], none⟩) ((List.range ts.length).map fun i : Nat => .int i) 0
    (fun i d ε S' hd ⟨h, x, hε⟩ => by
      subst h hε
      have : ∃ j : Nat, d = .int j ∧ j < ts.length := by
        simp only [List.getElem?_map, Option.map_eq_some_iff] at hd
        obtain ⟨j, hj, rfl⟩ := hd
        exact ⟨j, rfl, by have := List.mem_of_getElem? hj; simpa using this⟩
      obtain ⟨j, rfl, hj⟩ := this
      have g : (ofT ts)[j]? = some (.str ts[j]) := by simp [ofT, hj]
      refine ⟨⟨[some (.ref l), some (.ref m), some (.int j)], none⟩, S', ?_, rfl, _, rfl⟩
      simp [seq_at, hl, hm, atI_nat, g, alike_str (L := L - 1) (by omega)]) ⟨[some (.ref l), some (.ref m), none], none⟩ S ⟨rfl, none, rfl⟩
  subst hS hε
  have c1 : ∃ n : Int, b1 .len (.ref l) S' = .ok (.int n) S' ∧ b1 .len (.ref m) S' = .ok (.int n) S' ∧ kR1 (.int n) S' = .ok (.items ((List.range ts.length).map fun i : Nat => .int i)) S' := by
    refine ⟨ts.length, ?_, ?_, ?_⟩
    · rw [b1_len, seq_lst hl]
      show Res.ok (D.int ((ofT ts).length : Nat)) S' = _
      rw [hlen]
    · rw [b1_len, seq_lst hm]
      show Res.ok (D.int ((ofT ts).length : Nat)) S' = _
      rw [hlen]
    · exact kR1_nat S' ts.length (by omega)
  obtain ⟨n, c1, c2, c3⟩ := c1
  simp [-b1_len, b_l_alike, i1, i2, c1, c2, c3, loopI, e]
end Mi
end

section
set_option linter.all false
set_option maxRecDepth 100000
set_option Elab.async false
/-! the plain law: numbers read -/
namespace Mi
open PySem
theorem digits_small {n : Nat} (h : n < 10) : digits n = [48 + n] := TL.numL_lt h
theorem digits_step {n : Nat} (h : 10 ≤ n) : digits n = digits (n / 10) ++ [48 + n % 10] := TL.numL_step h
theorem digits_ne (n : Nat) : digits n ≠ [] := by
  by_cases h : n < 10
  · rw [digits_small h]; simp
  · rw [digits_step (by omega)]; simp
theorem digits_all (n : Nat) : ∀ c ∈ digits n, 48 ≤ c ∧ c ≤ 57 := by
  induction n using Nat.strongRecOn with
  | ind n ih =>
    intro c hc
    by_cases h : n < 10
    · rw [digits_small h] at hc
      simp at hc
      omega
    · rw [digits_step (by omega)] at hc
      rcases List.mem_append.mp hc with hc | hc
      · exact ih (n / 10) (by omega) c hc
      · simp at hc
        omega
theorem digits_head (n : Nat) (h : 0 < n) : ∃ c r, digits n = c :: r ∧ c ≠ 48 := by
  induction n using Nat.strongRecOn with
  | ind n ih =>
    by_cases h10 : n < 10
    · exact ⟨48 + n, [], digits_small h10, by omega⟩
    · obtain ⟨c, r, e, hc⟩ := ih (n / 10) (by omega) (by omega)
      exact ⟨c, r ++ [48 + n % 10], by rw [digits_step (by omega), e]; rfl, hc⟩
theorem digits_val (n : Nat) : valDig (digits n) = n := by
  induction n using Nat.strongRecOn with
  | ind n ih =>
    by_cases h : n < 10
    · rw [digits_small h]
      simp [valDig]
    · have := ih (n / 10) (by omega)
      rw [digits_step (by omega)]
      unfold valDig at this ⊢
      rw [List.foldl_append, this]
      simp
      omega
theorem digits_allDig (n : Nat) : allDig (digits n) = true := by
  unfold allDig
  have h := digits_ne n
  have g := digits_all n
  simp only [Bool.and_eq_true]
  refine ⟨by cases e : digits n <;> simp_all, List.all_eq_true.mpr fun c hc => ?_⟩
  have := g c hc
  simp [this]
theorem intT_strI (i : Int) : intT (strI i) = some i := by
  unfold strI
  split
  · rename_i h
    show (if allDig (digits i.natAbs) then some (-(valDig (digits i.natAbs) : Int)) else none) = some i
    rw [if_pos (digits_allDig _), digits_val]
    congr 1
    omega
  · rename_i h
    obtain ⟨c, r, e⟩ : ∃ c r, digits i.natAbs = c :: r := by
      cases e : digits i.natAbs with
      | nil => exact absurd e (digits_ne _)
      | cons c r => exact ⟨c, r, rfl⟩
    have hc : c ≠ 45 := by
      have := digits_all i.natAbs c (by rw [e]; simp)
      omega
    have a1 := digits_allDig i.natAbs
    have a2 := digits_val i.natAbs
    rw [e] at a1 a2 ⊢
    unfold intT
    split
    · rename_i r' he
      injection he with he _
      exact absurd he hc
    · rw [if_pos a1, a2]
      congr 1
      omega
end Mi
end

section
set_option linter.all false
set_option maxRecDepth 100000
set_option Elab.async false
/-! the plain law: number_of -/
namespace Mi
open PySem
theorem sl_hd (S : Sto) (c : Nat) (r : Tx) (h : (c :: r).length ≤ lim) : slice (.str (c :: r)) none (some 1) S = .ok (.str [c]) S := by
  have h1 : HT.sIx (c :: r).length 0 none = 0 := rfl
  have h2 : HT.sIx (c :: r).length (c :: r).length (some 1) = 1 := by simp [HT.sIx]
  simp only [slice, cut, h1, h2, if_pos h]
  simp
theorem sl_tl (S : Sto) (c : Nat) (r : Tx) (h : (c :: r).length ≤ lim) : slice (.str (c :: r)) (some 1) none S = .ok (.str r) S := by
  have h1 : HT.sIx (c :: r).length 0 (some 1) = 1 := by simp [HT.sIx]
  have h2 : HT.sIx (c :: r).length (c :: r).length none = (c :: r).length := rfl
  simp only [slice, cut, h1, h2, if_pos h]
  simp
theorem fig_loop (C : Cf) (w fg : D) (S : Sto) (t : Tx) (h : ∀ c ∈ t, 48 ≤ c ∧ c ≤ 57) (x : Option D) :
  ∃ y, loopX (turn C (.one 2) (.cons (.iff (.cmp .notin (.v 2) (.g .figures)) (.cons (.ret .non) .nil) .nil) .nil)) (t.map fun c => .str [c]) ⟨[some w, some fg, x], none⟩ S = .nx ⟨[some w, some fg, y], none⟩ S := by
  obtain ⟨ε', S', e, hS, y, hε⟩ := loopX_inv (turn C (.one 2) (.cons (.iff (.cmp .notin (.v 2) (.g .figures)) (.cons (.ret .non) .nil) .nil) .nil))
    (fun _ ε S' => S' = S ∧ ∃ x, ε = ⟨[some w, some fg, x], none⟩) (t.map fun c => .str [c]) 0
    (fun i d ε S' hd ⟨h1, x, hε⟩ => by
      subst h1 hε
      have : ∃ c, d = .str [c] ∧ c ∈ t := by
        simp only [List.getElem?_map, Option.map_eq_some_iff] at hd
        obtain ⟨c, hc, rfl⟩ := hd
        exact ⟨c, rfl, List.mem_of_getElem? hc⟩
      obtain ⟨c, rfl, hc⟩ := this
      have hc := h c hc
      have : c ∈ ([48, 49, 50, 51, 52, 53, 54, 55, 56, 57] : List Nat) := by
        simp only [List.mem_cons, List.not_mem_nil, or_false]
        omega
      refine ⟨⟨[some w, some fg, some (.str [c])], none⟩, S', ?_, rfl, _, rfl⟩
      simp [-List.mem_cons, gval, this]) ⟨[some w, some fg, x], none⟩ S ⟨rfl, x, rfl⟩
  subst hS hε
  exact ⟨y, e⟩
theorem number_of_ok {L : Nat} (hL : 2 ≤ L) (S : Sto) (i : Int) (h1 : -999999 ≤ i) (h2 : i ≤ 999999) : callF false L .number_of [.str (strI i)] S = .ok (.int i) S := by
  rw [callF_eqL (by omega) .number_of _ S _ _ _ rfl rfl]
  have hi := intT_strI i
  have hl := strI_len h1 h2
  have hd := digits_len 5 i.natAbs (by omega)
  obtain ⟨c, r, e⟩ : ∃ c r, digits i.natAbs = c :: r := by
    cases e : digits i.natAbs with
    | nil => exact absurd e (digits_ne _)
    | cons c r => exact ⟨c, r, rfl⟩
  have ha := digits_all i.natAbs
  rw [e] at hd ha
  have hc := ha c (by simp)
  by_cases hn : i < 0
  · have es : strI i = 45 :: c :: r := by unfold strI; rw [if_pos hn, e]
    obtain ⟨c', r', e', hc'⟩ := digits_head i.natAbs (by omega)
    rw [e] at e'
    injection e' with e1 e2
    subst e1 e2
    rw [es] at hi hl ⊢
    obtain ⟨y, ey⟩ := fig_loop ⟨false, callF false (L - 1), callF false (L - 2)⟩ (.str (45 :: c :: r)) (.str (c :: r)) S (c :: r) ha none
    have s1 := sl_hd S 45 (c :: r) (by simp at hl ⊢; omega)
    have s2 := sl_tl S 45 (c :: r) (by simp at hl ⊢; omega)
    have k1 : ((c :: r).length : Int) ≤ 6 := by omega
    have k2 : ([c] == ([48] : Tx)) = false := by simpa using hc'
    simp at hd hl k1
    have k3 : (1 : Int) ≤ r.length + 1 := by omega
    have k4 : r.length + 1 ≤ 16777216 := by omega
    have k5 : r.length ≤ 16777215 := by omega
    simp only [List.map_cons] at ey
    have k6 : r.length ≤ 638 := by omega
    simp [b_number_of, s1, s2, gval, k1, k2, k3, k4, k5, k6, loopI, ey, b1, hi]
  · have es : strI i = c :: r := by unfold strI; rw [if_neg hn, e]
    by_cases h0 : i = 0
    · subst h0
      have : digits 0 = [48] := rfl
      have e : ([48] : Tx) = c :: r := this.symm.trans e
      injection e with e1 e2
      subst e1 e2
      rw [es] at hi hl ⊢
      obtain ⟨y, ey⟩ := fig_loop ⟨false, callF false (L - 1), callF false (L - 2)⟩ (.str [48]) (.str [48]) S [48] ha none
      have s1 := sl_hd S 48 [] (by simp)
      simp only [List.map_cons, List.map_nil] at ey
      simp [b_number_of, s1, gval, loopI, ey, b1, hi]
    · obtain ⟨c', r', e', hc'⟩ := digits_head i.natAbs (by omega)
      rw [e] at e'
      injection e' with e1 e2
      subst e1 e2
      rw [es] at hi hl ⊢
      obtain ⟨y, ey⟩ := fig_loop ⟨false, callF false (L - 1), callF false (L - 2)⟩ (.str (c :: r)) (.str (c :: r)) S (c :: r) ha none
      have s1 := sl_hd S c r (by simp at hl ⊢; omega)
      have k0 : ([c] == ([45] : Tx)) = false := by simp; omega
      have k1 : ((c :: r).length : Int) ≤ 6 := by omega
      have k2 : ([c] == ([48] : Tx)) = false := by simpa using hc'
      simp at hd hl k1
      have k3 : (1 : Int) ≤ r.length + 1 := by omega
      have k4 : r.length + 1 ≤ 16777216 := by omega
      have k5 : r.length ≤ 16777215 := by omega
      have k6 : r.length ≤ 639 := by omega
      simp only [List.map_cons] at ey
      simp [b_number_of, s1, gval, k0, k1, k2, k3, k4, k5, k6, loopI, ey, b1, hi]
/-- a cell's text is no number -/
theorem number_of_cell {L : Nat} (hL : 2 ≤ L) (S : Sto) (c r : Nat) (hc : c < 6) (hr : r < 9) : callF false L .number_of [.str (cellT c r)] S = .ok .non S := by
  rw [callF_eqL (by omega) .number_of _ S _ _ _ rfl rfl]
  have s1 := sl_hd S (97 + c) [49 + r] (by simp)
  have k0 : ([97 + c] == ([45] : Tx)) = false := by simp; omega
  have k2 : ([97 + c] == ([48] : Tx)) = false := by simp; omega
  have k3 : (97 + c) ∉ ([48, 49, 50, 51, 52, 53, 54, 55, 56, 57] : List Nat) := by
    simp only [List.mem_cons, List.not_mem_nil, or_false]
    omega
  simp [-List.mem_cons, b_number_of, cellT, s1, gval, k0, k2, loopI, loopX, k3]
end Mi
end

section
set_option linter.all false
set_option maxRecDepth 100000
set_option Elab.async false
/-! the plain law: the reader -/
namespace Mi
open PySem
def rdO (w : Nat) (n : Nat) : Ob := .ins .reader [(.words, .ref w), (.at_, .int n)]
structure Rd (S : Sto) (l w : Nat) (ws : List Tx) (n : Nat) : Prop where
  al : S.at l = some (rdO w n)
  aw : S.at w = some (.lst (ofT ws))
  ne : l ≠ w
theorem Rd.set {S : Sto} {l w : Nat} {ws : List Tx} {n : Nat} (R : Rd S l w ws n) (m : Nat) : Rd (S.set l (rdO w m)) l w ws m :=
  ⟨at_self (lt_of_at R.al), by rw [at_ne R.ne]; exact R.aw, R.ne⟩
theorem Rd.ext {S S' : Sto} {l w : Nat} {ws : List Tx} {n : Nat} (R : Rd S l w ws n) (x : Ext S S') : Rd S' l w ws n :=
  ⟨(x.at_ l (lt_of_at R.al)).trans R.al, (x.at_ w (lt_of_at R.aw)).trans R.aw, R.ne⟩
@[simp] theorem getfd_eq (S : Sto) (l : Nat) (c : Cl) (f : Fd) : getfd (.ref l) c f S = match S.ins l with | some (c', fs) => if c' = c then (match fget fs f with | some d => .ok d S | none => .bad) else .bad | none => .bad := rfl
@[simp] theorem setfd_eq (S : Sto) (l : Nat) (c : Cl) (f : Fd) (v : D) : setfd (.ref l) c f v S = match S.ins l with | some (c', fs) => if c' = c ∧ fs.length < 1000 then some (S.set l (.ins c (fput f v fs))) else none | none => none := rfl
theorem rd_word_ok {L : Nat} (hL : 2 ≤ L) (S : Sto) (l w : Nat) (ws : List Tx) (n : Nat) (R : Rd S l w ws n) (t : Tx) (ht : ws[n]? = some t) : callF false L .rd_word [.ref l] S = .ok (.str t) (S.set l (rdO w (n + 1))) := by
  rw [callF_eqL (by omega) .rd_word _ S _ _ _ rfl rfl]
  have hl := R.al
  have hw := R.aw
  have ll := lt_of_at R.al
  have hne := R.ne
  have hn : n < ws.length := by
    by_cases h : n < ws.length
    · exact h
    · rw [List.getElem?_eq_none (by omega)] at ht; cases ht
  simp only [rdO] at hl
  have hlen : (ofT ws).length = ws.length := by simp [ofT]
  have k : ((n : Int) == (ws.length : Int)) = false := by simp; omega
  have g : L2.atI (ofT ws) ((n : Int) + 1 - 1) = some (.str t) := by
    rw [show (n : Int) + 1 - 1 = (n : Nat) by omega, atI_nat]
    simp [ofT, ht]
  have g2 : L2.atI (ofT ws) (n : Int) = some (.str t) := by
    rw [atI_nat]
    simp [ofT, ht]
  simp [b_rd_word, ins_at', hl, seq_at, hw, hlen, fget, fput, k, at_self, ll, at_ne, hne, rdO, g, g2]
end Mi
end

section
set_option linter.all false
set_option maxRecDepth 100000
set_option Elab.async false
/-! the plain law: the reader's cells, parts -/
namespace Mi
open PySem
theorem ex_tryX_nx {C : Cf} {b h : Sms} {c : Ec} {ε ε' : Env} {S S' : Sto} (e : exs C b ε S = .nx ε' S') : ex C (.tryX b c h) ε S = .nx ε' S' := by
  simp only [ex, e]
theorem ex_try_nx {C : Cf} {b h : Sms} {c : Ec} {as : Option Nat} {ε ε' : Env} {S S' : Sto} (e : exs C b ε S = .nx ε' S') : ex C (.try_ b c as h) ε S = .nx ε' S' := by
  simp only [ex, e]
theorem Rd.isI {S : Sto} {l w : Nat} {ws : List Tx} {n : Nat} (R : Rd S l w ws n) : isIns (.ref l) .reader S = true := by
  have hl := R.al
  simp only [rdO] at hl
  simp [isIns, ins_at', hl]
theorem rd_cell_ok {L : Nat} (hL : 3 ≤ L) (S : Sto) (l w : Nat) (ws : List Tx) (n : Nat) (R : Rd S l w ws n) (c r : Nat) (hc : c < 6) (hr : r < 9) (ht : ws[n]? = some (cellT c r)) : callF false L .rd_cell [.ref l] S = .ok (.str (cellT c r)) (S.set l (rdO w (n + 1))) := by
  rw [callF_eqL (by omega) .rd_cell _ S _ _ _ rfl rfl]
  have e1 := rd_word_ok (L := L - 1) (by omega) S l w ws n R _ ht
  have e2 := need_cell_ok (L := L - 1) (by omega) (S.set l (rdO w (n + 1))) c r hc hr
  have i1 := R.isI
  have e3 : ex ⟨false, callF false (L - 1), callF false (L - 2)⟩ (.tryX (.cons (.ex (.call .need_cell (.cons (.v 1) .nil))) .nil) .cell (.cons (.rse false .form) .nil)) ⟨[some (.ref l), some (.str (cellT c r))], none⟩ (S.set l (rdO w (n + 1))) = .nx ⟨[some (.ref l), some (.str (cellT c r))], none⟩ (S.set l (rdO w (n + 1))) :=
    ex_tryX_nx (by simp [e2])
  simp [b_rd_cell, clsOf, i1, e1, e3]
def Pt.w : Pt → List Tx
  | .num i => [strI i]
  | .cell c r => [cellT c r]
  | .sum c r c' r' => [sSum, cellT c r, cellT c' r']
  | .op o a b => opT o :: (a.w ++ b.w)
  | .pick a b c d => sPick :: (a.w ++ (b.w ++ (c.w ++ d.w)))
end Mi
end

section
set_option linter.all false
set_option maxRecDepth 100000
set_option Elab.async false
/-! the plain law: the reader's parts -/
namespace Mi
open PySem
theorem drop_step {ws r : List Tx} {x : Tx} {n : Nat} (h : ws.drop n = x :: r) : ws[n]? = some x ∧ ws.drop (n + 1) = r := by
  constructor
  · have := congrArg (fun z : List Tx => z[0]?) h
    simpa using this
  · have := congrArg (fun z : List Tx => z.drop 1) h
    simpa [List.drop_drop, Nat.add_comm] using this
theorem drop_app {ws a r : List Tx} {n : Nat} (h : ws.drop n = a ++ r) : ws.drop (n + a.length) = r := by
  have := congrArg (fun z : List Tx => z.drop a.length) h
  simpa [List.drop_drop, Nat.add_comm] using this
theorem partsOf_low {c : Nat} {r : Tx} (h : c ≤ 57) : partsOf (c :: r) = none := by
  unfold partsOf
  have h1 : c ≠ 97 := by omega
  have h2 : c ≠ 115 := by omega
  have h3 : c ≠ 109 := by omega
  have h4 : c ≠ 112 := by omega
  simp [h1, h2, h3, h4]
theorem strI_head (i : Int) : ∃ c r, strI i = c :: r ∧ c ≤ 57 := by
  unfold strI
  split
  · exact ⟨45, _, rfl, by decide⟩
  · cases e : digits i.natAbs with
    | nil => exact absurd e (digits_ne _)
    | cons c r =>
      have := digits_all i.natAbs c (by rw [e]; simp)
      exact ⟨c, r, rfl, this.2⟩
theorem rd_part_ok (l w : Nat) (ws : List Tx) : ∀ (d : Nat) (p : Pt), p.ok d → ∀ {L : Nat} (hL : d + 4 ≤ L) (S : Sto) (n : Nat) (k : Int) (hk : k + d ≤ 5) (rest : List Tx) (R : Rd S l w ws n) (hw : ws.drop n = p.w ++ rest),
    ∃ S', callF false L .rd_part [.ref l, .int k] S = .ok p.d S' ∧ Rd S' l w ws (n + p.w.length) ∧ Fr l l S S'
  | d, .num i, h, L, hL, S, n, k, hk, rest, R, hw => by
    have h : -999999 ≤ i ∧ i ≤ 999999 := by cases d <;> exact h
    rw [callF_eqL (by omega) .rd_part _ S _ _ _ rfl rfl]
    obtain ⟨g, hw⟩ := drop_step (show ws.drop n = strI i :: rest from hw)
    have e1 := rd_word_ok (L := L - 1) (by omega) S l w ws n R _ g
    have e2 := number_of_ok (L := L - 1) (by omega) (S.set l (rdO w (n + 1))) i h.1 h.2
    have i1 := R.isI
    have k1 : ¬ 5 < k := by omega
    obtain ⟨c, r, es, hc⟩ := strI_head i
    have p1 : partsOf (strI i) = none := by rw [es]; exact partsOf_low hc
    have p2 : (strI i == ([115, 117, 109] : Tx)) = false := by
      rw [es]
      simp
      omega
    refine ⟨S.set l (rdO w (n + 1)), ?_, R.set _, Fr.setb⟩
    simp [b_rd_part, gval, clsOf, i1, k1, e1, e2, p1, p2, Pt.d, sNum]
  | d, .cell c r, h, L, hL, S, n, k, hk, rest, R, hw => by
    have h : c < 6 ∧ r < 9 := by cases d <;> exact h
    rw [callF_eqL (by omega) .rd_part _ S _ _ _ rfl rfl]
    obtain ⟨g, hw⟩ := drop_step (show ws.drop n = cellT c r :: rest from hw)
    have e1 := rd_word_ok (L := L - 1) (by omega) S l w ws n R _ g
    have e2 := number_of_cell (L := L - 1) (by omega) (S.set l (rdO w (n + 1))) c r h.1 h.2
    have R1 := R.set (n + 1)
    have R2 := R1.set n
    have e3 := rd_cell_ok (L := L - 1) (by omega) _ l w ws n R2 c r h.1 h.2 g
    have i1 := R.isI
    have i2 := R2.isI
    have k1 : ¬ 5 < k := by omega
    have p1 : partsOf (cellT c r) = none := by simp [cellT, partsOf]
    have p2 : (cellT c r == ([115, 117, 109] : Tx)) = false := by simp [cellT]
    have al : Sto.at (S.set l (rdO w (n + 1))) l = some (.ins .reader [(.words, .ref w), (.at_, .int ((n + 1 : Nat) : Int))]) := R1.al
    have q : (((n + 1 : Nat) : Int) - 1) = (n : Int) := by omega
    refine ⟨((S.set l (rdO w (n + 1))).set l (rdO w n)).set l (rdO w (n + 1)), ?_, R2.set _, (Fr.setb.trans Fr.setb).trans Fr.setb⟩
    simp only [rdO] at e1 e2 e3 i2 al ⊢
    simp at e1 e2 e3 i2 al ⊢
    simp [b_rd_part, gval, clsOf, i1, i2, k1, e1, e2, e3, p1, p2, Pt.d, sCell, ins_at', al, fget, fput]
  | d, .sum c r c' r', h, L, hL, S, n, k, hk, rest, R, hw => by
    have h : (c < 6 ∧ r < 9) ∧ c' < 6 ∧ r' < 9 := by cases d <;> exact h
    rw [callF_eqL (by omega) .rd_part _ S _ _ _ rfl rfl]
    obtain ⟨g, hw⟩ := drop_step (show ws.drop n = sSum :: cellT c r :: cellT c' r' :: rest from hw)
    obtain ⟨g2, hw⟩ := drop_step hw
    obtain ⟨g3, hw⟩ := drop_step hw
    have e1 := rd_word_ok (L := L - 1) (by omega) S l w ws n R _ g
    have R1 := R.set (n + 1)
    have e2 := rd_cell_ok (L := L - 1) (by omega) _ l w ws (n + 1) R1 c r h.1.1 h.1.2 g2
    have R2 := R1.set (n + 2)
    have e3 := rd_cell_ok (L := L - 1) (by omega) _ l w ws (n + 2) R2 c' r' h.2.1 h.2.2 g3
    have i1 := R.isI
    have i2 := R1.isI
    have i3 := R2.isI
    have k1 : ¬ 5 < k := by omega
    refine ⟨_, ?_, R2.set (n + 3), (Fr.setb.trans Fr.setb).trans Fr.setb⟩
    simp only [sSum] at e1
    simp at e1 e2 e3 i2 i3
    simp [b_rd_part, gval, clsOf, i1, i2, i3, k1, e1, e2, e3, Pt.d, sSum, partsOf]
  | d + 1, .op o a b, h, L, hL, S, n, k, hk, rest, R, hw => by
    rw [callF_eqL (by omega) .rd_part _ S _ _ _ rfl rfl]
    obtain ⟨g, hw⟩ := drop_step (show ws.drop n = opT o :: ((a.w ++ b.w) ++ rest) from hw)
    rw [List.append_assoc] at hw
    have e1 := rd_word_ok (L := L - 1) (by omega) S l w ws n R _ g
    have R1 := R.set (n + 1)
    obtain ⟨S2, e2, R2, F2⟩ := rd_part_ok l w ws d a h.2.1 (L := L - 1) (by omega) _ (n + 1) (k + 1) (by omega) _ R1 hw
    obtain ⟨S3, e3, R3, F3⟩ := rd_part_ok l w ws d b h.2.2 (L := L - 1) (by omega) S2 (n + 1 + a.w.length) (k + 1) (by omega) _ R2 (drop_app hw)
    have i1 := R.isI
    have i2 := R1.isI
    have i3 := R2.isI
    have k1 : ¬ 5 < k := by omega
    have p1 : partsOf (opT o) = some 2 := by unfold opT; split <;> rfl
    have hn : n + (Pt.op o a b).w.length = n + 1 + a.w.length + b.w.length := by simp [Pt.w]; omega
    refine ⟨S3 ++ [.lst [a.d, b.d]], ?_, by rw [hn]; exact R3.ext .app, ((Fr.setb.trans F2).trans F3).trans .app⟩
    simp [b_rd_part, gval, clsOf, i1, i2, i3, k1, e1, e2, e3, p1, Pt.d, compI, compX, accd, b1, seq_at, binop]
  | d + 1, .pick a b c e, h, L, hL, S, n, k, hk, rest, R, hw => by
    rw [callF_eqL (by omega) .rd_part _ S _ _ _ rfl rfl]
    obtain ⟨g, hw⟩ := drop_step (show ws.drop n = sPick :: ((a.w ++ (b.w ++ (c.w ++ e.w))) ++ rest) from hw)
    simp only [List.append_assoc] at hw
    have e1 := rd_word_ok (L := L - 1) (by omega) S l w ws n R _ g
    have R1 := R.set (n + 1)
    obtain ⟨S2, e2, R2, F2⟩ := rd_part_ok l w ws d a h.1.1 (L := L - 1) (by omega) _ (n + 1) (k + 1) (by omega) _ R1 hw
    have hw2 := drop_app hw
    obtain ⟨S3, e3, R3, F3⟩ := rd_part_ok l w ws d b h.1.2 (L := L - 1) (by omega) S2 (n + 1 + a.w.length) (k + 1) (by omega) _ R2 hw2
    have hw3 := drop_app hw2
    obtain ⟨S4, e4, R4, F4⟩ := rd_part_ok l w ws d c h.2.1 (L := L - 1) (by omega) S3 (n + 1 + a.w.length + b.w.length) (k + 1) (by omega) _ R3 hw3
    have hw4 := drop_app hw3
    obtain ⟨S5, e5, R5, F5⟩ := rd_part_ok l w ws d e h.2.2 (L := L - 1) (by omega) S4 (n + 1 + a.w.length + b.w.length + c.w.length) (k + 1) (by omega) _ R4 hw4
    have i1 := R.isI
    have i2 := R1.isI
    have i3 := R2.isI
    have i4 := R3.isI
    have i5 := R4.isI
    have k1 : ¬ 5 < k := by omega
    have p1 : partsOf sPick = some 4 := rfl
    have hn : n + (Pt.pick a b c e).w.length = n + 1 + a.w.length + b.w.length + c.w.length + e.w.length := by simp [Pt.w]; omega
    refine ⟨S5 ++ [.lst [a.d, b.d, c.d, e.d]], ?_, by rw [hn]; exact R5.ext .app, ((((Fr.setb.trans F2).trans F3).trans F4).trans F5).trans .app⟩
    simp [b_rd_part, gval, clsOf, i1, i2, i3, i4, i5, k1, e1, e2, e3, e4, e5, p1, Pt.d, compI, compX, accd, b1, seq_at, binop]
end Mi
end

section
set_option linter.all false
set_option maxRecDepth 100000
set_option Elab.async false
/-! the plain law: texts split into words -/
namespace Mi
open PySem
theorem spl_word : ∀ (w acc rest : Tx), (∀ c ∈ w, c ≠ 32) → TL.spl [32] 0 acc (w ++ 32 :: rest) = (acc ++ w) :: TL.spl [32] 0 [] rest
  | [], acc, rest, _ => by
    rw [List.nil_append, TL.spl_hit (by simp [TL.pre])]
    simp
  | c :: r, acc, rest, h => by
    rw [List.cons_append, TL.spl_miss (by
      have := h c (by simp)
      simp [TL.pre]
      omega), spl_word r (acc ++ [c]) rest fun x hx => h x (by simp [hx])]
    simp
theorem spl_last : ∀ (w acc : Tx), (∀ c ∈ w, c ≠ 32) → TL.spl [32] 0 acc w = [acc ++ w]
  | [], acc, _ => by rw [TL.spl_nil]; simp
  | c :: r, acc, h => by
    rw [TL.spl_miss (by
      have := h c (by simp)
      simp [TL.pre]
      omega), spl_last r (acc ++ [c]) fun x hx => h x (by simp [hx])]
    simp
theorem cellT_no {c r : Nat} : ∀ x ∈ cellT c r, x ≠ 32 := by
  intro x hx
  simp [cellT] at hx
  omega
theorem strI_no (i : Int) : ∀ x ∈ strI i, x ≠ 32 := by
  intro x hx
  have := digits_all i.natAbs
  unfold strI at hx
  split at hx
  · rcases List.mem_cons.mp hx with h | h
    · omega
    · have := this x h
      omega
  · have := this x hx
    omega
theorem opT_no (o : Nat) : ∀ x ∈ opT o, x ≠ 32 := by
  unfold opT
  split <;> decide
theorem spl_pt : ∀ (p : Pt) (rest : Tx), TL.spl [32] 0 [] (p.t ++ 32 :: rest) = p.w ++ TL.spl [32] 0 [] rest
  | .num i, rest => by
    simp only [Pt.t, Pt.w]
    rw [spl_word _ _ _ (strI_no i)]
    simp
  | .cell c r, rest => by
    simp only [Pt.t, Pt.w]
    rw [spl_word _ _ _ cellT_no]
    simp
  | .sum c r c' r', rest => by
    simp only [Pt.t, Pt.w, List.append_assoc, List.cons_append, List.nil_append]
    rw [spl_word _ _ _ (by decide), spl_word _ _ _ cellT_no, spl_word _ _ _ cellT_no]
    simp
  | .op o a b, rest => by
    simp only [Pt.t, Pt.w, List.append_assoc, List.cons_append, List.nil_append]
    rw [spl_word _ _ _ (opT_no o), spl_pt a, spl_pt b]
    simp
  | .pick a b c e, rest => by
    simp only [Pt.t, Pt.w, List.append_assoc, List.cons_append, List.nil_append]
    rw [spl_word _ _ _ (by decide), spl_pt a, spl_pt b, spl_pt c, spl_pt e]
    simp
theorem spl_ptL : ∀ (p : Pt), TL.spl [32] 0 [] p.t = p.w
  | .num i => by
    simp only [Pt.t, Pt.w]
    rw [spl_last _ _ (strI_no i)]
    simp
  | .cell c r => by
    simp only [Pt.t, Pt.w]
    rw [spl_last _ _ cellT_no]
    simp
  | .sum c r c' r' => by
    simp only [Pt.t, Pt.w, List.append_assoc, List.cons_append, List.nil_append]
    rw [spl_word _ _ _ (by decide), spl_word _ _ _ cellT_no, spl_last _ _ cellT_no]
    simp
  | .op o a b => by
    simp only [Pt.t, Pt.w, List.append_assoc, List.cons_append, List.nil_append]
    rw [spl_word _ _ _ (opT_no o), spl_pt a, spl_ptL b]
    simp
  | .pick a b c e => by
    simp only [Pt.t, Pt.w, List.append_assoc, List.cons_append, List.nil_append]
    rw [spl_word _ _ _ (by decide), spl_pt a, spl_pt b, spl_pt c, spl_ptL e]
    simp
theorem spl_ct (p : Pt) : TL.spl [32] 0 [] ([61, 32] ++ p.t) = [61] :: p.w := by
  have := spl_word [61] [] p.t (by decide)
  rw [spl_ptL p] at this
  exact this
end Mi
end

section
set_option linter.all false
set_option maxRecDepth 100000
set_option Elab.async false
/-! the plain law: read -/
namespace Mi
open PySem
theorem rd_init_ok {L : Nat} (hL : 2 ≤ L) (S : Sto) (l w : Nat) (hl : S.at l = some (.ins .reader [])) : callF false L .rd_init [.ref l, .ref w] S = .ok .non (S.set l (rdO w 0)) := by
  rw [callF_eqL (by omega) .rd_init _ S _ _ _ rfl rfl]
  have ll := lt_of_at hl
  simp [b_rd_init, ins_at', hl, at_self, ll, fput, rdO]
theorem read_num {L : Nat} (hL : 3 ≤ L) (S : Sto) (i : Int) (h1 : -999999 ≤ i) (h2 : i ≤ 999999) : callF false L .read [.str (strI i)] S = .ok (Pt.d (.num i)) S := by
  rw [callF_eqL (by omega) .read _ S _ _ _ rfl rfl]
  have e1 := number_of_ok (L := L - 1) (by omega) S i h1 h2
  have hl := strI_len h1 h2
  obtain ⟨c, r, es, hc⟩ := strI_head i
  rw [es] at e1 hl ⊢
  have k1 : ([c] == ([61] : Tx)) = false := by simp; omega
  simp at hl
  have k2 : r.length ≤ 16777215 := by omega
  simp [b_read, k1, k2, e1, Pt.d, sNum]
theorem read_none {L : Nat} (hL : 3 ≤ L) (S : Sto) : callF false L .read [.str []] S = .ok .non S := by
  rw [callF_eqL (by omega) .read _ S _ _ _ rfl rfl]
  simp [b_read]
end Mi
end

section
set_option linter.all false
set_option maxRecDepth 100000
set_option Elab.async false
/-! the plain law: read of formulas -/
namespace Mi
open PySem
theorem Pt.w_len (p : Pt) : 1 ≤ p.w.length := by cases p <;> simp [Pt.w]
def Pt.isNum : Pt → Bool
  | .num _ => true
  | _ => false
theorem read_form (d : Nat) (hd : d ≤ 4) (p : Pt) (hp : p.ok d) (hn : p.isNum = false) {L : Nat} (hL : d + 5 ≤ L) (S : Sto) : ∃ S', callF false L .read [.str ([61, 32] ++ p.t)] S = .ok p.d S' ∧ Ext S S' := by
  rw [callF_eqL (by omega) .read _ S _ _ _ rfl rfl]
  have l1 := Pt.t_len5 hd hp
  have sp := spl_ct p
  have A : ∀ S : Sto, m1 .split (.str ([61, 32] ++ p.t)) (.str [32]) S = .ok (.ref S.length) (S ++ [.lst (ofT ([61] :: p.w))]) := fun S => by
    have c : ([32] : Tx) ≠ [] ∧ ([32] : Tx).all (· < 256) = true ∧ ([61, 32] ++ p.t).length + 2 ≤ lim := ⟨by decide, by decide, by simp; omega⟩
    simp only [m1]
    rw [if_pos c, sp]
    rfl
  have B : ∀ (S : Sto) (l : Nat), S.at l = some (.lst (ofT ([61] :: p.w))) → slice (.ref l) (some 1) none S = .ok (.ref S.length) (S ++ [.lst (ofT p.w)]) := fun S l h => by
    have h1 : HT.sIx (ofT ([61] :: p.w)).length 0 (some 1) = 1 := by simp [HT.sIx, ofT]
    have h2 : HT.sIx (ofT ([61] :: p.w)).length (ofT ([61] :: p.w)).length none = (ofT ([61] :: p.w)).length := rfl
    simp only [slice, seq_lst h, cut, h1, h2]
    simp [ofT, new]
    rw [List.take_of_length_le (by simp)]
  obtain ⟨S1, hS1⟩ : ∃ S1 : Sto, S1 = S ++ [.lst (ofT ([61] :: p.w))] := ⟨_, rfl⟩
  have w1 : S1.at S.length = some (.lst (ofT ([61] :: p.w))) := by rw [hS1]; exact at_new
  have x1 : Ext S S1 := by rw [hS1]; exact .app
  obtain ⟨S2, hS2⟩ : ∃ S2 : Sto, S2 = S1 ++ [.lst (ofT p.w)] := ⟨_, rfl⟩
  have w2 : S2.at S1.length = some (.lst (ofT p.w)) := by rw [hS2]; exact at_new
  have x2 : Ext S1 S2 := by rw [hS2]; exact .app
  obtain ⟨S3, hS3⟩ : ∃ S3 : Sto, S3 = S2 ++ [.ins .reader []] := ⟨_, rfl⟩
  have w3 : S3.at S2.length = some (.ins .reader []) := by rw [hS3]; exact at_new
  have x3 : Ext S2 S3 := by rw [hS3]; exact .app
  have e4 := rd_init_ok (L := L - 2) (by omega) S3 S2.length S1.length w3
  have k2 := lt_of_at w2
  have k1 := lt_of_at w1
  have R4 : Rd (S3.set S2.length (rdO S1.length 0)) S2.length S1.length p.w 0 := ⟨at_self (lt_of_at w3), by rw [at_ne (by omega), x3.at_ _ k2]; exact w2, by omega⟩
  obtain ⟨S5, e5, R5, F5⟩ := rd_part_ok S2.length S1.length p.w d p hp (L := L - 1) (by omega) _ 0 1 (by omega) [] R4 (by simp)
  have x4 : Ext S (S3.set S2.length (rdO S1.length 0)) := ((x1.trans x2).trans x3).set (by have := x1.len; have := x2.len; omega)
  have x5 : Ext S S5 := ⟨Nat.le_trans x4.len F5.len, fun l hl => (F5.at_ l (Nat.lt_of_lt_of_le hl x4.len) (by have := x1.len; have := x2.len; omega) (by have := x1.len; have := x2.len; omega)).trans (x4.at_ l hl)⟩
  have w5 : S5.at S.length = some (.lst (ofT ([61] :: p.w))) := by
    rw [F5.at_ _ (by have := x2.len; have := x3.len; simp; omega) (by omega) (by omega), at_ne (by omega), x3.at_ _ (by omega), x2.at_ _ k1]
    exact w1
  have a5 := R5.al
  simp only [rdO] at a5
  have hlen : (ofT p.w).length = p.w.length := by simp [ofT]
  have w6 : S5.at S.length = some (.lst (.str [61] :: ofT p.w)) := w5
  have A1 := A S
  rw [← hS1] at A1
  have B1 := B S1 S.length w1
  rw [← hS2] at B1
  have i4 := R4.isI
  refine ⟨S5, ?_, x5⟩
  obtain ⟨x, r, hx, hxn⟩ : ∃ x r, p.d = .tup (.str x :: r) ∧ (x == ([110, 117, 109] : Tx)) = false := by
    cases p with
    | num i => cases hn
    | cell c r => exact ⟨_, _, rfl, rfl⟩
    | sum c r c' r' => exact ⟨_, _, rfl, rfl⟩
    | op o a b => exact ⟨_, _, rfl, opT_num o⟩
    | pick a b c e => exact ⟨_, _, rfl, rfl⟩
  rw [hx] at e5 ⊢
  have t0 : ([61, 32] ++ p.t).length ≤ 16777216 := by simp; omega
  have t1 : p.t.length ≤ 16777214 := by omega
  simp only [List.cons_append, List.nil_append] at A1 t0 ⊢
  simp at a5
  simp [b_read, t0, t1, A1, B1, recv1, isTxt, initOf, ← hS3, e4, clsOf, i4, e5, seq_at, w6, hlen, ins_at', a5, fget, hxn]
end Mi
end

section
set_option linter.all false
set_option maxRecDepth 100000
set_option Elab.async false
/-! the plain law: stretches -/
namespace Mi
open PySem
/-- a loop that appends one text at each turn -/
theorem loopX_app (B : Nat) (body : D → Env → Sto → SR) (w : Nat) (f : D → List D) (P : Env → Prop) : ∀ (ds : List D) (h : ∀ d ε S acc, d ∈ ds → P ε → S.at w = some (.lst acc) → acc.length + (f d).length ≤ B → ∃ ε', body d ε S = .nx ε' (S.set w (.lst (acc ++ f d))) ∧ P ε')
    (ε : Env) (S : Sto) (acc : List D), P ε → S.at w = some (.lst acc) → acc.length + (ds.flatMap f).length ≤ B → ∃ ε', loopX body ds ε S = .nx ε' (S.set w (.lst (acc ++ ds.flatMap f))) ∧ P ε'
  | [], h, ε, S, acc, hP, hS, hl => by
    refine ⟨ε, ?_, hP⟩
    rw [loopX]
    congr 1
    simp
    have lw := lt_of_at hS
    apply List.ext_getElem?
    intro i
    by_cases hi : w = i
    · subst hi
      rw [List.getElem?_set_self lw]
      exact hS
    · rw [List.getElem?_set_ne hi]
  | d :: r, h, ε, S, acc, hP, hS, hl => by
    simp only [List.flatMap_cons, List.length_append] at hl
    obtain ⟨ε1, e1, P1⟩ := h d ε S acc (by simp) hP hS (by omega)
    rw [loopX, e1, SR.then_nx]
    obtain ⟨ε2, e2, P2⟩ := loopX_app B body w f P r (fun d ε S acc hd => h d ε S acc (by simp [hd])) ε1 _ (acc ++ f d) P1 (at_self (lt_of_at hS)) (by rw [List.length_append]; omega)
    refine ⟨ε2, ?_, P2⟩
    rw [e2]
    simp [List.set_set]
end Mi
end

section
set_option linter.all false
set_option maxRecDepth 100000
set_option Elab.async false
/-! the plain law: stretches, the program's -/
namespace Mi
open PySem
def minN (a b : Nat) : Nat := if b < a then b else a
def maxN (a b : Nat) : Nat := if a < b then b else a
def rowT (c c' r : Nat) : List Tx := (List.range (maxN c c' + 1 - minN c c')).map fun j => cellT (minN c c' + j) r
def strT (c r c' r' : Nat) : List Tx := (List.range (maxN r r' + 1 - minN r r')).flatMap fun i => rowT c c' (minN r r' + i)
theorem rg2 (S : Sto) (a b : Nat) (ha : a < 1000) (hb : b < 1000) (i j : Int) (hi : i = a) (hj : j = b) : kR2 (.int i) (.int j) S = .ok (.items ((List.range (b - a)).map fun k : Nat => .int ((a + k : Nat) : Int))) S := by
  subst hi hj
  rw [kR2_int S _ _ (by omega) (by omega) (by omega) (by omega)]
  have : (((b : Int) - (a : Int))).toNat = b - a := by omega
  rw [this]
  simp
theorem b2_min (S : Sto) (a b : Nat) : b2 .min (.int a) (.int b) S = .ok (.int (minN a b : Nat)) S := by
  show Res.ok (D.int (if (b : Int) < a then (b : Int) else a)) S = _
  unfold minN
  by_cases h : b < a
  · rw [if_pos h, if_pos (by omega)]
  · rw [if_neg h, if_neg (by omega)]
theorem b2_max (S : Sto) (a b : Nat) : b2 .max (.int a) (.int b) S = .ok (.int (maxN a b : Nat)) S := by
  show Res.ok (D.int (if (b : Int) > a then (b : Int) else a)) S = _
  unfold maxN
  by_cases h : a < b
  · rw [if_pos h, if_pos (by omega)]
  · rw [if_neg h, if_neg (by omega)]
end Mi
end

section
set_option linter.all false
set_option maxRecDepth 100000
set_option Elab.async false
/-! the plain law: stretch -/
namespace Mi
open PySem
def fC (r : Nat) (d : D) : List D := match d with
  | .int j => [.str (cellT j.toNat r)]
  | _ => []
def bIn : Sms := .cons (.ex (.m1 .append (.v 4) (.call .cell_at (.cons (.v 6) (.cons (.v 5) .nil))))) .nil
theorem fC_all (c c' r : Nat) : ((List.range (maxN c c' + 1 - minN c c')).map fun k : Nat => D.int ((minN c c' + k : Nat) : Int)).flatMap (fC r) = ofT (rowT c c' r) := by
  unfold rowT ofT
  rw [List.flatMap_map, List.map_map]
  induction List.range (maxN c c' + 1 - minN c c') with
  | nil => rfl
  | cons x l ih =>
    rw [List.flatMap_cons, ih, List.map_cons]
    simp only [fC, Int.toNat_natCast]
    rfl
theorem inner_ok {L : Nat} (hL : 3 ≤ L) (d0 d1 d2 d3 x : D) (w c c' r : Nat) (hc : c < 6) (hc' : c' < 6) (hr : r < 9) (S : Sto) (acc : List D) (hS : S.at w = some (.lst acc)) (ha : acc.length ≤ 900) (y : Option D) :
  ∃ z, loopX (turn ⟨false, callF false (L - 1), callF false (L - 2)⟩ (.one 6) bIn) ((List.range (maxN c c' + 1 - minN c c')).map fun k : Nat => D.int ((minN c c' + k : Nat) : Int)) ⟨[some d0, some d1, some d2, some d3, some (.ref w), some (.int r), y], none⟩ S
    = .nx ⟨[some d0, some d1, some d2, some d3, some (.ref w), some (.int r), z], none⟩ (S.set w (.lst (acc ++ ofT (rowT c c' r)))) := by
  obtain ⟨ε', e, z, hε⟩ := loopX_app 1000 (turn ⟨false, callF false (L - 1), callF false (L - 2)⟩ (.one 6) bIn) w (fC r) (fun ε => ∃ z, ε = ⟨[some d0, some d1, some d2, some d3, some (.ref w), some (.int r), z], none⟩) ((List.range (maxN c c' + 1 - minN c c')).map fun k : Nat => D.int ((minN c c' + k : Nat) : Int))
    (fun d ε S acc hd ⟨z, hε⟩ hS hl => by
      subst hε
      obtain ⟨k, hk, rfl⟩ := List.mem_map.mp hd
      have hk : k < maxN c c' + 1 - minN c c' := by simpa using hk
      have hj : minN c c' + k < 6 := by unfold maxN minN at *; split at hk <;> split at hk <;> (split <;> omega)
      have e1 := cell_at_ok (L := L - 1) (by omega) S (minN c c' + k) r hj hr
      have hl' : acc.length < 16777216 := by simp only [fC, List.length_singleton] at hl; omega
      refine ⟨⟨[some d0, some d1, some d2, some d3, some (.ref w), some (.int r), some (.int ((minN c c' + k : Nat) : Int))], none⟩, ?_, _, rfl⟩
      simp only [fC, Int.toNat_natCast]
      simp only [bIn, turn_one, put_eq, List.set]
      simp [-Int.natCast_add, e1, seq_at, lst_at, hS, hl']) ⟨[some d0, some d1, some d2, some d3, some (.ref w), some (.int r), y], none⟩ S acc ⟨y, rfl⟩ hS (by
        rw [fC_all]
        unfold rowT ofT
        simp
        unfold maxN minN
        split <;> split <;> omega)
  subst hε
  rw [fC_all] at e
  exact ⟨z, e⟩
end Mi
end

section
set_option linter.all false
set_option maxRecDepth 100000
set_option Elab.async false
/-! the plain law: what a run comes to (wp) -/
namespace Mi
open PySem
def Res.wp {α : Type} (r : Res α) (Q : α → Sto → Prop) (X : Exn → Sto → Prop) : Prop := match r with
  | .ok a S => Q a S
  | .ex x S => X x S
  | .bad => False
def SR.wp (r : SR) (N : Env → Sto → Prop) (R : D → Sto → Prop) (X : Exn → Env → Sto → Prop) : Prop := match r with
  | .nx ε S => N ε S
  | .rt d S => R d S
  | .ex x ε S => X x ε S
  | .bad => False
@[simp] theorem wp_ok {α : Type} (a : α) (S : Sto) (Q : α → Sto → Prop) (X : Exn → Sto → Prop) : (Res.ok a S).wp Q X ↔ Q a S := Iff.rfl
@[simp] theorem wp_ex {α : Type} (x : Exn) (S : Sto) (Q : α → Sto → Prop) (X : Exn → Sto → Prop) : (Res.ex x S : Res α).wp Q X ↔ X x S := Iff.rfl
@[simp] theorem wp_nx (ε : Env) (S : Sto) (N : Env → Sto → Prop) (R : D → Sto → Prop) (X : Exn → Env → Sto → Prop) : (SR.nx ε S).wp N R X ↔ N ε S := Iff.rfl
@[simp] theorem wp_rt (d : D) (S : Sto) (N : Env → Sto → Prop) (R : D → Sto → Prop) (X : Exn → Env → Sto → Prop) : (SR.rt d S).wp N R X ↔ R d S := Iff.rfl
@[simp] theorem wp_sx (x : Exn) (ε : Env) (S : Sto) (N : Env → Sto → Prop) (R : D → Sto → Prop) (X : Exn → Env → Sto → Prop) : (SR.ex x ε S).wp N R X ↔ X x ε S := Iff.rfl
/-- what is still to come -/
def kW {α β : Type} (f : α → Sto → Res β) (Q : β → Sto → Prop) (X : Exn → Sto → Prop) : α → Sto → Prop := fun a S => (f a S).wp Q X
def kT {α : Type} (f : α → Sto → SR) (N : Env → Sto → Prop) (R : D → Sto → Prop) (X : Exn → Env → Sto → Prop) : α → Sto → Prop := fun a S => (f a S).wp N R X
def kN (f : Env → Sto → SR) (N : Env → Sto → Prop) (R : D → Sto → Prop) (X : Exn → Env → Sto → Prop) : Env → Sto → Prop := fun a S => (f a S).wp N R X
def kE (X : Exn → Env → Sto → Prop) (ε : Env) : Exn → Sto → Prop := fun x S => X x ε S
def kF (Q : D → Sto → Prop) : Env → Sto → Prop := fun _ S => Q .non S
def kX (X : Exn → Sto → Prop) : Exn → Env → Sto → Prop := fun x _ S => X x S
@[simp] theorem kW_eq {α β : Type} (f : α → Sto → Res β) (Q : β → Sto → Prop) (X : Exn → Sto → Prop) (a : α) (S : Sto) : kW f Q X a S = (f a S).wp Q X := rfl
@[simp] theorem kT_eq {α : Type} (f : α → Sto → SR) (N : Env → Sto → Prop) (R : D → Sto → Prop) (X : Exn → Env → Sto → Prop) (a : α) (S : Sto) : kT f N R X a S = (f a S).wp N R X := rfl
@[simp] theorem kN_eq (f : Env → Sto → SR) (N : Env → Sto → Prop) (R : D → Sto → Prop) (X : Exn → Env → Sto → Prop) (a : Env) (S : Sto) : kN f N R X a S = (f a S).wp N R X := rfl
@[simp] theorem kE_eq (X : Exn → Env → Sto → Prop) (ε : Env) (x : Exn) (S : Sto) : kE X ε x S = X x ε S := rfl
@[simp] theorem kF_eq (Q : D → Sto → Prop) (ε : Env) (S : Sto) : kF Q ε S = Q .non S := rfl
@[simp] theorem kX_eq (X : Exn → Sto → Prop) (x : Exn) (ε : Env) (S : Sto) : kX X x ε S = X x S := rfl
@[simp] theorem wp_bind {α β : Type} (r : Res α) (f : α → Sto → Res β) (Q : β → Sto → Prop) (X : Exn → Sto → Prop) : (r.bind f).wp Q X ↔ r.wp (kW f Q X) X := by cases r <;> exact Iff.rfl
@[simp] theorem wp_toS {α : Type} (r : Res α) (ε : Env) (f : α → Sto → SR) (N : Env → Sto → Prop) (R : D → Sto → Prop) (X : Exn → Env → Sto → Prop) : (r.toS ε f).wp N R X ↔ r.wp (kT f N R X) (kE X ε) := by cases r <;> exact Iff.rfl
@[simp] theorem wp_then (r : SR) (f : Env → Sto → SR) (N : Env → Sto → Prop) (R : D → Sto → Prop) (X : Exn → Env → Sto → Prop) : (r.then_ f).wp N R X ↔ r.wp (kN f N R X) R X := by cases r <;> exact Iff.rfl
@[simp] theorem wp_fin (r : SR) (Q : D → Sto → Prop) (X : Exn → Sto → Prop) : (fin r).wp Q X ↔ r.wp (kF Q) Q (kX X) := by cases r <;> exact Iff.rfl
theorem Res.wp.mono {α : Type} {r : Res α} {Q Q' : α → Sto → Prop} {X X' : Exn → Sto → Prop} (h : r.wp Q X) (hq : ∀ a S, Q a S → Q' a S) (hx : ∀ x S, X x S → X' x S) : r.wp Q' X' := by
  cases r with
  | ok a S => exact hq a S h
  | ex x S => exact hx x S h
  | bad => exact h
theorem SR.wp.mono {r : SR} {N N' : Env → Sto → Prop} {R R' : D → Sto → Prop} {X X' : Exn → Env → Sto → Prop} (h : r.wp N R X) (hn : ∀ ε S, N ε S → N' ε S) (hr : ∀ a S, R a S → R' a S) (hx : ∀ x ε S, X x ε S → X' x ε S) : r.wp N' R' X' := by
  cases r with
  | nx a S => exact hn a S h
  | rt a S => exact hr a S h
  | ex x ε S => exact hx x ε S h
  | bad => exact h
/-- it ends well -/
abbrev Res.ends {α : Type} (r : Res α) (Q : α → Sto → Prop) : Prop := r.wp Q fun _ _ => False
theorem Res.ends.use {α : Type} {r : Res α} {Q Q' : α → Sto → Prop} {X' : Exn → Sto → Prop} (h : r.ends Q) (hq : ∀ a S, Q a S → Q' a S) : r.wp Q' X' := Res.wp.mono h hq fun _ _ z => z.elim
theorem Res.ends.get {α : Type} {r : Res α} {Q : α → Sto → Prop} (h : r.ends Q) : ∃ a S, r = .ok a S ∧ Q a S := by
  cases r with
  | ok a S => exact ⟨a, S, rfl, h⟩
  | ex x S => exact h.elim
  | bad => exact h.elim
theorem ends_of {α : Type} {r : Res α} {a : α} {S : Sto} {Q : α → Sto → Prop} (h : r = .ok a S) (q : Q a S) : r.ends Q := by rw [h]; exact q
theorem wp_callF {L : Nat} (hL : 2 ≤ L) (f : Fn) (args : List D) (S : Sto) (np nl : Nat) (b : Sms) (h : bodyOf f = ⟨np, nl, b⟩) (hl : args.length = np) {Q : D → Sto → Prop} {X : Exn → Sto → Prop}
    (hw : ∀ (Q' : D → Sto → Prop) (X' : Exn → Sto → Prop), (∀ d S', Q d S' → Q' d S') → (∀ x S', X x S' → X' x S') → (exs ⟨false, callF false (L - 1), callF false (L - 2)⟩ b ⟨args.map some ++ List.replicate (nl - np) none, none⟩ S).wp (kF Q') Q' (kX X')) : (callF false L f args S).wp Q X := by
  rw [callF_eqL hL f args S np nl b h hl, wp_fin]
  exact hw Q X (fun _ _ h => h) (fun _ _ h => h)
theorem ends_callF {L : Nat} (hL : 2 ≤ L) (f : Fn) (args : List D) (S : Sto) (np nl : Nat) (b : Sms) (h : bodyOf f = ⟨np, nl, b⟩) (hl : args.length = np) {Q : D → Sto → Prop}
    (hw : ∀ (Q' : D → Sto → Prop) (X' : Exn → Env → Sto → Prop), (∀ d S', Q d S' → Q' d S') → (exs ⟨false, callF false (L - 1), callF false (L - 2)⟩ b ⟨args.map some ++ List.replicate (nl - np) none, none⟩ S).wp (kF Q') Q' X') : (callF false L f args S).ends Q := by
  rw [callF_eqL hL f args S np nl b h hl, Res.ends, wp_fin]
  exact hw Q _ (fun _ _ h => h)
/-! ### loops -/
theorem wp_loopX {body : D → Env → Sto → SR} {ds : List D} {ε : Env} {S : Sto} {N : Env → Sto → Prop} {R : D → Sto → Prop} {X : Exn → Env → Sto → Prop} (I : List D → Env → Sto → Prop) (h0 : I [] ε S)
    (hs : ∀ pre d post ε S (N' : Env → Sto → Prop), ds = pre ++ d :: post → I pre ε S → (∀ ε' S', I (pre ++ [d]) ε' S' → N' ε' S') → (body d ε S).wp N' R X) (he : ∀ ε S, I ds ε S → N ε S) : (loopX body ds ε S).wp N R X := by
  have : ∀ (post pre : List D) (ε : Env) (S : Sto), ds = pre ++ post → I pre ε S → (loopX body post ε S).wp N R X := by
    intro post
    induction post with
    | nil =>
      intro pre ε S e hI
      rw [loopX]
      rw [List.append_nil] at e
      exact he _ _ (e ▸ hI)
    | cons d post ih =>
      intro pre ε S e hI
      rw [loopX, wp_then]
      exact (hs pre d post ε S _ e hI fun _ _ h => h).mono (fun ε' S' h => show SR.wp _ _ _ _ from ih (pre ++ [d]) ε' S' (by simp [e]) h) (fun _ _ h => h) (fun _ _ _ h => h)
  exact this ds [] ε S rfl h0
theorem wp_loopL {body : D → Env → Sto → SR} {l : Nat} {ds : List D} {ε : Env} {S : Sto} {N : Env → Sto → Prop} {R : D → Sto → Prop} {X : Exn → Env → Sto → Prop} (hlen : ds.length < FU) (I : List D → Env → Sto → Prop) (h0 : I [] ε S) (hl : ∀ pre ε S, I pre ε S → S.seq l = some ds)
    (hs : ∀ pre d post ε S (N' : Env → Sto → Prop), ds = pre ++ d :: post → I pre ε S → (∀ ε' S', I (pre ++ [d]) ε' S' → N' ε' S') → (body d ε S).wp N' R X) (he : ∀ ε S, I ds ε S → N ε S) : (loopL body l FU 0 ε S).wp N R X := by
  have : ∀ (n : Nat) (post pre : List D) (ε : Env) (S : Sto), ds = pre ++ post → post.length < n → I pre ε S → (loopL body l n pre.length ε S).wp N R X := by
    intro n
    induction n with
    | zero => intro post pre ε S e h; omega
    | succ n ih =>
      intro post pre ε S e h hI
      rw [loopL, hl pre ε S hI]
      dsimp only
      cases post with
      | nil =>
        rw [List.append_nil] at e
        rw [e, List.getElem?_eq_none (Nat.le_refl _)]
        exact he _ _ (e ▸ hI)
      | cons d post =>
        rw [e, List.getElem?_append_right (Nat.le_refl _), Nat.sub_self, List.getElem?_cons_zero]
        dsimp only
        rw [wp_then]
        refine (hs pre d post ε S _ e hI fun _ _ h => h).mono (fun ε' S' h' => ?_) (fun _ _ h => h) (fun _ _ _ h => h)
        have := ih post (pre ++ [d]) ε' S' (by simp [e]) (by simp at h; omega) h'
        rwa [List.length_append] at this
  exact this FU ds [] ε S rfl hlen h0
theorem wp_compX {step : D → Sto → Res (Option D)} {ds : List D} {S : Sto} {Q : List D → Sto → Prop} {X : Exn → Sto → Prop} (I : List D → List D → Sto → Prop) (h0 : I [] [] S) (hm : ds.length < lim)
    (hs : ∀ pre d post acc S (N' : Option D → Sto → Prop), ds = pre ++ d :: post → acc.length ≤ pre.length → I pre acc S → (∀ y S', I (pre ++ [d]) (acc ++ y.toList) S' → N' y S') → (step d S).wp N' X) (he : ∀ acc S, I ds acc S → Q acc S) : (compX step ds [] S).wp Q X := by
  have : ∀ (post pre acc : List D) (S : Sto), ds = pre ++ post → acc.length ≤ pre.length → I pre acc S → (compX step post acc S).wp Q X := by
    intro post
    induction post with
    | nil =>
      intro pre acc S e ha hI
      rw [compX]
      rw [List.append_nil] at e
      exact he _ _ (e ▸ hI)
    | cons d post ih =>
      intro pre acc S e ha hI
      rw [compX, wp_bind]
      refine (hs pre d post acc S _ e ha hI fun _ _ h => h).mono (fun y S' h => ?_) (fun _ _ h => h)
      have hl : acc.length < lim := by
        have := congrArg List.length e
        simp at this
        omega
      cases y with
      | none =>
        simp only [accd]
        exact ih (pre ++ [d]) acc S' (by simp [e]) (by simp; omega) (by simpa using h)
      | some y =>
        simp only [accd, if_pos hl]
        exact ih (pre ++ [d]) (acc ++ [y]) S' (by simp [e]) (by simp; omega) (by simpa using h)
  exact this ds [] [] S rfl (Nat.le_refl _) h0
theorem wp_compL {step : D → Sto → Res (Option D)} {l : Nat} {ds : List D} {S : Sto} {Q : List D → Sto → Prop} {X : Exn → Sto → Prop} (hlen : ds.length < FU) (I : List D → List D → Sto → Prop) (h0 : I [] [] S) (hl : ∀ pre acc S, I pre acc S → S.seq l = some ds)
    (hs : ∀ pre d post acc S (N' : Option D → Sto → Prop), ds = pre ++ d :: post → acc.length ≤ pre.length → I pre acc S → (∀ y S', I (pre ++ [d]) (acc ++ y.toList) S' → N' y S') → (step d S).wp N' X) (he : ∀ acc S, I ds acc S → Q acc S) : (compL step l FU 0 [] S).wp Q X := by
  have : ∀ (n : Nat) (post pre acc : List D) (S : Sto), ds = pre ++ post → post.length < n → acc.length ≤ pre.length → I pre acc S → (compL step l n pre.length acc S).wp Q X := by
    intro n
    induction n with
    | zero => intro post pre acc S e h; omega
    | succ n ih =>
      intro post pre acc S e h ha hI
      rw [compL, hl pre acc S hI]
      dsimp only
      cases post with
      | nil =>
        rw [List.append_nil] at e
        rw [e, List.getElem?_eq_none (Nat.le_refl _)]
        exact he _ _ (e ▸ hI)
      | cons d post =>
        rw [e, List.getElem?_append_right (Nat.le_refl _), Nat.sub_self, List.getElem?_cons_zero]
        dsimp only
        rw [wp_bind]
        refine (hs pre d post acc S _ e ha hI fun _ _ h => h).mono (fun y S' h' => ?_) (fun _ _ h => h)
        have hl : acc.length < lim := by
          have := congrArg List.length e
          simp at this
          unfold FU at hlen
          unfold lim
          omega
        cases y with
        | none =>
          simp only [accd]
          have := ih post (pre ++ [d]) acc S' (by simp [e]) (by simp at h; omega) (by simp; omega) (by simpa using h')
          rwa [List.length_append] at this
        | some y =>
          simp only [accd, if_pos hl]
          have := ih post (pre ++ [d]) (acc ++ [y]) S' (by simp [e]) (by simp at h; omega) (by simp; omega) (by simpa using h')
          rwa [List.length_append] at this
  exact this FU ds [] [] S rfl hlen (Nat.le_refl _) h0
theorem wp_while {c : Env → Sto → Res D} {body : Env → Sto → SR} {ε : Env} {S : Sto} {N : Env → Sto → Prop} {R : D → Sto → Prop} {X : Exn → Env → Sto → Prop} (I : Nat → Env → Sto → Prop) (n : Nat) (hn : n < FU) (h0 : I n ε S)
    (hs : ∀ m ε S, I m ε S → (c ε S).wp (fun k S1 => (k = .bl true ∧ (body ε S1).wp (fun ε' S' => ∃ m', m' < m ∧ I m' ε' S') R X) ∨ (k = .bl false ∧ N ε S1)) (fun x S => X x ε S)) : (whileW c body FU ε S).wp N R X := by
  have : ∀ (f m : Nat) (ε : Env) (S : Sto), m < f → I m ε S → (whileW c body f ε S).wp N R X := by
    intro f
    induction f with
    | zero => intro m ε S h; omega
    | succ f ih =>
      intro m ε S h hI
      rw [whileW, wp_toS]
      refine (hs m ε S hI).mono (fun k S1 hk => ?_) (fun _ _ h => h)
      rcases hk with ⟨rfl, hb⟩ | ⟨rfl, hN⟩
      · show (SR.then_ _ _).wp N R X
        rw [wp_then]
        exact hb.mono (fun ε' S' ⟨m', h1, h2⟩ => ih m' ε' S' (by omega) h2) (fun _ _ h => h) (fun _ _ _ h => h)
      · exact hN
  exact this FU n ε S hn h0
@[simp] theorem loopI_live (body : D → Env → Sto → SR) (l : Nat) (ε : Env) (S : Sto) : loopI body (.live l) ε S = loopL body l FU 0 ε S := rfl
@[simp] theorem loopI_items (body : D → Env → Sto → SR) (ds : List D) (ε : Env) (S : Sto) : loopI body (.items ds) ε S = loopX body ds ε S := rfl
@[simp] theorem compI_live (step : D → Sto → Res (Option D)) (l : Nat) (S : Sto) : compI step (.live l) S = compL step l FU 0 [] S := rfl
@[simp] theorem compI_items (step : D → Sto → Res (Option D)) (ds : List D) (S : Sto) : compI step (.items ds) S = compX step ds [] S := rfl
/-! ### stores that end in a written list -/
@[simp] theorem at_app0 (S T : Sto) : Sto.at (S ++ T) S.length = Sto.at T 0 := by
  unfold Sto.at
  rw [List.getElem?_append_right (Nat.le_refl _), Nat.sub_self]
@[simp] theorem at_appk (S T : Sto) (k : Nat) : Sto.at (S ++ T) (S.length + k) = Sto.at T k := by
  unfold Sto.at
  rw [List.getElem?_append_right (by omega)]
  congr 1
  omega
@[simp] theorem at_cons0 (o : Ob) (T : Sto) : Sto.at (o :: T) 0 = some o := rfl
@[simp] theorem at_consS (o : Ob) (T : Sto) (k : Nat) : Sto.at (o :: T) (k + 1) = Sto.at T k := rfl
@[simp] theorem set_app0 (S T : Sto) (o : Ob) : List.set (S ++ T) S.length o = S ++ List.set T 0 o := by
  rw [List.set_append_right _ _ (Nat.le_refl _), Nat.sub_self]
@[simp] theorem set_appk (S T : Sto) (k : Nat) (o : Ob) : List.set (S ++ T) (S.length + k) o = S ++ List.set T k o := by
  rw [List.set_append_right _ _ (by omega)]
  congr 2
  omega
theorem range_mid {α : Type} {f : Nat → α} {n : Nat} {pre post : List α} {d : α} (e : (List.range n).map f = pre ++ d :: post) : d = f pre.length ∧ pre.length < n ∧ n = pre.length + post.length + 1 := by
  have h5 := congrArg List.length e
  simp at h5
  have h1 := congrArg (fun l => l[pre.length]?) e
  simp at h1
  obtain ⟨a, h1, h2⟩ := h1
  rw [List.getElem?_range (by omega)] at h1
  cases h1
  exact ⟨h2.symm, by omega, by omega⟩
theorem lt_len_of_mid {α : Type} {ds pre post : List α} {d : α} (e : ds = pre ++ d :: post) : pre.length < ds.length := by rw [e]; simp
theorem mem_of_mid {α : Type} {ds pre post : List α} {d : α} (e : ds = pre ++ d :: post) : d ∈ ds := by rw [e]; simp
@[simp] theorem ofT_len (l : List Tx) : (ofT l).length = l.length := by simp [ofT]
@[simp] theorem ofT_app (a b : List Tx) : ofT a ++ ofT b = ofT (a ++ b) := by simp [ofT]
@[simp] theorem ofT_nil : ofT [] = [] := rfl
@[simp] theorem ofT_snoc (a : List Tx) (x : Tx) : ofT a ++ [.str x] = ofT (a ++ [x]) := by simp [ofT]
@[simp] theorem ofI_len (l : List Int) : (ofI l).length = l.length := by simp [ofI]
theorem wp_cons {body : D → Env → Sto → SR} {d : D} {r : List D} {ε : Env} {S : Sto} {N : Env → Sto → Prop} {R : D → Sto → Prop} {X : Exn → Env → Sto → Prop} : (loopX body (d :: r) ε S).wp N R X ↔ (body d ε S).wp (kN (loopX body r) N R X) R X := by
  rw [loopX]
  exact wp_then _ _ _ _ _
theorem wp_nil {body : D → Env → Sto → SR} {ε : Env} {S : Sto} {N : Env → Sto → Prop} {R : D → Sto → Prop} {X : Exn → Env → Sto → Prop} : (loopX body [] ε S).wp N R X ↔ N ε S := Iff.rfl
end Mi
end

section
set_option linter.all false
set_option maxRecDepth 100000
set_option Elab.async false
/-! the plain law: stretch, whole -/
namespace Mi
open PySem
def bOut : Sms := .cons (.for_ (.one 6) (.rng2 (.b2 .min (.ix (.v 2) (.int 0)) (.ix (.v 3) (.int 0))) (.bin .add (.b2 .max (.ix (.v 2) (.int 0)) (.ix (.v 3) (.int 0))) (.int 1))) bIn) .nil
def fR (c c' : Nat) (d : D) : List D := match d with
  | .int j => ofT (rowT c c' j.toNat)
  | _ => []
theorem rowT_len {c c' r : Nat} (hc : c < 6) (hc' : c' < 6) : (rowT c c' r).length ≤ 6 := by
  unfold rowT minN maxN
  simp
  split <;> split <;> omega
theorem fR_all (c r c' r' : Nat) : ((List.range (maxN r r' + 1 - minN r r')).map fun k : Nat => D.int ((minN r r' + k : Nat) : Int)).flatMap (fR c c') = ofT (strT c r c' r') := by
  unfold strT ofT
  rw [List.flatMap_map, List.map_flatMap]
  rfl
theorem fR_len (c r c' r' : Nat) (hc : c < 6) (hc' : c' < 6) (hr : r < 9) (hr' : r' < 9) : (ofT (strT c r c' r')).length ≤ 54 := by
  have h1 : ∀ l : List Nat, (l.flatMap fun i => rowT c c' (minN r r' + i)).length ≤ 6 * l.length := by
    intro l
    induction l with
    | nil => simp
    | cons x l ih =>
      have := rowT_len (r := minN r r' + x) hc hc'
      simp [List.flatMap_cons] at ih ⊢
      omega
  have h2 := h1 (List.range (maxN r r' + 1 - minN r r'))
  have h3 : maxN r r' + 1 - minN r r' ≤ 9 := by unfold minN maxN; split <;> split <;> omega
  simp only [ofT, List.length_map]
  unfold strT
  rw [List.length_range] at h2
  omega
theorem rg_mm {m : Nat} (hm : m ≤ 100) (r r' : Nat) (hr : r < m) (hr' : r' < m) (S : Sto) : kR2 (.int (minN r r' : Nat)) (.int ((maxN r r' : Nat) + 1)) S = .ok (.items ((List.range (maxN r r' + 1 - minN r r')).map fun k : Nat => .int ((minN r r' + k : Nat) : Int))) S := rg2 S (minN r r') (maxN r r' + 1) (by unfold minN; split <;> omega) (by unfold maxN; split <;> omega) _ _ rfl (by omega)
theorem stretch_eq {L : Nat} (hL : 4 ≤ L) (S : Sto) (c r c' r' : Nat) (hc : c < 6) (hr : r < 9) (hc' : c' < 6) (hr' : r' < 9) :
    callF false L .stretch [.str (cellT c r), .str (cellT c' r')] S = .ok (.ref S.length) (S ++ [.lst (ofT (strT c r c' r'))]) := by
  rw [callF_eqL (by omega) .stretch _ S _ _ _ rfl rfl]
  have e1 := place_of_ok (L := L - 1) (by omega) S c r hc hr
  have e2 := place_of_ok (L := L - 1) (by omega) S c' r' hc' hr'
  have g0 := rg_mm (m := 9) (by decide) r r' hr hr'
  have g1 := rg_mm (m := 6) (by decide) c c' hc hc'
  obtain ⟨ε', e, x, y, hε⟩ := loopX_app 900 (turn ⟨false, callF false (L - 1), callF false (L - 2)⟩ (.one 5) bOut) S.length (fR c c') (fun ε => ∃ x y, ε = ⟨[some (.str (cellT c r)), some (.str (cellT c' r')), some (.tup [.int c, .int r]), some (.tup [.int c', .int r']), some (.ref S.length), x, y], none⟩)
    ((List.range (maxN r r' + 1 - minN r r')).map fun k : Nat => D.int ((minN r r' + k : Nat) : Int))
    (fun d ε S1 acc hd ⟨x, y, hε⟩ hS hl => by
      subst hε
      obtain ⟨k, hk, rfl⟩ := List.mem_map.mp hd
      have hk : k < maxN r r' + 1 - minN r r' := by simpa using hk
      have hj : minN r r' + k < 9 := by unfold maxN minN at *; split at hk <;> split at hk <;> (split <;> omega)
      obtain ⟨z, e3⟩ := inner_ok (L := L) (by omega) (.str (cellT c r)) (.str (cellT c' r')) (.tup [.int c, .int r]) (.tup [.int c', .int r']) (.int 0) S.length c c' (minN r r' + k) hc hc' hj S1 acc hS (by omega) y
      refine ⟨⟨[some (.str (cellT c r)), some (.str (cellT c' r')), some (.tup [.int c, .int r]), some (.tup [.int c', .int r']), some (.ref S.length), some (.int ((minN r r' + k : Nat) : Int)), z], none⟩, ?_, _, _, rfl⟩
      simp only [fR, Int.toNat_natCast]
      simp only [bOut, turn_one, put_eq, List.set]
      simp [-Int.natCast_add, b2_min, b2_max, g1, e3]) ⟨[some (.str (cellT c r)), some (.str (cellT c' r')), some (.tup [.int c, .int r]), some (.tup [.int c', .int r']), some (.ref S.length), none, none], none⟩ (S ++ [.lst []]) [] ⟨none, none, rfl⟩ at_new (by
        rw [fR_all]
        have := fR_len c r c' r' hc hc' hr hr'
        rw [ofT_len] at this
        simp
        omega)
  subst hε
  rw [fR_all] at e
  simp only [bOut, bIn] at e
  simp [-Int.natCast_add, b_stretch, e1, e2, b2_min, b2_max, g0, e]
end Mi
end

section
set_option linter.all false
set_option maxRecDepth 100000
set_option Elab.async false
/-! the plain law: the law's stretch -/
namespace Mi
open PySem
theorem Ext.at {S S' : Sto} {l : Nat} {o : Ob} (x : Ext S S') (h : S.at l = some o) : S'.at l = some o := (x.at_ l (lt_of_at h)).trans h
/-- a new list; all that was stays -/
structure NewL (S : Sto) (xs : List D) (d : D) (S' : Sto) : Prop where
  ex : ∃ l, d = .ref l ∧ S.length ≤ l ∧ S'.at l = some (.lst xs)
  ext : Ext S S'
theorem compX_pure {step : D → Sto → Res (Option D)} (g : D → Option D) : ∀ (ds acc : List D) (S : Sto), (∀ d ∈ ds, step d S = .ok (g d) S) → acc.length + ds.length ≤ lim → compX step ds acc S = .ok (acc ++ ds.filterMap g) S
  | [], acc, S, h, hl => by simp [compX]
  | d :: r, acc, S, h, hl => by
    simp at hl
    rw [compX, h d (by simp), Res.bind_ok]
    cases e : g d with
    | none =>
      simp only [accd]
      rw [compX_pure g r acc S (fun d hd => h d (by simp [hd])) (by simp; omega)]
      simp [List.filterMap_cons, e]
    | some y =>
      have : acc.length < lim := by simp; omega
      simp only [accd, if_pos this]
      rw [compX_pure g r (acc ++ [y]) S (fun d hd => h d (by simp [hd])) (by simp; omega)]
      simp [List.filterMap_cons, e]
theorem compL_pure {step : D → Sto → Res (Option D)} (g : D → Option D) (l : Nat) (ds : List D) (S : Sto) (hd : S.seq l = some ds) (h : ∀ d ∈ ds, step d S = .ok (g d) S) (hl : ds.length < FU) : compL step l FU 0 [] S = .ok (ds.filterMap g) S := by
  have : ∀ (n : Nat) (post pre : List D), ds = pre ++ post → post.length < n → compL step l n pre.length (pre.filterMap g) S = .ok (ds.filterMap g) S := by
    intro n
    induction n with
    | zero => intro post pre e h; omega
    | succ n ih =>
      intro post pre e hn
      rw [compL, hd]
      dsimp only
      cases post with
      | nil =>
        rw [List.append_nil] at e
        rw [e, List.getElem?_eq_none (Nat.le_refl _)]
      | cons d post =>
        have hp : pre.length < ds.length := by rw [e]; simp
        have he : ds[pre.length]? = some d := by rw [e, List.getElem?_append_right (Nat.le_refl _), Nat.sub_self, List.getElem?_cons_zero]
        rw [he]
        dsimp only
        rw [h d (by rw [e]; simp), Res.bind_ok]
        have := ih post (pre ++ [d]) (by simp [e]) (by simp at hn; omega)
        rw [List.length_append] at this
        have h2 := List.length_filterMap_le g pre
        cases eg : g d with
        | none =>
          simp only [accd]
          simpa [List.filterMap_append, eg] using this
        | some y =>
          have hl : (pre.filterMap g).length < lim := by unfold FU at hl; unfold lim; omega
          simp only [accd, if_pos hl]
          simpa [List.filterMap_append, eg] using this
  have := this FU ds [] rfl hl
  simpa using this
theorem sortI2 (a b : Int) : sortI [a, b] = if a ≤ b then [a, b] else [b, a] := rfl
theorem sorted2 (S : Sto) (l : Nat) (a b : Nat) (h : S.at l = some (.lst [.int a, .int b])) : b1 .sorted (.ref l) S = .ok (.ref S.length) (S ++ [.lst [.int (minN a b : Nat), .int (maxN a b : Nat)]]) := by
  have : sortD [.int a, .int b] = some [.int (minN a b : Nat), .int (maxN a b : Nat)] := by
    show some (ofI (sortI [(a : Int), b])) = _
    rw [sortI2]
    unfold minN maxN
    by_cases h : (a : Int) ≤ b
    · rw [if_pos h]
      by_cases h2 : a < b
      · rw [if_neg (by omega), if_pos h2]; rfl
      · have : a = b := by omega
        subst this
        simp [ofI]
    · rw [if_neg h, if_pos (by omega), if_neg (by omega)]; rfl
  simp only [b1, seq_at, h, this]
  rfl
theorem intT_row : ∀ r : Nat, r < 9 → intT [49 + r] = some ((r + 1 : Nat) : Int) := by decide
theorem strI_row : ∀ r : Nat, r < 9 → strI ((r + 1 : Nat) : Int) = [49 + r] := by
  intro r h
  unfold strI
  rw [if_neg (by omega), Int.natAbs_natCast, digits_small (by omega)]
  congr 1
  omega
theorem findC_col : ∀ c : Nat, c < 6 → findC (97 + c) [97, 98, 99, 100, 101, 102] = c := by decide
def fK (r : Nat) (d : D) : Option D := match d with
  | .int j => some (.str (cellT j.toNat r))
  | _ => none
theorem fK_all (c c' r : Nat) : ((List.range (maxN c c' + 1 - minN c c')).map fun k : Nat => D.int ((minN c c' + k : Nat) : Int)).filterMap (fK r) = ofT (rowT c c' r) := by
  unfold rowT ofT
  rw [List.filterMap_map, List.map_map]
  rw [← List.filterMap_eq_map]
  rfl
theorem min_succ (a b : Nat) : minN (a + 1) (b + 1) = minN a b + 1 := by unfold minN; split <;> split <;> omega
theorem max_succ (a b : Nat) : maxN (a + 1) (b + 1) = maxN a b + 1 := by unfold maxN; split <;> split <;> omega
@[simp] theorem b1_intS (S : Sto) (t : Tx) : b1 .int (.str t) S = match intT t with | some n => if t.length ≤ 640 then .ok (.int n) S else .bad | none => .bad := rfl
@[simp] theorem m1_find (S : Sto) (t : Tx) (c : Nat) : m1 .find (.str t) (.str [c]) S = .ok (.int (findC c t)) S := rfl
@[simp] theorem recv1_find (S : Sto) (t : Tx) : recv1 .find (.str t) S = true := rfl
@[simp] theorem add_lst (S : Sto) (l m : Nat) : binop .add (.ref l) (.ref m) S = match S.lst l, S.lst m with | some x, some y => if x.length + y.length ≤ lim then .ok (.ref S.length) (S ++ [.lst (x ++ y)]) else .bad | _, _ => .bad := rfl
theorem strT_snoc (c c' m : Nat) (l : List Nat) (x : Nat) : ((l ++ [x]).flatMap fun i => rowT c c' (m + i)) = (l.flatMap fun i => rowT c c' (m + i)) ++ rowT c c' (m + x) := by simp
theorem l_stretch_ok {L : Nat} (hL : 4 ≤ L) (S : Sto) (c r c' r' : Nat) (hc : c < 6) (hr : r < 9) (hc' : c' < 6) (hr' : r' < 9) :
    (callF false L .l_stretch [.str (cellT c r), .str (cellT c' r')] S).ends (NewL S (ofT (strT c r c' r'))) := by
  refine ends_callF (by omega) .l_stretch _ S _ _ _ rfl rfl fun Q X hq => ?_
  have f1 := findC_col c hc
  have f2 := findC_col c' hc'
  have t1 := intT_row r hr
  have t2 := intT_row r' hr'
  have s1 := sorted2 (S ++ [.lst [.int c, .int c']]) S.length c c' (by simp)
  have s2 := sorted2 (S ++ [.lst [.int c, .int c'], .lst [.int (minN c c' : Nat), .int (maxN c c' : Nat)], .lst [.int (r + 1 : Nat), .int (r' + 1 : Nat)]]) (S.length + 2) (r + 1) (r' + 1) (by simp)
  simp [-Int.natCast_add, b_l_stretch, cellT, f1, f2, t1, t2, s1, s2, seq_at, lst_at]
  rw [min_succ, max_succ, rg2 _ (minN r r' + 1) (maxN r r' + 2) (by unfold minN; split <;> omega) (by unfold maxN; split <;> omega) _ _ rfl (by omega)]
  simp only [wp_ok, kT_eq, sFor_eq, loopI_items]
  generalize hS2 : S ++ _ = S2
  have a2 : S2.at (S.length + 1) = some (.lst [.int (minN c c' : Nat), .int (maxN c c' : Nat)]) := by rw [← hS2]; simp
  have a4 : S2.at (S.length + 4) = some (.lst []) := by rw [← hS2]; simp
  have x2 : Ext S S2 := by rw [← hS2]; exact .app
  have hm : minN r r' ≤ maxN r r' := by unfold minN maxN; split <;> split <;> omega
  have hm9 : maxN r r' < 9 := by unfold maxN; split <;> omega
  rw [show maxN r r' + 2 - (minN r r' + 1) = maxN r r' + 1 - minN r r' by omega]
  have g1 := rg_mm (m := 6) (by decide) c c' hc hc'
  refine wp_loopX (fun pre ε S3 => ∃ l y, ε = ⟨[some (.str (cellT c r)), some (.str (cellT c' r')), some (.ref (S.length + 1)), some (.ref (S.length + 3)), some (.ref l), y, none], none⟩ ∧ Ext S2 S3 ∧ S.length ≤ l ∧
    S3.at l = some (.lst (ofT ((List.range pre.length).flatMap fun i => rowT c c' (minN r r' + i)))) ∧ pre.length ≤ 9) ⟨S.length + 4, none, rfl, .refl, by omega, a4, by simp⟩ ?_ ?_
  · rintro pre d post ε S3 N e ⟨l, y, rfl, x3, hl, h3, hp⟩ hN
    have hd := range_mid e
    obtain ⟨rfl, hlt, _⟩ := hd
    have b2 := x3.at a2
    have k3 := lt_of_at h3
    have t3 := strI_row (minN r r' + pre.length) (by omega)
    have e5 : ∀ (Y : Sto), compX (kStep ⟨false, callF false (L - 1), callF false (L - 2)⟩ 6 .nil (.bin .add (.ix (.str [97, 98, 99, 100, 101, 102]) (.v 6)) (.b1 .str (.v 5))) ⟨[some (.str (cellT c r)), some (.str (cellT c' r')), some (.ref (S.length + 1)), some (.ref (S.length + 3)), some (.ref l), some (.int ((minN r r' + 1 + pre.length : Nat) : Int)), none], none⟩)
      ((List.range (maxN c c' + 1 - minN c c')).map fun k : Nat => D.int ((minN c c' + k : Nat) : Int)) [] Y = .ok (ofT (rowT c c' (minN r r' + pre.length))) Y := fun Y => by
      rw [compX_pure (fK (minN r r' + pre.length)) _ _ _ (fun d hd => ?_) (by simp; unfold maxN; split <;> omega), fK_all]
      · simp
      · obtain ⟨k, hk, rfl⟩ := List.mem_map.mp hd
        have hk : k < maxN c c' + 1 - minN c c' := by simpa using hk
        have hj : minN c c' + k < 6 := by unfold maxN minN at *; split at hk <;> split at hk <;> (split <;> omega)
        have g := colA_at _ hj
        simp only [colA] at g
        have sm : (minN r r' + 1 + pre.length) < 10 ^ 500 := Nat.lt_of_lt_of_le (show _ < 10 ^ 2 by omega) (Nat.pow_le_pow_right (by decide) (by decide))
        rw [show minN r r' + 1 + pre.length = minN r r' + pre.length + 1 by omega] at sm ⊢
        simp [-Int.natCast_add, -Nat.reducePow, atI_nat, g, t3, sm, cellT, fK]
    have rl := rowT_len (r := minN r r' + pre.length) hc hc'
    have fl : ((List.range pre.length).flatMap fun i => rowT c c' (minN r r' + i)).length ≤ 54 := by
      have h1 : ∀ l : List Nat, (l.flatMap fun i => rowT c c' (minN r r' + i)).length ≤ 6 * l.length := by
        intro l
        induction l with
        | nil => simp
        | cons x l ih =>
          have := rowT_len (r := minN r r' + x) hc hc'
          simp [List.flatMap_cons] at ih ⊢
          omega
      have := h1 (List.range pre.length)
      rw [List.length_range] at this
      omega
    simp only [turn_one, put_eq, List.set]
    have w3 : Sto.at (S3 ++ [.lst (ofT (rowT c c' (minN r r' + pre.length)))]) l = _ := (at_app k3).trans h3
    have le : ((List.range pre.length).flatMap fun i => rowT c c' (minN r r' + i)).length + (rowT c c' (minN r r' + pre.length)).length ≤ 16777216 := by omega
    simp [-Int.natCast_add, -List.length_flatMap, seq_at, lst_at, b2, g1, e5, w3, le]
    refine hN _ _ ⟨_, _, rfl, x3.trans .app, ?_, ?_, by simp; omega⟩
    · have := x3.len; have := x2.len; omega
    · simp [List.range_succ]
  · rintro ε S3 ⟨l, y, rfl, x3, hl, h3, hp⟩
    simp
    refine hq _ _ ⟨⟨l, rfl, hl, ?_⟩, x2.trans x3⟩
    simpa [strT] using h3
end Mi
end

section
set_option linter.all false
set_option maxRecDepth 100000
set_option Elab.async false
/-! the plain law: the cells that a part reads -/
namespace Mi
open PySem
def IsCell (t : Tx) : Prop := ∃ c r, c < 6 ∧ r < 9 ∧ t = cellT c r
def addF (f xs : List Tx) : List Tx := f ++ xs.filter fun x => !decide (x ∈ f)
def addS (f xs : List Tx) : List Tx := xs.foldl (fun f x => if x ∈ f then f else f ++ [x]) f
def Pt.reads : Pt → List Tx
  | .num _ => []
  | .cell c r => [cellT c r]
  | .sum c r c' r' => strT c r c' r'
  | .op _ a b => addF (addF [] a.reads) b.reads
  | .pick a b c d => addF (addF (addF (addF [] a.reads) b.reads) c.reads) d.reads
theorem addS_addF : ∀ (xs f : List Tx), xs.Nodup → addS f xs = addF f xs := by
  intro xs
  induction xs with
  | nil => intro f _; simp [addS, addF]
  | cons x xs ih =>
    intro f h
    obtain ⟨h1, h2⟩ := List.nodup_cons.mp h
    have : addS f (x :: xs) = addS (if x ∈ f then f else f ++ [x]) xs := rfl
    rw [this, ih _ h2]
    unfold addF
    by_cases hx : x ∈ f
    · simp [hx]
    · rw [if_neg hx, List.filter_cons, if_pos (by simp [hx]), List.append_assoc, List.singleton_append]
      congr 2
      apply List.filter_congr
      intro y hy
      have : y ≠ x := fun e => h1 (e ▸ hy)
      simp [this]
theorem addF_nodup {f xs : List Tx} (hf : f.Nodup) (hx : xs.Nodup) : (addF f xs).Nodup := by
  unfold addF
  rw [List.nodup_append]
  refine ⟨hf, hx.filter _, fun a ha b hb e => ?_⟩
  subst e
  have := (List.mem_filter.mp hb).2
  simp [ha] at this
theorem mem_addF {f xs : List Tx} {x : Tx} : x ∈ addF f xs ↔ x ∈ f ∨ x ∈ xs := by
  unfold addF
  simp only [List.mem_append, List.mem_filter, decide_eq_true_eq]
  by_cases h : x ∈ f <;> simp [h]
theorem addF_len (f xs : List Tx) : (addF f xs).length ≤ f.length + xs.length := by
  unfold addF
  have := List.length_filter_le (fun x => !decide (x ∈ f)) xs
  simp at this ⊢
  exact this
theorem cellT_inj {c r c' r' : Nat} (h : cellT c r = cellT c' r') : c = c' ∧ r = r' := by
  simp only [cellT, List.cons.injEq, and_true] at h
  omega
theorem nodup_map_inj {α β : Type} {f : α → β} {l : List α} (h : ∀ a ∈ l, ∀ b ∈ l, f a = f b → a = b) (hl : l.Nodup) : (l.map f).Nodup := by
  induction l with
  | nil => simp
  | cons x l ih =>
    obtain ⟨h1, h2⟩ := List.nodup_cons.mp hl
    rw [List.map_cons, List.nodup_cons]
    refine ⟨fun hm => ?_, ih (fun a ha b hb => h a (by simp [ha]) b (by simp [hb])) h2⟩
    obtain ⟨y, hy, e⟩ := List.mem_map.mp hm
    have := h y (by simp [hy]) x (by simp) e
    exact h1 (this ▸ hy)
theorem rowT_nodup (c c' r : Nat) : (rowT c c' r).Nodup := nodup_map_inj (fun a _ b _ e => by have := (cellT_inj e).1; omega) List.nodup_range
theorem mem_rowT {c c' r : Nat} {t : Tx} : t ∈ rowT c c' r ↔ ∃ j, minN c c' ≤ j ∧ j ≤ maxN c c' ∧ t = cellT j r := by
  unfold rowT
  simp only [List.mem_map, List.mem_range]
  constructor
  · rintro ⟨k, hk, rfl⟩
    exact ⟨minN c c' + k, by omega, by omega, rfl⟩
  · rintro ⟨j, h1, h2, rfl⟩
    exact ⟨j - minN c c', by omega, by congr 1; omega⟩
theorem flatMap_nodup {α β : Type} {f : α → List β} : ∀ {l : List α}, (∀ a ∈ l, (f a).Nodup) → (∀ a ∈ l, ∀ b ∈ l, a ≠ b → ∀ x ∈ f a, x ∉ f b) → l.Nodup → (l.flatMap f).Nodup
  | [], _, _, _ => by simp
  | x :: l, h1, h2, h3 => by
    obtain ⟨n1, n2⟩ := List.nodup_cons.mp h3
    rw [List.flatMap_cons, List.nodup_append]
    refine ⟨h1 x (by simp), flatMap_nodup (fun a ha => h1 a (by simp [ha])) (fun a ha b hb => h2 a (by simp [ha]) b (by simp [hb])) n2, fun y hy z hz e => ?_⟩
    subst e
    obtain ⟨b, hb, hy2⟩ := List.mem_flatMap.mp hz
    exact h2 x (by simp) b (by simp [hb]) (fun e => n1 (e ▸ hb)) y hy hy2
theorem strT_nodup (c r c' r' : Nat) : (strT c r c' r').Nodup := by
  refine flatMap_nodup (fun a _ => rowT_nodup _ _ _) (fun a _ b _ hab x hx hx2 => ?_) List.nodup_range
  obtain ⟨j, _, _, rfl⟩ := mem_rowT.mp hx
  obtain ⟨k, _, _, e⟩ := mem_rowT.mp hx2
  have := (cellT_inj e).2
  omega
theorem strT_cell {c r c' r' : Nat} (hc : c < 6) (hr : r < 9) (hc' : c' < 6) (hr' : r' < 9) : ∀ t ∈ strT c r c' r', IsCell t := by
  intro t ht
  obtain ⟨a, ha, h⟩ := List.mem_flatMap.mp ht
  obtain ⟨j, h1, h2, rfl⟩ := mem_rowT.mp h
  have ha : a < maxN r r' + 1 - minN r r' := by simpa using ha
  refine ⟨j, minN r r' + a, ?_, ?_, rfl⟩
  · unfold minN maxN at *; split at h2 <;> omega
  · unfold minN maxN at *; split at ha <;> split at ha <;> (try split) <;> omega
theorem Pt.reads_ok : ∀ (d : Nat) (p : Pt), p.ok d → p.reads.Nodup ∧ ∀ t ∈ p.reads, IsCell t
  | d, .num i, h => by simp [Pt.reads]
  | d, .cell c r, h => by
    have h : c < 6 ∧ r < 9 := by cases d <;> exact h
    simp only [Pt.reads, List.mem_singleton]
    exact ⟨by simp, fun t e => ⟨c, r, h.1, h.2, e⟩⟩
  | d, .sum c r c' r', h => by
    have h : (c < 6 ∧ r < 9) ∧ c' < 6 ∧ r' < 9 := by cases d <;> exact h
    exact ⟨strT_nodup _ _ _ _, strT_cell h.1.1 h.1.2 h.2.1 h.2.2⟩
  | d + 1, .op o a b, h => by
    have h1 := Pt.reads_ok d a h.2.1
    have h2 := Pt.reads_ok d b h.2.2
    refine ⟨addF_nodup (addF_nodup List.nodup_nil h1.1) h2.1, fun t ht => ?_⟩
    simp only [Pt.reads, mem_addF, List.not_mem_nil, false_or] at ht
    rcases ht with ht | ht
    · exact h1.2 t ht
    · exact h2.2 t ht
  | d + 1, .pick a b c e, h => by
    have h1 := Pt.reads_ok d a h.1.1
    have h2 := Pt.reads_ok d b h.1.2
    have h3 := Pt.reads_ok d c h.2.1
    have h4 := Pt.reads_ok d e h.2.2
    refine ⟨addF_nodup (addF_nodup (addF_nodup (addF_nodup List.nodup_nil h1.1) h2.1) h3.1) h4.1, fun t ht => ?_⟩
    simp only [Pt.reads, mem_addF, List.not_mem_nil, false_or] at ht
    rcases ht with ((ht | ht) | ht) | ht
    · exact h1.2 t ht
    · exact h2.2 t ht
    · exact h3.2 t ht
    · exact h4.2 t ht
theorem len_le_of_sub {α : Type} [DecidableEq α] : ∀ {l m : List α}, l.Nodup → (∀ x ∈ l, x ∈ m) → l.length ≤ m.length
  | [], m, _, _ => by simp
  | x :: l, m, h, hs => by
    obtain ⟨h1, h2⟩ := List.nodup_cons.mp h
    have hx := hs x (by simp)
    have := len_le_of_sub (m := m.erase x) h2 fun y hy => by
      have hne : y ≠ x := fun e => h1 (e ▸ hy)
      exact (List.mem_erase_of_ne hne).mpr (hs y (by simp [hy]))
    rw [List.length_erase_of_mem hx] at this
    have := List.length_pos_of_mem hx
    simp
    omega
def allC : List Tx := (List.range 54).map fun i => cellT (i % 6) (i / 6)
theorem mem_allC {t : Tx} (h : IsCell t) : t ∈ allC := by
  obtain ⟨c, r, hc, hr, rfl⟩ := h
  unfold allC
  rw [List.mem_map]
  exact ⟨6 * r + c, by simp; omega, by congr 1 <;> omega⟩
theorem cells_len {l : List Tx} (h : l.Nodup) (hc : ∀ t ∈ l, IsCell t) : l.length ≤ 54 := by
  have := len_le_of_sub (m := allC) h fun x hx => mem_allC (hc x hx)
  simpa [allC] using this
/-! ### in lists of texts -/
theorem inL_ofT (t : Tx) (ts : List Tx) : inL (.str t) (ofT ts) = decide (t ∈ ts) := by
  unfold inL ofT
  rw [List.any_map]
  induction ts with
  | nil => simp
  | cons x ts ih =>
    rw [List.any_cons, ih]
    by_cases h : x = t
    · subst h; simp [D.eqv]
    · have h2 : ¬ t = x := fun e => h e.symm
      simp [D.eqv, h, h2]
theorem flat_ofT (ts : List Tx) : (ofT ts).all D.flat = true := by simp [ofT, D.flat]
theorem isIn_lst (S : Sto) (l : Nat) (t : Tx) (ts : List Tx) (h : S.at l = some (.lst (ofT ts))) : isIn (.str t) (.ref l) S = some (decide (t ∈ ts)) := by
  simp only [isIn, seq_at, h, flat_ofT, inL_ofT]
  simp
@[simp] theorem m1_extend (S : Sto) (l r : Nat) : m1 .extend (.ref l) (.ref r) S = match S.lst l, S.lst r with | some ds, some es => if ds.length + es.length ≤ lim then .ok .non (S.set l (.lst (ds ++ es))) else .bad | _, _ => .bad := rfl
@[simp] theorem recv1_extend (S : Sto) (l : Nat) : recv1 .extend (.ref l) S = (S.seq l).isSome := rfl
/-! ### read_cells -/
def bRd : Sms := .cons (.ex (.m1 .extend (.v 1) (.lc 3 (.seq (.call .read_cells (.cons (.v 2) .nil))) (.cons (.cmp .notin (.v 3) (.v 1)) .nil) (.v 3)))) .nil
def RdSpec (f : Fn) (L : Nat) (p : Pt) : Prop := ∀ S, (callF false L f [p.d] S).ends (NewL S (ofT p.reads))
def gF (f : List Tx) (d : D) : Option D := match d with
  | .str t => if t ∈ f then none else some d
  | _ => none
theorem gF_all (f xs : List Tx) : (ofT xs).filterMap (gF f) = ofT (xs.filter fun x => !decide (x ∈ f)) := by
  unfold ofT
  induction xs with
  | nil => rfl
  | cons x xs ih =>
    rw [List.map_cons, List.filterMap_cons, ih, List.filter_cons]
    by_cases h : x ∈ f <;> simp [gF, h]
structure RdI (S0 : Sto) (x0 : D) (w : Nat) (f : List Tx) (ε : Env) (S : Sto) : Prop where
  env : ∃ y, ε = ⟨[some x0, some (.ref w), y, none], none⟩
  at_ : S.at w = some (.lst (ofT f))
  ext : Ext S0 S
  len : S0.length ≤ w
  nd : f.Nodup
  ce : ∀ t ∈ f, IsCell t
theorem rd_turn {L : Nat} {S0 : Sto} {x0 : D} {w : Nat} {f : List Tx} {ε : Env} {S : Sto} (d : Nat) (p : Pt) (hp : p.ok d) (h : RdSpec .read_cells (L - 1) p) (I : RdI S0 x0 w f ε S) {N : Env → Sto → Prop} {R : D → Sto → Prop} {X : Exn → Env → Sto → Prop}
    (hN : ∀ ε S, RdI S0 x0 w (addF f p.reads) ε S → N ε S) : (turn ⟨false, callF false (L - 1), callF false (L - 2)⟩ (.one 2) bRd p.d ε S).wp N R X := by
  obtain ⟨⟨y, rfl⟩, hw, hx, hlen, nd, ce⟩ := I
  obtain ⟨n1, c1⟩ := Pt.reads_ok d p hp
  have l1 := cells_len nd ce
  have l2 := cells_len n1 c1
  simp [bRd, seq_at, hw]
  refine (h S).use ?_
  rintro _ S1 ⟨⟨l, rfl, hl, h1⟩, x1⟩
  have w1 := x1.at hw
  have k1 := lt_of_at w1
  have e := compL_pure (step := kStep ⟨false, callF false (L - 1), callF false (L - 2)⟩ 3 (.cons (.cmp .notin (.v 3) (.v 1)) .nil) (.v 3) ⟨[some x0, some (.ref w), some p.d, none], none⟩) (gF f) l (ofT p.reads) S1 (by simp [seq_at, h1]) (fun d hd => by
    obtain ⟨t, ht, rfl⟩ := List.mem_map.mp hd
    have := isIn_lst S1 w t f w1
    by_cases h : t ∈ f <;> simp [this, h, gF]) (by simp; unfold FU; omega)
  rw [gF_all] at e
  have w2 : Sto.at (S1 ++ [.lst (ofT (p.reads.filter fun x => !decide (x ∈ f)))]) w = some (.lst (ofT f)) := by rw [at_app k1]; exact w1
  have k2 := lt_of_at w2
  have l3 := List.length_filter_le (fun x => !decide (x ∈ f)) p.reads
  have l4 : f.length + (p.reads.filter fun x => !decide (x ∈ f)).length ≤ 16777216 := by omega
  simp [seq_at, lst_at, h1, e, w2, l4]
  refine hN _ _ ⟨⟨_, rfl⟩, at_self k2, ((hx.trans x1).trans .app).set hlen, hlen, addF_nodup nd n1, fun t ht => ?_⟩
  rcases mem_addF.mp ht with ht | ht
  · exact ce t ht
  · exact c1 t ht
theorem Pt.d_sl (x a : D) (r : List D) (S : Sto) : slice (.tup (x :: a :: r)) (some 1) none S = .ok (.tup (a :: r)) S := slice_tl x a r S
theorem read_cells_ok : ∀ (d : Nat) (p : Pt), p.ok d → ∀ {L : Nat} (hL : d + 5 ≤ L), RdSpec .read_cells L p
  | d, .num i, h, L, hL => fun S => by
    refine ends_callF (by omega) .read_cells _ S _ _ _ rfl rfl fun Q X hq => ?_
    simp [b_read_cells, Pt.d, sNum]
    exact hq _ _ ⟨⟨_, rfl, Nat.le_refl _, by simp [Pt.reads]⟩, .app⟩
  | d, .cell c r, h, L, hL => fun S => by
    refine ends_callF (by omega) .read_cells _ S _ _ _ rfl rfl fun Q X hq => ?_
    simp [b_read_cells, Pt.d, sCell]
    exact hq _ _ ⟨⟨_, rfl, Nat.le_refl _, by simp [Pt.reads, ofT]⟩, .app⟩
  | d, .sum c r c' r', h, L, hL => fun S => by
    have h : (c < 6 ∧ r < 9) ∧ c' < 6 ∧ r' < 9 := by cases d <;> exact h
    have e := stretch_eq (L := L - 1) (by omega) S c r c' r' h.1.1 h.1.2 h.2.1 h.2.2
    refine ends_callF (by omega) .read_cells _ S _ _ _ rfl rfl fun Q X hq => ?_
    simp [b_read_cells, Pt.d, sSum, e]
    exact hq _ _ ⟨⟨_, rfl, Nat.le_refl _, by simp [Pt.reads]⟩, .app⟩
  | d + 1, .op o a b, h, L, hL => fun S => by
    have i1 := read_cells_ok d a h.2.1 (L := L - 1) (by omega)
    have i2 := read_cells_ok d b h.2.2 (L := L - 1) (by omega)
    refine ends_callF (by omega) .read_cells _ S _ _ _ rfl rfl fun Q X hq => ?_
    have o1 : (opT o == ([110, 117, 109] : Tx)) = false := opT_num o
    have o2 : (opT o == ([99, 101, 108, 108] : Tx)) = false := by unfold opT; split <;> decide
    have o3 : (opT o == ([115, 117, 109] : Tx)) = false := by unfold opT; split <;> decide
    simp [b_read_cells, Pt.d, o1, o2, o3, slice_tl]
    rw [wp_cons]
    refine rd_turn (S0 := S) d a h.2.1 i1 ⟨⟨_, rfl⟩, at_new, .app, Nat.le_refl _, List.nodup_nil, fun t ht => by cases ht⟩ fun ε1 S1 I1 => ?_
    rw [kN_eq, wp_cons]
    refine rd_turn d b h.2.2 i2 I1 fun ε2 S2 I2 => ?_
    obtain ⟨⟨y, rfl⟩, hw, hx, hl, _, _⟩ := I2
    rw [kN_eq, wp_nil]
    simp
    exact hq _ _ ⟨⟨_, rfl, Nat.le_refl _, hw⟩, hx⟩
  | d + 1, .pick a b c e, h, L, hL => fun S => by
    have i1 := read_cells_ok d a h.1.1 (L := L - 1) (by omega)
    have i2 := read_cells_ok d b h.1.2 (L := L - 1) (by omega)
    have i3 := read_cells_ok d c h.2.1 (L := L - 1) (by omega)
    have i4 := read_cells_ok d e h.2.2 (L := L - 1) (by omega)
    refine ends_callF (by omega) .read_cells _ S _ _ _ rfl rfl fun Q X hq => ?_
    simp [b_read_cells, Pt.d, sPick, slice_tl]
    rw [wp_cons]
    refine rd_turn (S0 := S) d a h.1.1 i1 ⟨⟨_, rfl⟩, at_new, .app, Nat.le_refl _, List.nodup_nil, fun t ht => by cases ht⟩ fun ε1 S1 I1 => ?_
    rw [kN_eq, wp_cons]
    refine rd_turn d b h.1.2 i2 I1 fun ε2 S2 I2 => ?_
    rw [kN_eq, wp_cons]
    refine rd_turn d c h.2.1 i3 I2 fun ε3 S3 I3 => ?_
    rw [kN_eq, wp_cons]
    refine rd_turn d e h.2.2 i4 I3 fun ε4 S4 I4 => ?_
    obtain ⟨⟨y, rfl⟩, hw, hx, hl, _, _⟩ := I4
    rw [kN_eq, wp_nil]
    simp
    exact hq _ _ ⟨⟨_, rfl, Nat.le_refl _, hw⟩, hx⟩
end Mi
end

section
set_option linter.all false
set_option maxRecDepth 100000
set_option Elab.async false
/-! the plain law: the cells that a part reads, the law's way -/
namespace Mi
open PySem
def bLr2 : Sms := .cons (.iff (.cmp .notin (.v 3) (.v 1)) (.cons (.ex (.m1 .append (.v 1) (.v 3))) .nil) .nil) .nil
def bLr : Sms := .cons (.for_ (.one 3) (.seq (.call .l_reads (.cons (.v 2) .nil))) bLr2) .nil
structure LrI (S0 : Sto) (x0 : D) (w : Nat) (f : List Tx) (ε : Env) (S : Sto) : Prop where
  env : ∃ y z, ε = ⟨[some x0, some (.ref w), y, z], none⟩
  at_ : S.at w = some (.lst (ofT f))
  ext : Ext S0 S
  len : S0.length ≤ w
  nd : f.Nodup
  ce : ∀ t ∈ f, IsCell t
theorem addS_snoc (f xs : List Tx) (x : Tx) : addS f (xs ++ [x]) = if x ∈ addS f xs then addS f xs else addS f xs ++ [x] := by
  unfold addS
  rw [List.foldl_append]
  rfl
theorem ofT_mid {ts : List Tx} {pre post : List D} {d : D} (e : ofT ts = pre ++ d :: post) : ∃ a t b, pre = ofT a ∧ d = .str t ∧ post = ofT b ∧ ts = a ++ t :: b := by
  unfold ofT at e
  obtain ⟨a, r, e1, e2, e3⟩ := List.map_eq_append_iff.mp e
  obtain ⟨t, b, e4, e5, e6⟩ := List.map_eq_cons_iff.mp e3
  exact ⟨a, t, b, e2.symm, e5.symm, e6.symm, by rw [e1, e4]⟩
theorem ofT_inj {a b : List Tx} (h : ofT a = ofT b) : a = b := by
  unfold ofT at h
  exact List.map_inj_right (fun x y e => by injection e) |>.mp h
theorem lr_turn {L : Nat} {S0 : Sto} {x0 : D} {w : Nat} {f : List Tx} {ε : Env} {S : Sto} (d : Nat) (p : Pt) (hp : p.ok d) (h : RdSpec .l_reads (L - 1) p) (I : LrI S0 x0 w f ε S) {N : Env → Sto → Prop} {R : D → Sto → Prop} {X : Exn → Env → Sto → Prop}
    (hN : ∀ ε S, LrI S0 x0 w (addF f p.reads) ε S → N ε S) : (turn ⟨false, callF false (L - 1), callF false (L - 2)⟩ (.one 2) bLr p.d ε S).wp N R X := by
  obtain ⟨⟨y, z, rfl⟩, hw, hx, hlen, nd, ce⟩ := I
  obtain ⟨n1, c1⟩ := Pt.reads_ok d p hp
  have l1 := cells_len nd ce
  have l2 := cells_len n1 c1
  simp [bLr, seq_at, hw]
  refine (h S).use ?_
  rintro _ S1 ⟨⟨l, rfl, hl, h1⟩, x1⟩
  simp [seq_at, h1]
  have kw := lt_of_at hw
  refine wp_loopL (ds := ofT p.reads) (by simp; unfold FU; omega) (fun pre ε S2 => ∃ xs z, pre = ofT xs ∧ ε = ⟨[some x0, some (.ref w), some p.d, z], none⟩ ∧ S2.at w = some (.lst (ofT (addS f xs))) ∧ S2.at l = some (.lst (ofT p.reads)) ∧ Ext S0 S2) ⟨[], z, rfl, rfl, x1.at hw, h1, hx.trans x1⟩ ?_ ?_ ?_
  · rintro pre ε S2 ⟨xs, z, rfl, rfl, h2, h3, x2⟩
    simp [seq_at, h3]
  · rintro pre t post ε S2 N' e ⟨xs, z, rfl, rfl, h2, h3, x2⟩ hN'
    obtain ⟨a, t, b, e1, rfl, rfl, e2⟩ := ofT_mid e
    cases ofT_inj e1
    have k2 := lt_of_at h2
    have hin := isIn_lst S2 w t _ h2
    have hlen2 : (addS f xs).length ≤ 54 := by
      have hnd : xs.Nodup := by rw [e2] at n1; exact (List.nodup_append.mp n1).1
      rw [addS_addF _ _ hnd]
      exact cells_len (addF_nodup nd hnd) fun t ht => (mem_addF.mp ht).elim (ce t) fun ht => c1 t (by rw [e2]; simp [ht])
    simp only [bLr2, turn_one, put_eq, List.set]
    by_cases hm : t ∈ addS f xs
    · simp [hin, hm]
      refine hN' _ _ ⟨xs ++ [t], _, by simp [ofT], rfl, ?_, h3, x2⟩
      rw [addS_snoc, if_pos hm, h2]
    · have le : (addS f xs).length < 16777216 := by omega
      simp [hin, hm, seq_at, lst_at, h2, le]
      refine hN' _ _ ⟨xs ++ [t], _, by simp [ofT], rfl, ?_, ?_, x2.set hlen⟩
      · rw [addS_snoc, if_neg hm, at_self k2]
      · rw [at_ne (by omega)]; exact h3
  · rintro ε S2 ⟨xs, z, e, rfl, h2, h3, x2⟩
    cases ofT_inj e
    rw [addS_addF _ _ n1] at h2
    simp
    exact hN _ _ ⟨⟨_, _, rfl⟩, h2, x2, hlen, addF_nodup nd n1, fun t ht => (mem_addF.mp ht).elim (ce t) (c1 t)⟩
theorem l_reads_ok : ∀ (d : Nat) (p : Pt), p.ok d → ∀ {L : Nat} (hL : d + 5 ≤ L), RdSpec .l_reads L p
  | d, .num i, h, L, hL => fun S => by
    refine ends_callF (by omega) .l_reads _ S _ _ _ rfl rfl fun Q X hq => ?_
    simp [b_l_reads, Pt.d, sNum]
    exact hq _ _ ⟨⟨_, rfl, Nat.le_refl _, by simp [Pt.reads]⟩, .app⟩
  | d, .cell c r, h, L, hL => fun S => by
    refine ends_callF (by omega) .l_reads _ S _ _ _ rfl rfl fun Q X hq => ?_
    simp [b_l_reads, Pt.d, sCell]
    exact hq _ _ ⟨⟨_, rfl, Nat.le_refl _, by simp [Pt.reads, ofT]⟩, .app⟩
  | d, .sum c r c' r', h, L, hL => fun S => by
    have h : (c < 6 ∧ r < 9) ∧ c' < 6 ∧ r' < 9 := by cases d <;> exact h
    refine ends_callF (by omega) .l_reads _ S _ _ _ rfl rfl fun Q X hq => ?_
    simp [b_l_reads, Pt.d, sSum]
    refine (l_stretch_ok (L := L - 1) (by omega) S c r c' r' h.1.1 h.1.2 h.2.1 h.2.2).use ?_
    intro d' S' hd
    simp
    exact hq _ _ hd
  | d + 1, .op o a b, h, L, hL => fun S => by
    have i1 := l_reads_ok d a h.2.1 (L := L - 1) (by omega)
    have i2 := l_reads_ok d b h.2.2 (L := L - 1) (by omega)
    refine ends_callF (by omega) .l_reads _ S _ _ _ rfl rfl fun Q X hq => ?_
    have o1 : (opT o == ([110, 117, 109] : Tx)) = false := opT_num o
    have o2 : (opT o == ([99, 101, 108, 108] : Tx)) = false := by unfold opT; split <;> decide
    have o3 : (opT o == ([115, 117, 109] : Tx)) = false := by unfold opT; split <;> decide
    simp [b_l_reads, Pt.d, o1, o2, o3, slice_tl]
    rw [wp_cons]
    refine lr_turn (S0 := S) d a h.2.1 i1 ⟨⟨_, _, rfl⟩, at_new, .app, Nat.le_refl _, List.nodup_nil, fun t ht => by cases ht⟩ fun ε1 S1 I1 => ?_
    rw [kN_eq, wp_cons]
    refine lr_turn d b h.2.2 i2 I1 fun ε2 S2 I2 => ?_
    obtain ⟨⟨y, z, rfl⟩, hw, hx, hl, _, _⟩ := I2
    rw [kN_eq, wp_nil]
    simp
    exact hq _ _ ⟨⟨_, rfl, Nat.le_refl _, hw⟩, hx⟩
  | d + 1, .pick a b c e, h, L, hL => fun S => by
    have i1 := l_reads_ok d a h.1.1 (L := L - 1) (by omega)
    have i2 := l_reads_ok d b h.1.2 (L := L - 1) (by omega)
    have i3 := l_reads_ok d c h.2.1 (L := L - 1) (by omega)
    have i4 := l_reads_ok d e h.2.2 (L := L - 1) (by omega)
    refine ends_callF (by omega) .l_reads _ S _ _ _ rfl rfl fun Q X hq => ?_
    simp [b_l_reads, Pt.d, sPick, slice_tl]
    rw [wp_cons]
    refine lr_turn (S0 := S) d a h.1.1 i1 ⟨⟨_, _, rfl⟩, at_new, .app, Nat.le_refl _, List.nodup_nil, fun t ht => by cases ht⟩ fun ε1 S1 I1 => ?_
    rw [kN_eq, wp_cons]
    refine lr_turn d b h.1.2 i2 I1 fun ε2 S2 I2 => ?_
    rw [kN_eq, wp_cons]
    refine lr_turn d c h.2.1 i3 I2 fun ε3 S3 I3 => ?_
    rw [kN_eq, wp_cons]
    refine lr_turn d e h.2.2 i4 I3 fun ε4 S4 I4 => ?_
    obtain ⟨⟨y, z, rfl⟩, hw, hx, hl, _, _⟩ := I4
    rw [kN_eq, wp_nil]
    simp
    exact hq _ _ ⟨⟨_, rfl, Nat.le_refl _, hw⟩, hx⟩
/-! ### of contents -/
def Ct.reads : Option Pt → List Tx
  | none => []
  | some p => p.reads
theorem Ct.reads_ok (d : Nat) (c : Option Pt) (h : Ct.ok d c) : (Ct.reads c).Nodup ∧ ∀ t ∈ Ct.reads c, IsCell t := by
  cases c with
  | none => exact ⟨List.nodup_nil, fun t ht => by cases ht⟩
  | some p => exact Pt.reads_ok d p h
theorem ct_read_cells (d : Nat) (c : Option Pt) (h : Ct.ok d c) {L : Nat} (hL : d + 5 ≤ L) (S : Sto) : (callF false L .read_cells [Ct.d c] S).ends (NewL S (ofT (Ct.reads c))) := by
  cases c with
  | some p => exact read_cells_ok d p h hL S
  | none =>
    refine ends_callF (by omega) .read_cells _ S _ _ _ rfl rfl fun Q X hq => ?_
    simp [b_read_cells, Ct.d]
    exact hq _ _ ⟨⟨_, rfl, Nat.le_refl _, by simp [Ct.reads]⟩, .app⟩
theorem ct_l_reads (d : Nat) (c : Option Pt) (h : Ct.ok d c) {L : Nat} (hL : d + 5 ≤ L) (S : Sto) : (callF false L .l_reads [Ct.d c] S).ends (NewL S (ofT (Ct.reads c))) := by
  cases c with
  | some p => exact l_reads_ok d p h hL S
  | none =>
    refine ends_callF (by omega) .l_reads _ S _ _ _ rfl rfl fun Q X hq => ?_
    simp [b_l_reads, Ct.d]
    exact hq _ _ ⟨⟨_, rfl, Nat.le_refl _, by simp [Ct.reads]⟩, .app⟩
end Mi
end

section
set_option linter.all false
set_option maxRecDepth 100000
set_option Elab.async false
/-! the plain law: draws, by what they come to -/
namespace Mi
open PySem
/-- the draws' box, whatever it holds -/
def Bx (S : Sto) (b q : Nat) : Prop := ∃ ns n, Box S b q ns n
theorem Bx.fr {S S' : Sto} {b q : Nat} (B : Bx S b q) (h : Ext S S') : Bx S' b q := by
  obtain ⟨ns, n, B⟩ := B
  exact ⟨ns, n, h.at B.ab, h.at B.aq, B.ne⟩
theorem Bx.app {S G : Sto} {b q : Nat} (B : Bx S b q) : Bx (S ++ G) b q := B.fr .app
theorem Bx.lt {S : Sto} {b q : Nat} (B : Bx S b q) : b < S.length ∧ q < S.length := by
  obtain ⟨ns, n, B⟩ := B
  exact ⟨lt_of_at B.ab, lt_of_at B.aq⟩
theorem Fr.of {b q : Nat} {S S' : Sto} (h : Ext S S') : Fr b q S S' := ⟨h.len, fun l hl _ _ => h.at_ l hl⟩
theorem Fr.at {b q : Nat} {S S' : Sto} (h : Fr b q S S') {l : Nat} {o : Ob} (e : S.at l = some o) (h1 : l ≠ b) (h2 : l ≠ q) : S'.at l = some o := (h.at_ l (lt_of_at e) h1 h2).trans e
theorem take_wp {L : Nat} (hL : 2 ≤ L) {S : Sto} {b q : Nat} {m : Int} (B : Bx S b q) (hm : 0 < m) (hm2 : m < 1073741824) {Q : D → Sto → Prop} {X : Exn → Sto → Prop}
    (h : ∀ r S', 0 ≤ r → r < m → Bx S' b q → Fr b q S S' → Q (.int r) S') : (callF false L .l_take [.ref b, .int m] S).wp Q X := by
  obtain ⟨ns, n, B⟩ := B
  obtain ⟨r, S', ns', n', e, h1, h2, B', F⟩ := take_ok hL S b q ns n m B hm hm2
  rw [e]
  exact h r S' h1 h2 ⟨_, _, B'⟩ F
theorem cell_wp {L : Nat} (hL : 3 ≤ L) {S : Sto} {b q : Nat} (B : Bx S b q) {Q : D → Sto → Prop} {X : Exn → Sto → Prop}
    (h : ∀ c r S', c < 6 → r < 9 → Bx S' b q → Fr b q S S' → Q (.str (cellT c r)) S') : (callF false L .l_cell [.ref b] S).wp Q X := by
  obtain ⟨ns, n, B⟩ := B
  obtain ⟨c, r, S', ns', n', e, h1, h2, B', F⟩ := l_cell_ok hL S b q ns n B
  rw [e]
  exact h c r S' h1 h2 ⟨_, _, B'⟩ F
theorem content_wp (d : Nat) {L : Nat} (hL : d + 5 ≤ L) {S : Sto} {b q : Nat} (B : Bx S b q) {k : Int} (hk : k = d) {Q : D → Sto → Prop} {X : Exn → Sto → Prop}
    (h : ∀ c S', Ct.ok d c → Bx S' b q → Fr b q S S' → Q (Ct.d c) S') : (callF false L .l_content [.ref b, .int k] S).wp Q X := by
  subst hk
  obtain ⟨ns, n, B⟩ := B
  obtain ⟨c, S', ns', n', e, h1, B', F⟩ := l_content_ok d hL S b q ns n B
  rw [e]
  exact h c S' h1 ⟨_, _, B'⟩ F
theorem begun_wp {L : Nat} (hL : 2 ≤ L) (ns : List Int) (hn : ns.length ≤ 63) {Q : D → Sto → Prop} {X : Exn → Sto → Prop}
    (h : ∀ b q S', Bx S' b q → Q (.ref b) S') : (callF false L .l_begun [.ref 0] [.frl (ofI ns)]).wp Q X := by
  obtain ⟨b, q, S', n, e, B⟩ := begun_ok hL ns hn
  rw [e]
  exact h b q S' ⟨_, _, B⟩
theorem ct_read (d : Nat) (hd : d ≤ 4) (c : Option Pt) (h : Ct.ok d c) {L : Nat} (hL : d + 5 ≤ L) (S : Sto) : ∃ S', callF false L .read [.str (Ct.t c)] S = .ok (Ct.d c) S' ∧ Ext S S' := by
  cases c with
  | none => exact ⟨S, read_none (by omega) S, .refl⟩
  | some p =>
    by_cases hn : p.isNum = true
    · cases p with
      | num i =>
        have h : -999999 ≤ i ∧ i ≤ 999999 := by cases d <;> exact h
        exact ⟨S, read_num (by omega) S i h.1 h.2, .refl⟩
      | cell c r => cases hn
      | sum c r c' r' => cases hn
      | op o a b => cases hn
      | pick a b c e => cases hn
    · have hn : p.isNum = false := by simpa using hn
      obtain ⟨S', e, x⟩ := read_form d hd p h hn hL S
      refine ⟨S', ?_, x⟩
      cases p with
      | num i => cases hn
      | cell c r => exact e
      | sum c r c' r' => exact e
      | op o a b => exact e
      | pick a b c e' => exact e
theorem Ct.none_eq (c : Option Pt) (S : Sto) : cmpop .isN (Ct.d c) .non S = .ok (.bl c.isNone) S ∧ cmpop .notN (Ct.d c) .non S = .ok (.bl c.isSome) S := by
  cases c with
  | none => exact ⟨rfl, rfl⟩
  | some p => cases p <;> exact ⟨rfl, rfl⟩
theorem alike_ct (d : Nat) (c : Option Pt) (h : Ct.ok d c) (hc : c.isSome = true) {L : Nat} (hL : d + 3 ≤ L) (S : Sto) : callF false L .l_alike [Ct.d c, Ct.d c] S = .ok (.bl true) S := by
  cases c with
  | none => cases hc
  | some p => exact alike_pt d p h hL S
@[simp] theorem m0_lclear (S : Sto) (l : Nat) : m0 .lclear (.ref l) S = match S.lst l with | some _ => .ok .non (S.set l (.lst [])) | none => .bad := rfl
theorem Fr.set {b q : Nat} {S S1 : Sto} {w : Nat} {o : Ob} (h : Fr b q S S1) (hw : S.length ≤ w) : Fr b q S (S1.set w o) :=
  ⟨by simpa using h.len, fun l hl h1 h2 => (at_ne (by omega)).trans (h.at_ l hl h1 h2)⟩
theorem Bx.set {S : Sto} {b q w : Nat} {o : Ob} (B : Bx S b q) (h1 : w ≠ b) (h2 : w ≠ q) : Bx (S.set w o) b q := by
  obtain ⟨ns, n, hB⟩ := B
  exact ⟨ns, n, (at_ne h1).trans hB.ab, (at_ne h2).trans hB.aq, hB.ne⟩
end Mi
end

section
set_option linter.all false
set_option maxRecDepth 100000
set_option Elab.async false
/-! the plain law: dicts with texts as keys -/
namespace Mi
open PySem
abbrev Mp (α : Type) := List (Tx × α)
def keys {α : Type} (m : Mp α) : List Tx := m.map (·.1)
def mp {α : Type} (f : α → D) (m : Mp α) : List (Ky × D) := m.map fun kv => (.s kv.1, f kv.2)
def aget {α : Type} : Mp α → Tx → Option α
  | [], _ => none
  | (k, a) :: r, t => if k = t then some a else aget r t
def aput {α : Type} : Mp α → Tx → α → Mp α
  | [], t, a => [(t, a)]
  | (k, b) :: r, t, a => if k = t then (k, a) :: r else (k, b) :: aput r t a
def adrop {α : Type} (m : Mp α) (t : Tx) : Mp α := m.filter fun kv => decide (kv.1 ≠ t)
section
variable {α : Type} (f : α → D)
@[simp] theorem mp_nil : mp f [] = [] := rfl
@[simp] theorem mp_len (m : Mp α) : (mp f m).length = m.length := by simp [mp]
@[simp] theorem keys_len (m : Mp α) : (keys m).length = m.length := by simp [keys]
@[simp] theorem keys_nil : keys ([] : Mp α) = [] := rfl
theorem keys_cons (k : Tx) (a : α) (m : Mp α) : keys ((k, a) :: m) = k :: keys m := rfl
theorem mp_cons (k : Tx) (a : α) (m : Mp α) : mp f ((k, a) :: m) = (.s k, f a) :: mp f m := rfl
theorem mp_keys (m : Mp α) : (mp f m).map (fun kv => kv.1.d) = ofT (keys m) := by
  unfold mp keys ofT
  rw [List.map_map, List.map_map]
  rfl
theorem kget_mp (m : Mp α) (t : Tx) : kget (mp f m) (.s t) = (aget m t).map f := by
  induction m with
  | nil => rfl
  | cons kv m ih =>
    obtain ⟨k, a⟩ := kv
    unfold kget at ih ⊢
    rw [mp_cons, List.find?_cons, aget]
    by_cases h : k = t
    · subst h; simp
    · have : decide (Ky.s k = Ky.s t) = false := by simp [h]
      rw [this, if_neg h]
      exact ih
theorem aget_isSome {m : Mp α} {t : Tx} : (aget m t).isSome = true ↔ t ∈ keys m := by
  induction m with
  | nil => simp [aget]
  | cons kv m ih =>
    obtain ⟨k, a⟩ := kv
    rw [aget, keys_cons, List.mem_cons]
    by_cases h : k = t
    · subst h; simp
    · rw [if_neg h, ih]
      have : ¬ t = k := fun e => h e.symm
      simp [this]
theorem aget_none {m : Mp α} {t : Tx} : aget m t = none ↔ t ∉ keys m := by
  rw [← aget_isSome]
  cases aget m t <;> simp
theorem aget_mem {m : Mp α} {t : Tx} {a : α} (h : aget m t = some a) : (t, a) ∈ m := by
  induction m with
  | nil => simp [aget] at h
  | cons kv m ih =>
    obtain ⟨k, b⟩ := kv
    rw [aget] at h
    by_cases hk : k = t
    · subst hk; rw [if_pos rfl] at h; cases h; simp
    · rw [if_neg hk] at h; simp [ih h]
theorem aget_of_mem {m : Mp α} (hn : (keys m).Nodup) {t : Tx} {a : α} (h : (t, a) ∈ m) : aget m t = some a := by
  induction m with
  | nil => cases h
  | cons kv m ih =>
    obtain ⟨k, b⟩ := kv
    rw [keys_cons, List.nodup_cons] at hn
    rw [aget]
    rcases List.mem_cons.mp h with h | h
    · cases h; simp
    · have : k ≠ t := fun e => hn.1 (e ▸ List.mem_map.mpr ⟨_, h, rfl⟩)
      rw [if_neg this]
      exact ih hn.2 h
theorem mem_keys {m : Mp α} {t : Tx} : t ∈ keys m ↔ ∃ a, aget m t = some a := by
  rw [← aget_isSome, Option.isSome_iff_exists]
theorem aput_absent {m : Mp α} {t : Tx} (a : α) (h : t ∉ keys m) : aput m t a = m ++ [(t, a)] := by
  induction m with
  | nil => rfl
  | cons kv m ih =>
    obtain ⟨k, b⟩ := kv
    rw [keys_cons, List.mem_cons] at h
    have h1 : k ≠ t := fun e => h (.inl e.symm)
    rw [aput, if_neg h1, ih fun e => h (.inr e)]
    rfl
theorem keys_put (m : Mp α) (t : Tx) (a : α) : keys (aput m t a) = if t ∈ keys m then keys m else keys m ++ [t] := by
  induction m with
  | nil => rfl
  | cons kv m ih =>
    obtain ⟨k, b⟩ := kv
    rw [aput]
    by_cases h : k = t
    · subst h; simp [keys_cons]
    · have h2 : ¬ t = k := fun e => h e.symm
      rw [if_neg h, keys_cons, ih, keys_cons]
      by_cases hm : t ∈ keys m
      · simp [hm]
      · simp [hm, h2]
theorem mem_keys_put {m : Mp α} {t u : Tx} {a : α} : u ∈ keys (aput m t a) ↔ u = t ∨ u ∈ keys m := by
  rw [keys_put]
  split
  · constructor
    · exact .inr
    · rintro (rfl | h) <;> assumption
  · simp [or_comm]
theorem nodup_put {m : Mp α} (h : (keys m).Nodup) (t : Tx) (a : α) : (keys (aput m t a)).Nodup := by
  rw [keys_put]
  split
  · exact h
  · rename_i ht
    rw [List.nodup_append]
    exact ⟨h, by simp, fun x hx y hy e => by simp at hy; subst hy e; exact ht hx⟩
theorem aget_put (m : Mp α) (t u : Tx) (a : α) : aget (aput m t a) u = if t = u then some a else aget m u := by
  induction m with
  | nil => simp [aput, aget]
  | cons kv m ih =>
    obtain ⟨k, b⟩ := kv
    rw [aput]
    by_cases h : k = t
    · subst h
      rw [if_pos rfl, aget, aget]
      by_cases hu : k = u <;> simp [hu]
    · rw [if_neg h, aget, ih, aget]
      by_cases hu : k = u
      · have : ¬ t = u := fun e => h (hu.trans e.symm)
        simp [hu, this]
      · rw [if_neg hu, if_neg hu]
theorem keys_drop (m : Mp α) (t : Tx) : keys (adrop m t) = (keys m).filter fun u => decide (u ≠ t) := by
  unfold keys adrop
  rw [List.filter_map]
  rfl
theorem aget_drop (m : Mp α) (t u : Tx) : aget (adrop m t) u = if t = u then none else aget m u := by
  induction m with
  | nil => simp [adrop, aget]
  | cons kv m ih =>
    obtain ⟨k, b⟩ := kv
    unfold adrop at ih ⊢
    rw [List.filter_cons]
    by_cases h : k = t
    · subst h
      rw [if_neg (by simp), ih, aget]
      by_cases hu : k = u <;> simp [hu]
    · rw [if_pos (by simp [h]), aget, ih, aget]
      by_cases hu : k = u
      · have : ¬ t = u := fun e => h (hu.trans e.symm)
        simp [hu, this]
      · simp [hu]
theorem kany_mp (m : Mp α) (t : Tx) : ((mp f m).any fun kv => decide (kv.1 = .s t)) = decide (t ∈ keys m) := by
  induction m with
  | nil => rfl
  | cons kv m ih =>
    obtain ⟨k, b⟩ := kv
    rw [mp_cons, List.any_cons, ih, keys_cons]
    by_cases h : k = t
    · subst h; simp
    · have h2 : ¬ t = k := fun e => h e.symm
      simp [h, h2]
theorem kput_map (m : Mp α) (t : Tx) (a : α) (h : t ∈ keys m) (hn : (keys m).Nodup) : (mp f m).map (fun kv => if kv.1 = .s t then (kv.1, f a) else kv) = mp f (aput m t a) := by
  induction m with
  | nil => cases h
  | cons kv m ih =>
    obtain ⟨k, b⟩ := kv
    rw [keys_cons, List.nodup_cons] at hn
    rw [mp_cons, List.map_cons, aput]
    by_cases hk : k = t
    · subst hk
      rw [if_pos rfl, if_pos rfl, mp_cons]
      congr 1
      unfold mp
      rw [List.map_map]
      apply List.map_congr_left
      rintro ⟨u, c⟩ hu
      have : u ≠ k := fun e => hn.1 (e ▸ List.mem_map.mpr ⟨_, hu, rfl⟩)
      simp [this]
    · have h2 : ¬ t = k := fun e => hk e.symm
      rw [if_neg (by simp [hk]), if_neg hk, mp_cons]
      congr 1
      exact ih (by simpa [keys_cons, h2] using h) hn.2
theorem kput_mp (m : Mp α) (t : Tx) (a : α) (hn : (keys m).Nodup) : kput (mp f m) (.s t) (f a) = mp f (aput m t a) := by
  unfold kput
  rw [kany_mp]
  by_cases h : t ∈ keys m
  · rw [if_pos (by simp [h])]
    exact kput_map f m t a h hn
  · rw [if_neg (by simp [h]), aput_absent a h]
    simp [mp]
theorem kdrop_mp (m : Mp α) (t : Tx) : kdrop (mp f m) (.s t) = mp f (adrop m t) := by
  unfold kdrop mp adrop
  rw [List.filter_map]
  congr 1
  apply List.filter_congr
  rintro ⟨u, c⟩ _
  simp
end
/-! ### dicts of the store -/
/-- a dict, walked or not -/
def Dc (S : Sto) (l : Nat) (kvs : List (Ky × D)) : Prop := S.at l = some (.dct kvs) ∨ S.at l = some (.frd kvs)
theorem Dc.dic {S : Sto} {l : Nat} {kvs : List (Ky × D)} (h : Dc S l kvs) : S.dic l = some kvs := by rcases h with h | h <;> simp [dic_at, h]
theorem Dc.seq {S : Sto} {l : Nat} {kvs : List (Ky × D)} (h : Dc S l kvs) : S.seq l = none := by rcases h with h | h <;> simp [seq_at, h]
theorem Dc.ext {S S' : Sto} {l : Nat} {kvs : List (Ky × D)} (h : Dc S l kvs) (x : Ext S S') : Dc S' l kvs := h.elim (fun h => .inl (x.at h)) fun h => .inr (x.at h)
theorem Dc.lt {S : Sto} {l : Nat} {kvs : List (Ky × D)} (h : Dc S l kvs) : l < S.length := by rcases h with h | h <;> exact lt_of_at h
theorem Dc.of {S : Sto} {l : Nat} {kvs : List (Ky × D)} (h : S.at l = some (.dct kvs)) : Dc S l kvs := .inl h
section
variable {α : Type} {f : α → D} {S : Sto} {l : Nat} {m : Mp α}
theorem Dc.isDic (h : Dc S l (mp f m)) : isDic (.ref l) S = true := by simp [Mi.isDic, h.dic]
theorem dget_ok (h : Dc S l (mp f m)) {t : Tx} {a : α} (e : aget m t = some a) : getkey (.ref l) (.str t) S = .ok (f a) S := by
  simp [getkey, h.dic, D.key, kget_mp, e]
theorem get1_ok (h : Dc S l (mp f m)) (t : Tx) : m1 .get (.ref l) (.str t) S = .ok ((aget m t).elim .non f) S := by
  simp only [m1, h.dic, D.key, kget_mp]
  cases aget m t <;> rfl
theorem get2_ok (h : Dc S l (mp f m)) (t : Tx) (d : D) : m2 .get (.ref l) (.str t) d S = .ok ((aget m t).elim d f) S := by
  simp only [m2, h.dic, D.key, kget_mp]
  cases aget m t <;> rfl
theorem in_ok (h : Dc S l (mp f m)) (t : Tx) : isIn (.str t) (.ref l) S = some (decide (t ∈ keys m)) := by
  have : (aget m t).isSome = decide (t ∈ keys m) := by
    by_cases h : t ∈ keys m
    · simp only [h, aget_isSome.mpr h]; rfl
    · have h2 := aget_none.mpr h
      simp only [h, h2]; rfl
  simp only [isIn, h.seq, h.dic, D.key, kget_mp, ← this]
  cases aget m t <;> rfl
theorem setk_ok (h : S.at l = some (.dct (mp f m))) (t : Tx) (a : α) (hn : (keys m).Nodup) (hl : m.length < 16777216) : setkx (.ref l) (.str t) (f a) S = some (S.set l (.dct (mp f (aput m t a)))) := by
  simp [setkx, dct_at, h, D.key, kput_mp, hn, hl]
theorem dpop_ok (h : S.at l = some (.dct (mp f m))) {t : Tx} {a : α} (e : aget m t = some a) : m1 .dpop (.ref l) (.str t) S = .ok (f a) (S.set l (.dct (mp f (adrop m t)))) := by
  simp [m1, dct_at, h, D.key, kget_mp, e, kdrop_mp]
theorem dlen_ok (h : Dc S l (mp f m)) : b1 .len (.ref l) S = .ok (.int m.length) S := by
  simp [b1_len, h.seq, h.dic]
theorem dcopy_ok (h : Dc S l (mp f m)) : b1 .dct (.ref l) S = .ok (.ref S.length) (S ++ [.dct (mp f m)]) := by
  simp [b1, h.dic, new]
theorem dlst_ok (h : S.at l = some (.dct (mp f m))) : b1 .lst (.ref l) S = .ok (.ref S.length) (S ++ [.lst (ofT (keys m))]) := by
  have := (Dc.of h).seq
  simp [b1, this, dct_at, h, new, mp_keys]
theorem kIt_dic (h : S.at l = some (.dct (mp f m))) : kIt (.dic .non) (.ref l) S = .ok (.dic l (mp f m)) S := by
  have : toIt (.dic .non) [.ref l] S = some (.dic l (mp f m)) := by
    show (S.dct l).map _ = _
    simp [dct_at, h]
  rw [kIt_eq, this]
end
@[simp] theorem kDct_nil (S : Sto) : kDct [] S = .ok (.ref S.length) (S ++ [.dct []]) := rfl
theorem kDct_eq (ds : List D) (kvs : List (Ky × D)) (S : Sto) (h : pairUp ds = some kvs) : kDct ds S = .ok (.ref S.length) (S ++ [.dct (kvs.foldl (fun acc kv => kput acc kv.1 kv.2) [])]) := by
  unfold kDct
  rw [h]
  rfl
/-- a dict thaws -/
theorem Ext.thaw {S S' : Sto} {l : Nat} {kvs : List (Ky × D)} (h : S.at l = some (.dct kvs)) (x : Ext (S.set l (.frd kvs)) S') : Ext S (S'.set l (.dct kvs)) := by
  have hl := lt_of_at h
  refine ⟨by simpa using x.len, fun m hm => ?_⟩
  by_cases e : l = m
  · subst e
    have := x.len
    rw [at_self (by simp at this; omega), h]
  · rw [at_ne e, x.at_ m (by simpa using hm), at_ne e]
theorem wp_loopD {α : Type} {f : α → D} {m : Mp α} {body : D → Env → Sto → SR} {l : Nat} {ε : Env} {S : Sto} {N : Env → Sto → Prop} {R : D → Sto → Prop} {X : Exn → Env → Sto → Prop} (I : List Tx → Env → Sto → Prop) (h0 : I [] ε (S.set l (.frd (mp f m))))
    (hs : ∀ pre t post ε S (N' : Env → Sto → Prop), keys m = pre ++ t :: post → I pre ε S → (∀ ε' S', I (pre ++ [t]) ε' S' → N' ε' S') → (body (.str t) ε S).wp N' (fun _ _ => False) (fun _ _ _ => False))
    (he : ∀ ε S, I (keys m) ε S → N ε (S.set l (.dct (mp f m)))) : (loopI body (.dic l (mp f m)) ε S).wp N R X := by
  have e : loopI body (.dic l (mp f m)) ε S = match loopX body (ofT (keys m)) ε (S.set l (.frd (mp f m))) with
    | .nx ε' S' => .nx ε' (S'.set l (.dct (mp f m)))
    | _ => .bad := by
    rw [← mp_keys f m]
    rfl
  have h : (loopX body (ofT (keys m)) ε (S.set l (.frd (mp f m)))).wp (fun ε S => I (keys m) ε S) (fun _ _ => False) (fun _ _ _ => False) := by
    refine wp_loopX (fun pre ε S => ∃ ts, pre = ofT ts ∧ I ts ε S) ⟨[], rfl, h0⟩ ?_ ?_
    · rintro pre d post ε S N' e ⟨ts, rfl, hI⟩ hN
      obtain ⟨a, t, b, e1, rfl, rfl, e2⟩ := ofT_mid e
      cases ofT_inj e1
      exact hs _ t b ε S N' e2 hI fun ε' S' h => hN ε' S' ⟨_, by simp, h⟩
    · rintro ε S ⟨ts, e, hI⟩
      cases ofT_inj e
      exact hI
  rw [e]
  generalize loopX body (ofT (keys m)) ε (S.set l (.frd (mp f m))) = r at h
  cases r with
  | nx ε' S' => exact he ε' S' h
  | rt d S' => exact h.elim
  | ex x ε S' => exact h.elim
  | bad => exact h.elim
theorem wp_compD {α : Type} {f : α → D} {m : Mp α} {step : D → Sto → Res (Option D)} {l : Nat} {S : Sto} {Q : List D → Sto → Prop} {X : Exn → Sto → Prop} (hm : m.length < 16777216) (I : List Tx → List D → Sto → Prop) (h0 : I [] [] (S.set l (.frd (mp f m))))
    (hs : ∀ pre t post acc S (N' : Option D → Sto → Prop), keys m = pre ++ t :: post → I pre acc S → (∀ y S', I (pre ++ [t]) (acc ++ y.toList) S' → N' y S') → (step (.str t) S).wp N' (fun _ _ => False))
    (he : ∀ acc S, I (keys m) acc S → Q acc (S.set l (.dct (mp f m)))) : (compI step (.dic l (mp f m)) S).wp Q X := by
  have e : compI step (.dic l (mp f m)) S = match compX step (ofT (keys m)) [] (S.set l (.frd (mp f m))) with
    | .ok acc S' => .ok acc (S'.set l (.dct (mp f m)))
    | _ => .bad := by
    rw [← mp_keys f m]
    rfl
  have h : (compX step (ofT (keys m)) [] (S.set l (.frd (mp f m)))).wp (fun acc S => I (keys m) acc S) (fun _ _ => False) := by
    refine wp_compX (fun pre acc S => ∃ ts, pre = ofT ts ∧ I ts acc S) ⟨[], rfl, h0⟩ (by simpa using hm) ?_ ?_
    · rintro pre d post acc S N' e _ ⟨ts, rfl, hI⟩ hN
      obtain ⟨a, t, b, e1, rfl, rfl, e2⟩ := ofT_mid e
      cases ofT_inj e1
      exact hs _ t b acc S N' e2 hI fun y S' h => hN y S' ⟨_, by simp, h⟩
    · rintro acc S ⟨ts, e, hI⟩
      cases ofT_inj e
      exact hI
  rw [e]
  generalize compX step (ofT (keys m)) [] (S.set l (.frd (mp f m))) = r at h
  cases r with
  | ok a S' => exact he a S' h
  | ex x S' => exact h.elim
  | bad => exact h.elim
end Mi
end

section
set_option linter.all false
set_option maxRecDepth 100000
set_option Elab.async false
/-! the plain law: cells and words of any text -/
namespace Mi
open PySem
theorem isCell_dec (t : Tx) : (∃ c r, c < 6 ∧ r < 9 ∧ t = cellT c r) ↔ ∃ a b, t = [a, b] ∧ 97 ≤ a ∧ a < 103 ∧ 49 ≤ b ∧ b < 58 := by
  constructor
  · rintro ⟨c, r, hc, hr, rfl⟩
    exact ⟨97 + c, 49 + r, rfl, by omega, by omega, by omega, by omega⟩
  · rintro ⟨a, b, rfl, h1, h2, h3, h4⟩
    exact ⟨a - 97, b - 49, by omega, by omega, by simp [cellT]; omega⟩
theorem mem_cols (a : Nat) : a ∈ ([97, 98, 99, 100, 101, 102] : List Nat) ↔ 97 ≤ a ∧ a < 103 := by
  simp only [List.mem_cons, List.not_mem_nil, or_false]
  omega
theorem mem_rows (a : Nat) : a ∈ ([49, 50, 51, 52, 53, 54, 55, 56, 57] : List Nat) ↔ 49 ≤ a ∧ a < 58 := by
  simp only [List.mem_cons, List.not_mem_nil, or_false]
  omega
theorem need_cell_any {L : Nat} (hL : 2 ≤ L) (S : Sto) (t : Tx) (hl : t.length ≤ lim) : (IsCell t ∧ callF false L .need_cell [.str t] S = .ok .non S) ∨ (¬ IsCell t ∧ callF false L .need_cell [.str t] S = .ex ⟨.cell, none⟩ S) := by
  unfold IsCell
  rw [isCell_dec]
  by_cases h2 : t.length = 2
  · obtain ⟨a, b, rfl⟩ : ∃ a b, t = [a, b] := by
      match t, h2 with
      | [a, b], _ => exact ⟨a, b, rfl⟩
    by_cases ha : 97 ≤ a ∧ a < 103
    · by_cases hb : 49 ≤ b ∧ b < 58
      · left
        refine ⟨⟨a, b, rfl, ha.1, ha.2, hb.1, hb.2⟩, ?_⟩
        rw [callF_eqL (by omega) .need_cell _ S _ _ _ rfl rfl]
        simp [-List.mem_cons, b_need_cell, gval, mem_cols, mem_rows, ha, hb]
      · right
        refine ⟨?_, ?_⟩
        · rintro ⟨a', b', e, h⟩
          injection e with e1 e2
          injection e2 with e2
          subst e1 e2
          exact hb ⟨h.2.2.1, h.2.2.2⟩
        · rw [callF_eqL (by omega) .need_cell _ S _ _ _ rfl rfl]
          simp [-List.mem_cons, b_need_cell, gval, mem_cols, mem_rows, ha, hb]
    · right
      refine ⟨?_, ?_⟩
      · rintro ⟨a', b', e, h⟩
        injection e with e1 e2
        injection e2 with e2
        subst e1 e2
        exact ha ⟨h.1, h.2.1⟩
      · rw [callF_eqL (by omega) .need_cell _ S _ _ _ rfl rfl]
        simp [-List.mem_cons, b_need_cell, gval, mem_cols, mem_rows, ha]
  · right
    refine ⟨?_, ?_⟩
    · rintro ⟨a', b', rfl, h⟩
      exact h2 rfl
    · rw [callF_eqL (by omega) .need_cell _ S _ _ _ rfl rfl]
      have k : ((t.length : Int) == 2) = false := by simp; omega
      unfold lim at hl
      simp [-List.mem_cons, b_need_cell, hl, k]
/-- the reader's end -/
theorem rd_word_end {L : Nat} (hL : 2 ≤ L) (S : Sto) (l w : Nat) (ws : List Tx) (R : Rd S l w ws ws.length) : callF false L .rd_word [.ref l] S = .ex ⟨.form, none⟩ S := by
  rw [callF_eqL (by omega) .rd_word _ S _ _ _ rfl rfl]
  have hl := R.al
  have hw := R.aw
  simp only [rdO] at hl
  have hlen : (ofT ws).length = ws.length := by simp [ofT]
  simp [b_rd_word, ins_at', hl, seq_at, hw, hlen, fget]
/-- the next word, or none -/
theorem rd_word_any {L : Nat} (hL : 2 ≤ L) (S : Sto) (l w : Nat) (ws : List Tx) (n : Nat) (R : Rd S l w ws n) (hn : n ≤ ws.length) :
    (∃ t, ws[n]? = some t ∧ n < ws.length ∧ callF false L .rd_word [.ref l] S = .ok (.str t) (S.set l (rdO w (n + 1)))) ∨ callF false L .rd_word [.ref l] S = .ex ⟨.form, none⟩ S := by
  by_cases h : n < ws.length
  · exact .inl ⟨ws[n], List.getElem?_eq_getElem h, h, rd_word_ok hL S l w ws n R _ (List.getElem?_eq_getElem h)⟩
  · have : n = ws.length := by omega
    subst this
    exact .inr (rd_word_end hL S l w ws R)
theorem rd_cell_any {L : Nat} (hL : 3 ≤ L) (S : Sto) (l w : Nat) (ws : List Tx) (n : Nat) (R : Rd S l w ws n) (hn : n ≤ ws.length) (hs : ∀ t ∈ ws, t.length ≤ lim) :
    (∃ c r, c < 6 ∧ r < 9 ∧ ws[n]? = some (cellT c r) ∧ n < ws.length ∧ callF false L .rd_cell [.ref l] S = .ok (.str (cellT c r)) (S.set l (rdO w (n + 1)))) ∨ ∃ S', callF false L .rd_cell [.ref l] S = .ex ⟨.form, none⟩ S' ∧ Fr l l S S' := by
  have i1 := R.isI
  rcases rd_word_any (L := L - 1) (by omega) S l w ws n R hn with ⟨t, ht, hlt, e⟩ | e
  · rcases need_cell_any (L := L - 1) (by omega) (S.set l (rdO w (n + 1))) t (hs t (List.mem_of_getElem? ht)) with ⟨⟨c, r, hc, hr, rfl⟩, e2⟩ | ⟨_, e2⟩
    · exact .inl ⟨c, r, hc, hr, ht, hlt, rd_cell_ok hL S l w ws n R c r hc hr ht⟩
    · right
      refine ⟨S.set l (rdO w (n + 1)), ?_, Fr.setb⟩
      rw [callF_eqL (by omega) .rd_cell _ S _ _ _ rfl rfl]
      have e3 : ex ⟨false, callF false (L - 1), callF false (L - 2)⟩ (.tryX (.cons (.ex (.call .need_cell (.cons (.v 1) .nil))) .nil) .cell (.cons (.rse false .form) .nil)) ⟨[some (.ref l), some (.str t)], none⟩ (S.set l (rdO w (n + 1))) = .ex ⟨.form, none⟩ ⟨[some (.ref l), some (.str t)], none⟩ (S.set l (rdO w (n + 1))) := by
        have e4 : exs ⟨false, callF false (L - 1), callF false (L - 2)⟩ (.cons (.ex (.call .need_cell (.cons (.v 1) .nil))) .nil) ⟨[some (.ref l), some (.str t)], none⟩ (S.set l (rdO w (n + 1))) = .ex ⟨.cell, none⟩ ⟨[some (.ref l), some (.str t)], none⟩ (S.set l (rdO w (n + 1))) := by simp [e2]
        simp only [ex, e4]
        simp [Ec.sub]
      simp [b_rd_cell, clsOf, i1, e, e3]
  · right
    refine ⟨S, ?_, Fr.refl⟩
    rw [callF_eqL (by omega) .rd_cell _ S _ _ _ rfl rfl]
    simp [b_rd_cell, clsOf, i1, e]
end Mi
end

section
set_option linter.all false
set_option maxRecDepth 100000
set_option Elab.async false
/-! the plain law: numbers of any text -/
namespace Mi
open PySem
theorem digits_of : ∀ (k : Nat) (f : Tx), f.length = k + 1 → (∀ c ∈ f, 48 ≤ c ∧ c ≤ 57) → (∀ c r, f = c :: r → c = 48 → r = []) → digits (valDig f) = f
  | 0, f, hl, ha, hz => by
    match f, hl with
    | [c], _ =>
      have := ha c (by simp)
      have e : valDig [c] = c - 48 := by simp [valDig]
      rw [e, digits_small (by omega)]
      congr 1
      omega
  | k + 1, f, hl, ha, hz => by
    obtain ⟨g, c, rfl⟩ : ∃ g c, f = g ++ [c] := by
      have hne : f ≠ [] := by intro e; subst e; simp at hl
      exact ⟨f.dropLast, f.getLast hne, (List.dropLast_concat_getLast hne).symm⟩
    have hg : g.length = k + 1 := by simpa using hl
    have hz' : ∀ d r, g = d :: r → d ≠ 48 := by
      intro d r e h
      have := hz d (r ++ [c]) (by rw [e]; rfl) h
      simp at this
    have ih := digits_of k g hg (fun c hc => ha c (by simp [hc])) fun d r e h => absurd h (hz' d r e)
    have hc := ha c (by simp)
    have e : valDig (g ++ [c]) = valDig g * 10 + (c - 48) := by simp [valDig]
    have pos : 0 < valDig g := by
      rcases Nat.eq_zero_or_pos (valDig g) with h | h
      · rw [h] at ih
        have d0 : digits 0 = [48] := rfl
        rw [d0] at ih
        exact absurd rfl (hz' 48 [] ih.symm)
      · exact h
    rw [e, digits_step (by omega), show (valDig g * 10 + (c - 48)) / 10 = valDig g by omega, show (valDig g * 10 + (c - 48)) % 10 = c - 48 by omega, ih]
    congr 2
    omega
theorem valDig_ltk : ∀ (k : Nat) (f : Tx), f.length = k → (∀ c ∈ f, 48 ≤ c ∧ c ≤ 57) → valDig f < 10 ^ k
  | 0, f, hl, _ => by
    have : f = [] := List.eq_nil_of_length_eq_zero hl
    subst this
    simp [valDig]
  | k + 1, f, hl, h => by
    obtain ⟨g, c, rfl⟩ : ∃ g c, f = g ++ [c] := by
      have hne : f ≠ [] := by intro e; subst e; simp at hl
      exact ⟨f.dropLast, f.getLast hne, (List.dropLast_concat_getLast hne).symm⟩
    have h1 := valDig_ltk k g (by simpa using hl) fun d hd => h d (by simp [hd])
    have hc := h c (by simp)
    have e : valDig (g ++ [c]) = valDig g * 10 + (c - 48) := by simp [valDig]
    rw [e, Nat.pow_succ]
    omega
theorem valDig_lt (f : Tx) (h : ∀ c ∈ f, 48 ≤ c ∧ c ≤ 57) : valDig f < 10 ^ f.length := valDig_ltk _ f rfl h
theorem fig_bad (C : Cf) (w fg : D) (S : Sto) : ∀ (t : Tx) (h : ¬ ∀ c ∈ t, 48 ≤ c ∧ c ≤ 57) (x : Option D),
  loopX (turn C (.one 2) (.cons (.iff (.cmp .notin (.v 2) (.g .figures)) (.cons (.ret .non) .nil) .nil) .nil)) (t.map fun c => .str [c]) ⟨[some w, some fg, x], none⟩ S = .rt .non S
  | [], h, x => absurd (fun c hc => by cases hc) h
  | c :: r, h, x => by
    rw [List.map_cons, loopX]
    by_cases hc : 48 ≤ c ∧ c ≤ 57
    · have m : c ∈ ([48, 49, 50, 51, 52, 53, 54, 55, 56, 57] : List Nat) := by
        simp only [List.mem_cons, List.not_mem_nil, or_false]
        omega
      have e := fig_bad C w fg S r (fun h' => h fun d hd => by
        rcases List.mem_cons.mp hd with rfl | hd
        · exact hc
        · exact h' d hd) (some (.str [c]))
      simp [-List.mem_cons, gval, m, e]
    · have m : c ∉ ([48, 49, 50, 51, 52, 53, 54, 55, 56, 57] : List Nat) := by
        simp only [List.mem_cons, List.not_mem_nil, or_false]
        omega
      simp [-List.mem_cons, gval, m]
theorem strI_pos (f : Tx) (hl : 1 ≤ f.length) (ha : ∀ c ∈ f, 48 ≤ c ∧ c ≤ 57) (hz : ∀ c r, f = c :: r → c = 48 → r = []) : strI (valDig f : Int) = f := by
  have := digits_of (f.length - 1) f (by omega) ha hz
  unfold strI
  rw [if_neg (by omega)]
  simpa using this
theorem strI_neg (f : Tx) (hl : 1 ≤ f.length) (ha : ∀ c ∈ f, 48 ≤ c ∧ c ≤ 57) (hz : ∀ c r, f = c :: r → c ≠ 48) : strI (-(valDig f : Int)) = 45 :: f := by
  have := digits_of (f.length - 1) f (by omega) ha fun c r e h => absurd h (hz c r e)
  have pos : valDig f ≠ 0 := fun h => by
    rw [h] at this
    exact hz 48 [] this.symm rfl
  unfold strI
  rw [if_pos (by omega)]
  simpa using this
theorem number_of_any {L : Nat} (hL : 2 ≤ L) (S : Sto) (t : Tx) (hl : t.length ≤ lim) : (∃ i : Int, -999999 ≤ i ∧ i ≤ 999999 ∧ t = strI i ∧ callF false L .number_of [.str t] S = .ok (.int i) S) ∨ ((∀ i : Int, -999999 ≤ i → i ≤ 999999 → t ≠ strI i) ∧ callF false L .number_of [.str t] S = .ok .non S) := by
  by_cases hi : ∃ i : Int, -999999 ≤ i ∧ i ≤ 999999 ∧ t = strI i
  · obtain ⟨i, h1, h2, rfl⟩ := hi
    exact .inl ⟨i, h1, h2, rfl, number_of_ok hL S i h1 h2⟩
  right
  refine ⟨fun i h1 h2 e => hi ⟨i, h1, h2, e⟩, ?_⟩
  rw [callF_eqL (by omega) .number_of _ S _ _ _ rfl rfl]
  unfold lim at hl
  match t, hl, hi with
  | [], hl, hi =>
    have s1 : slice (.str []) none (some 1) S = .ok (.str []) S := by simp [slice, cut]
    simp [b_number_of, s1, gval]
  | 45 :: f, hl, hi =>
    have s1 := sl_hd S 45 f hl
    have s2 := sl_tl S 45 f hl
    simp at hl
    match f, hl, hi, s1, s2 with
    | [], hl, hi, s1, s2 => simp [b_number_of, s1, s2, gval]
    | c :: r, hl, hi, s1, s2 =>
      simp at hl
      have k5 : r.length + 1 ≤ 16777216 := by omega
      by_cases h6 : r.length + 1 ≤ 6
      · have h6' : (r.length : Int) + 1 ≤ 6 := by omega
        have k3 : (1 : Int) ≤ r.length + 1 := by omega
        by_cases hc : c = 48
        · subst hc
          simp [b_number_of, s1, s2, gval, h6', k3, k5]
        · have k2 : ([c] == ([48] : Tx)) = false := by simpa using hc
          by_cases ha : ∀ d ∈ c :: r, 48 ≤ d ∧ d ≤ 57
          · exfalso
            have lt := valDig_lt (c :: r) ha
            have : (10 : Nat) ^ (c :: r).length ≤ 10 ^ 6 := Nat.pow_le_pow_right (by decide) (by simpa using h6)
            exact hi ⟨-(valDig (c :: r) : Int), by omega, by omega, (strI_neg (c :: r) (by simp) ha fun d r' e h => by injection e with e1 _; exact hc (e1.trans h)).symm⟩
          · have ey := fig_bad ⟨false, callF false (L - 1), callF false (L - 2)⟩ (.str (45 :: c :: r)) (.str (c :: r)) S (c :: r) ha none
            simp only [List.map_cons] at ey
            simp [b_number_of, s1, s2, gval, h6', k2, k3, k5, loopI, ey]
      · have h6' : ¬ ((r.length : Int) + 1 ≤ 6) := by omega
        have k3 : (1 : Int) ≤ r.length + 1 := by omega
        simp [b_number_of, s1, s2, gval, h6', k3, k5]
  | c :: r, hl, hi =>
    by_cases h45 : c = 45
    · subst h45
      have s1 := sl_hd S 45 r hl
      have s2 := sl_tl S 45 r hl
      simp at hl
      match r, hl, hi, s1, s2 with
      | [], hl, hi, s1, s2 => simp [b_number_of, s1, s2, gval]
      | c :: r, hl, hi, s1, s2 =>
        simp at hl
        have k5 : r.length + 1 ≤ 16777216 := by omega
        by_cases h6 : r.length + 1 ≤ 6
        · have h6' : (r.length : Int) + 1 ≤ 6 := by omega
          have k3 : (1 : Int) ≤ r.length + 1 := by omega
          by_cases hc : c = 48
          · subst hc
            simp [b_number_of, s1, s2, gval, h6', k3, k5]
          · have k2 : ([c] == ([48] : Tx)) = false := by simpa using hc
            by_cases ha : ∀ d ∈ c :: r, 48 ≤ d ∧ d ≤ 57
            · exfalso
              have lt := valDig_lt (c :: r) ha
              have : (10 : Nat) ^ (c :: r).length ≤ 10 ^ 6 := Nat.pow_le_pow_right (by decide) (by simpa using h6)
              exact hi ⟨-(valDig (c :: r) : Int), by omega, by omega, (strI_neg (c :: r) (by simp) ha fun d r' e h => by injection e with e1 _; exact hc (e1.trans h)).symm⟩
            · have ey := fig_bad ⟨false, callF false (L - 1), callF false (L - 2)⟩ (.str (45 :: c :: r)) (.str (c :: r)) S (c :: r) ha none
              simp only [List.map_cons] at ey
              simp [b_number_of, s1, s2, gval, h6', k2, k3, k5, loopI, ey]
        · have h6' : ¬ ((r.length : Int) + 1 ≤ 6) := by omega
          have k3 : (1 : Int) ≤ r.length + 1 := by omega
          simp [b_number_of, s1, s2, gval, h6', k3, k5]
    · have s1 := sl_hd S c r hl
      have k0 : ([c] == ([45] : Tx)) = false := by simpa using h45
      simp at hl
      have k5 : r.length + 1 ≤ 16777216 := by omega
      by_cases h6 : r.length + 1 ≤ 6
      · have h6' : (r.length : Int) + 1 ≤ 6 := by omega
        have k3 : (1 : Int) ≤ r.length + 1 := by omega
        by_cases hz : c = 48 ∧ r ≠ []
        · obtain ⟨rfl, hr⟩ := hz
          have k4 : ((48 :: r : Tx) == ([48] : Tx)) = false := by simpa using hr
          simp [b_number_of, s1, k0, gval, h6', k3, k5, k4, hr]
        · by_cases ha : ∀ d ∈ c :: r, 48 ≤ d ∧ d ≤ 57
          · exfalso
            have lt := valDig_lt (c :: r) ha
            have : (10 : Nat) ^ (c :: r).length ≤ 10 ^ 6 := Nat.pow_le_pow_right (by decide) (by simpa using h6)
            exact hi ⟨(valDig (c :: r) : Int), by omega, by omega, (strI_pos (c :: r) (by simp) ha fun d r' e h => by
              injection e with e1 e2
              subst e1 e2
              by_cases hr : r = []
              · exact hr
              · exact absurd ⟨h, hr⟩ hz).symm⟩
          · have ey := fig_bad ⟨false, callF false (L - 1), callF false (L - 2)⟩ (.str (c :: r)) (.str (c :: r)) S (c :: r) ha none
            simp only [List.map_cons] at ey
            by_cases hc : c = 48
            · have hr : r = [] := by
                by_cases hr : r = []
                · exact hr
                · exact absurd ⟨hc, hr⟩ hz
              subst hc hr
              exact absurd (fun d hd => by simp at hd; omega) ha
            · have k2 : ([c] == ([48] : Tx)) = false := by simpa using hc
              simp [b_number_of, s1, k0, gval, h6', k2, k3, k5, loopI, ey]
      · have h6' : ¬ ((r.length : Int) + 1 ≤ 6) := by omega
        have k3 : (1 : Int) ≤ r.length + 1 := by omega
        simp [b_number_of, s1, k0, gval, h6', k3, k5]
end Mi
end

section
set_option linter.all false
set_option maxRecDepth 100000
set_option Elab.async false
/-! the plain law: parts of any words -/
namespace Mi
open PySem
theorem partsOf_cases (t : Tx) : partsOf t = none ∨ (∃ o, o < 3 ∧ t = opT o) ∨ t = sPick := by
  unfold partsOf
  by_cases h1 : t = [97, 100, 100]
  · exact .inr (.inl ⟨0, by decide, h1⟩)
  by_cases h2 : t = [115, 117, 98]
  · exact .inr (.inl ⟨1, by decide, h2⟩)
  by_cases h3 : t = [109, 117, 108]
  · exact .inr (.inl ⟨2, by decide, h3⟩)
  by_cases h4 : t = [112, 105, 99, 107]
  · exact .inr (.inr h4)
  simp [h1, h2, h3, h4]
theorem drop_get {ws : List Tx} {n : Nat} {t : Tx} (h : ws[n]? = some t) : ws.drop n = t :: ws.drop (n + 1) := by
  have hn : n < ws.length := (List.getElem?_eq_some_iff.mp h).1
  rw [List.drop_eq_getElem_cons hn]
  congr 1
  rw [List.getElem?_eq_getElem hn] at h
  exact Option.some.inj h
theorem drop_le {ws a r : List Tx} {n : Nat} (hn : n ≤ ws.length) (h : ws.drop n = a ++ r) : n + a.length ≤ ws.length := by
  have := congrArg List.length h
  rw [List.length_drop, List.length_append] at this
  omega
/-- what reading a part comes to -/
def PartR (l w : Nat) (ws : List Tx) (d n : Nat) (S : Sto) (r : Res D) : Prop :=
  (∃ (p : Pt) (S' : Sto) (rest : List Tx), r = .ok p.d S' ∧ p.ok d ∧ Rd S' l w ws (n + p.w.length) ∧ Fr l l S S' ∧ ws.drop n = p.w ++ rest ∧ n + p.w.length ≤ ws.length) ∨ ∃ S' : Sto, r = .ex ⟨.form, none⟩ S' ∧ Fr l l S S'
theorem rd_part_deep {L : Nat} (hL : 2 ≤ L) (S : Sto) (l : Nat) (k : Int) (hk : 5 < k) : callF false L .rd_part [.ref l, .int k] S = .ex ⟨.form, none⟩ S := by
  rw [callF_eqL (by omega) .rd_part _ S _ _ _ rfl rfl]
  simp [b_rd_part, gval, hk]
section
variable (l w : Nat) (ws : List Tx) (hs : ∀ t ∈ ws, t.length ≤ lim)
include hs
/-- words that are no parts' names -/
theorem rd_part_low (d : Nat) {L : Nat} (hL : 5 ≤ L) (S : Sto) (n : Nat) (k : Int) (hk : k ≤ 5) (R : Rd S l w ws n) (t : Tx) (ht : ws[n]? = some t) (hp : partsOf t = none) : PartR l w ws d n S (callF false L .rd_part [.ref l, .int k] S) := by
  have hlt : n < ws.length := (List.getElem?_eq_some_iff.mp ht).1
  have e1 := rd_word_ok (L := L - 1) (by omega) S l w ws n R _ ht
  have R1 := R.set (n + 1)
  have i1 := R.isI
  have i2 := R1.isI
  have k1 : ¬ 5 < k := by omega
  have hd := drop_get ht
  rw [callF_eqL (by omega) .rd_part _ S _ _ _ rfl rfl]
  by_cases hsum : t = sSum
  · subst hsum
    have e1' := e1
    simp only [sSum] at e1' 
    rcases rd_cell_any (L := L - 1) (by omega) _ l w ws (n + 1) R1 (by omega) hs with ⟨c, r, hc, hr, h2, hlt2, e2⟩ | ⟨S2, e2, F2⟩
    · have R2 := R1.set (n + 2)
      have i3 := R2.isI
      rcases rd_cell_any (L := L - 1) (by omega) _ l w ws (n + 2) R2 (by omega) hs with ⟨c', r', hc', hr', h3, hlt3, e3⟩ | ⟨S3, e3, F3⟩
      · left
        refine ⟨.sum c r c' r', _, ws.drop (n + 3), ?_, by cases d <;> exact ⟨⟨hc, hr⟩, hc', hr'⟩, R2.set (n + 3), (Fr.setb.trans Fr.setb).trans Fr.setb, ?_, by simp [Pt.w]; omega⟩
        · simp at e1' e2 e3 i2 i3
          simp [b_rd_part, gval, clsOf, i1, i2, i3, k1, e1', e2, e3, Pt.d, sSum, partsOf]
        · rw [hd, drop_get h2, drop_get h3]
          rfl
      · right
        refine ⟨S3, ?_, (Fr.setb.trans Fr.setb).trans F3⟩
        try simp at e1' e2 e3 i2 i3
        simp [b_rd_part, gval, clsOf, i1, i2, i3, k1, e1', e2, e3, partsOf]
    · right
      refine ⟨S2, ?_, Fr.setb.trans F2⟩
      try simp at e1' e2 i2
      simp [b_rd_part, gval, clsOf, i1, i2, k1, e1', e2, partsOf]
  · have p2 : (t == ([115, 117, 109] : Tx)) = false := by simpa [sSum] using hsum
    rcases number_of_any (L := L - 1) (by omega) (S.set l (rdO w (n + 1))) t (hs t (List.mem_of_getElem? ht)) with ⟨i, h1, h2, rfl, e2⟩ | ⟨hno, e2⟩
    · left
      refine ⟨.num i, _, ws.drop (n + 1), ?_, by cases d <;> exact ⟨h1, h2⟩, R1, Fr.setb, by rw [hd]; rfl, by simp [Pt.w]; omega⟩
      simp [b_rd_part, gval, clsOf, i1, k1, e1, e2, hp, p2, Pt.d, sNum]
    · have R2 := R1.set n
      have i3 := R2.isI
      have al : Sto.at (S.set l (rdO w (n + 1))) l = some (.ins .reader [(.words, .ref w), (.at_, .int ((n + 1 : Nat) : Int))]) := R1.al
      rcases rd_cell_any (L := L - 1) (by omega) _ l w ws n R2 (by omega) hs with ⟨c, r, hc, hr, h2, hlt2, e3⟩ | ⟨S3, e3, F3⟩
      · rw [ht] at h2
        have h2 : t = cellT c r := Option.some.inj h2
        subst h2
        left
        refine ⟨.cell c r, _, ws.drop (n + 1), ?_, by cases d <;> exact ⟨hc, hr⟩, R2.set _, (Fr.setb.trans Fr.setb).trans Fr.setb, by rw [hd]; rfl, by simp [Pt.w]; omega⟩
        simp only [rdO] at e1 e2 e3 i3 al ⊢
        simp at e1 e2 e3 i3 al ⊢
        simp [b_rd_part, gval, clsOf, i1, i3, k1, e1, e2, e3, hp, p2, Pt.d, Pt.w, sCell, ins_at', al, fget, fput]
      · right
        refine ⟨S3, ?_, (Fr.setb.trans Fr.setb).trans F3⟩
        simp only [rdO] at e1 e2 e3 i3 al ⊢
        simp at e1 e2 e3 i3 al ⊢
        simp [b_rd_part, gval, clsOf, i1, i3, k1, e1, e2, e3, hp, p2, ins_at', al, fget, fput]
theorem rd_part_any : ∀ (d : Nat) {L : Nat} (hL : d + 5 ≤ L) (S : Sto) (n : Nat) (k : Int) (hk : k + d = 5) (R : Rd S l w ws n) (hn : n ≤ ws.length), PartR l w ws d n S (callF false L .rd_part [.ref l, .int k] S) := by
  intro d
  induction d with
  | zero =>
    intro L hL S n k hk R hn
    rcases rd_word_any (L := L - 1) (by omega) S l w ws n R hn with ⟨t, ht, hlt, e1⟩ | e1
    · rcases partsOf_cases t with hp | ⟨o, ho, rfl⟩ | rfl
      · exact rd_part_low l w ws hs 0 (by omega) S n k (by omega) R t ht hp
      · right
        refine ⟨S.set l (rdO w (n + 1)), ?_, Fr.setb⟩
        rw [callF_eqL (by omega) .rd_part _ S _ _ _ rfl rfl]
        have i1 := R.isI
        have i2 := (R.set (n + 1)).isI
        have k1 : ¬ 5 < k := by omega
        have p1 : partsOf (opT o) = some 2 := by unfold opT; split <;> rfl
        have e2 := rd_part_deep (L := L - 1) (by omega) (S.set l (rdO w (n + 1))) l (k + 1) (by omega)
        simp [b_rd_part, gval, clsOf, i1, i2, k1, e1, e2, p1, compI, compX]
      · right
        refine ⟨S.set l (rdO w (n + 1)), ?_, Fr.setb⟩
        rw [callF_eqL (by omega) .rd_part _ S _ _ _ rfl rfl]
        have i1 := R.isI
        have i2 := (R.set (n + 1)).isI
        have k1 : ¬ 5 < k := by omega
        have p1 : partsOf sPick = some 4 := rfl
        have e2 := rd_part_deep (L := L - 1) (by omega) (S.set l (rdO w (n + 1))) l (k + 1) (by omega)
        simp [b_rd_part, gval, clsOf, i1, i2, k1, e1, e2, p1, compI, compX]
    · right
      refine ⟨S, ?_, Fr.refl⟩
      rw [callF_eqL (by omega) .rd_part _ S _ _ _ rfl rfl]
      have i1 := R.isI
      have k1 : ¬ 5 < k := by omega
      simp [b_rd_part, gval, clsOf, i1, k1, e1]
  | succ d ih =>
    intro L hL S n k hk R hn
    rcases rd_word_any (L := L - 1) (by omega) S l w ws n R hn with ⟨t, ht, hlt, e1⟩ | e1
    · have hd := drop_get ht
      have R1 := R.set (n + 1)
      have i1 := R.isI
      have i2 := R1.isI
      have k1 : ¬ 5 < k := by omega
      rcases partsOf_cases t with hp | ⟨o, ho, rfl⟩ | rfl
      · exact rd_part_low l w ws hs (d + 1) (by omega) S n k (by omega) R t ht hp
      · have p1 : partsOf (opT o) = some 2 := by unfold opT; split <;> rfl
        rw [callF_eqL (by omega) .rd_part _ S _ _ _ rfl rfl]
        rcases ih (L := L - 1) (by omega) _ (n + 1) (k + 1) (by omega) R1 (by omega) with ⟨a, S2, r2, e2, o2, R2, F2, d2, n2⟩ | ⟨S2, e2, F2⟩
        · have i3 := R2.isI
          rcases ih (L := L - 1) (by omega) S2 (n + 1 + a.w.length) (k + 1) (by omega) R2 n2 with ⟨b, S3, r3, e3, o3, R3, F3, d3, n3⟩ | ⟨S3, e3, F3⟩
          · left
            have hn' : n + (Pt.op o a b).w.length = n + 1 + a.w.length + b.w.length := by simp [Pt.w]; omega
            refine ⟨.op o a b, S3 ++ [.lst [a.d, b.d]], r3, ?_, ⟨ho, o2, o3⟩, by rw [hn']; exact R3.ext .app, ((Fr.setb.trans F2).trans F3).trans .app, ?_, by omega⟩
            · simp [b_rd_part, gval, clsOf, i1, i2, i3, k1, e1, e2, e3, p1, Pt.d, compI, compX, accd, b1, seq_at, binop]
            · have := drop_app d2
              rw [d3] at this
              rw [hd, d2, ← this]
              simp [Pt.w]
          · right
            refine ⟨S3, ?_, (Fr.setb.trans F2).trans F3⟩
            simp [b_rd_part, gval, clsOf, i1, i2, i3, k1, e1, e2, e3, p1, compI, compX, accd]
        · right
          refine ⟨S2, ?_, Fr.setb.trans F2⟩
          simp [b_rd_part, gval, clsOf, i1, i2, k1, e1, e2, p1, compI, compX, accd]
      · have p1 : partsOf sPick = some 4 := rfl
        rw [callF_eqL (by omega) .rd_part _ S _ _ _ rfl rfl]
        rcases ih (L := L - 1) (by omega) _ (n + 1) (k + 1) (by omega) R1 (by omega) with ⟨a, S2, r2, e2, o2, R2, F2, d2, n2⟩ | ⟨S2, e2, F2⟩
        · have i3 := R2.isI
          rcases ih (L := L - 1) (by omega) S2 (n + 1 + a.w.length) (k + 1) (by omega) R2 n2 with ⟨b, S3, r3, e3, o3, R3, F3, d3, n3⟩ | ⟨S3, e3, F3⟩
          · have i4 := R3.isI
            rcases ih (L := L - 1) (by omega) S3 (n + 1 + a.w.length + b.w.length) (k + 1) (by omega) R3 n3 with ⟨c, S4, r4, e4, o4, R4, F4, d4, n4⟩ | ⟨S4, e4, F4⟩
            · have i5 := R4.isI
              rcases ih (L := L - 1) (by omega) S4 (n + 1 + a.w.length + b.w.length + c.w.length) (k + 1) (by omega) R4 n4 with ⟨e, S5, r5, e5, o5, R5, F5, d5, n5⟩ | ⟨S5, e5, F5⟩
              · left
                have hn' : n + (Pt.pick a b c e).w.length = n + 1 + a.w.length + b.w.length + c.w.length + e.w.length := by simp [Pt.w]; omega
                refine ⟨.pick a b c e, S5 ++ [.lst [a.d, b.d, c.d, e.d]], r5, ?_, ⟨⟨o2, o3⟩, o4, o5⟩, by rw [hn']; exact R5.ext .app, ((((Fr.setb.trans F2).trans F3).trans F4).trans F5).trans .app, ?_, by omega⟩
                · simp [b_rd_part, gval, clsOf, i1, i2, i3, i4, i5, k1, e1, e2, e3, e4, e5, p1, Pt.d, compI, compX, accd, b1, seq_at, binop]
                · have q2 := drop_app d2
                  have q3 := drop_app d3
                  have q4 := drop_app d4
                  rw [d3] at q2
                  rw [d4] at q3
                  rw [d5] at q4
                  rw [hd, d2, ← q2, ← q3, ← q4]
                  simp [Pt.w]
              · right
                refine ⟨S5, ?_, (((Fr.setb.trans F2).trans F3).trans F4).trans F5⟩
                simp [b_rd_part, gval, clsOf, i1, i2, i3, i4, i5, k1, e1, e2, e3, e4, e5, p1, compI, compX, accd]
            · right
              refine ⟨S4, ?_, ((Fr.setb.trans F2).trans F3).trans F4⟩
              simp [b_rd_part, gval, clsOf, i1, i2, i3, i4, k1, e1, e2, e3, e4, p1, compI, compX, accd]
          · right
            refine ⟨S3, ?_, (Fr.setb.trans F2).trans F3⟩
            simp [b_rd_part, gval, clsOf, i1, i2, i3, k1, e1, e2, e3, p1, compI, compX, accd]
        · right
          refine ⟨S2, ?_, Fr.setb.trans F2⟩
          simp [b_rd_part, gval, clsOf, i1, i2, k1, e1, e2, p1, compI, compX, accd]
    · right
      refine ⟨S, ?_, Fr.refl⟩
      rw [callF_eqL (by omega) .rd_part _ S _ _ _ rfl rfl]
      have i1 := R.isI
      have k1 : ¬ 5 < k := by omega
      simp [b_rd_part, gval, clsOf, i1, k1, e1]
end
end Mi
end

section
set_option linter.all false
set_option maxRecDepth 100000
set_option Elab.async false
/-! the plain law: read of any text -/
namespace Mi
open PySem
theorem spl_ne (t acc : Tx) : ∃ a r, TL.spl [32] 0 acc t = a :: r := by
  induction t generalizing acc with
  | nil => exact ⟨acc, [], TL.spl_nil _ _ _⟩
  | cons c t ih =>
    by_cases h : TL.pre [32] (c :: t) = true
    · exact ⟨_, _, TL.spl_hit h⟩
    · rw [TL.spl_miss (by simpa using h)]
      exact ih _
theorem join_cons2 (s a : Tx) (l : List Tx) (h : ∃ b r, l = b :: r) : TL.joinL s (a :: l) = a ++ s ++ TL.joinL s l := by
  obtain ⟨b, r, rfl⟩ := h
  simp [TL.joinL]
theorem join_spl (t acc : Tx) : TL.joinL [32] (TL.spl [32] 0 acc t) = acc ++ t := by
  induction t generalizing acc with
  | nil => rw [TL.spl_nil]; simp [TL.joinL]
  | cons c t ih =>
    by_cases h : TL.pre [32] (c :: t) = true
    · have hc : c = 32 := by
        simp [TL.pre] at h
        omega
      subst hc
      rw [TL.spl_hit h]
      show TL.joinL [32] (acc :: TL.spl [32] 0 [] t) = _
      rw [join_cons2 _ _ _ (spl_ne t []), ih]
      simp
    · rw [TL.spl_miss (by simpa using h), ih]
      simp
theorem spl_len (t acc : Tx) : ∀ w ∈ TL.spl [32] 0 acc t, w.length ≤ acc.length + t.length := by
  induction t generalizing acc with
  | nil =>
    intro w hw
    rw [TL.spl_nil] at hw
    simp at hw
    subst hw
    simp
  | cons c t ih =>
    intro w hw
    by_cases h : TL.pre [32] (c :: t) = true
    · rw [TL.spl_hit h] at hw
      rcases List.mem_cons.mp hw with rfl | hw
      · omega
      · have := ih [] w hw
        simp at this ⊢
        omega
    · rw [TL.spl_miss (by simpa using h)] at hw
      have := ih _ w hw
      simp at this ⊢
      omega
theorem pt_join (p : Pt) : TL.joinL [32] p.w = p.t := by
  rw [← spl_ptL, join_spl]
  rfl
theorem read_any (t : Tx) (hl : t.length + 2 ≤ lim) {L : Nat} (hL : 10 ≤ L) (S : Sto) :
    (∃ (c : Option Pt) (S' : Sto), callF false L .read [.str t] S = .ok (Ct.d c) S' ∧ Ct.ok 4 c ∧ t = Ct.t c ∧ Ext S S') ∨ ∃ S' : Sto, callF false L .read [.str t] S = .ex ⟨.form, none⟩ S' ∧ Ext S S' := by
  match t, hl with
  | [], hl => exact .inl ⟨none, S, read_none (by omega) S, trivial, rfl, .refl⟩
  | x :: t, hl =>
    have hl1 : (x :: t).length ≤ lim := by omega
    have hl3 : t.length ≤ 16777215 := by unfold lim at hl; simp at hl; omega
    by_cases hx : x = 61
    · subst hx
      obtain ⟨w0, ws, esp⟩ := spl_ne (61 :: t) []
      have hj := join_spl (61 :: t) []
      have hws := spl_len (61 :: t) []
      rw [esp] at hj hws
      have hs : ∀ u ∈ ws, u.length ≤ lim := fun u hu => by
        have h1 := hws u (by simp [hu])
        have h2 : u.length ≤ t.length + 1 := by simpa using h1
        have h3 : t.length + 1 ≤ lim := hl1
        exact Nat.le_trans h2 h3
      have A : m1 .split (.str (61 :: t)) (.str [32]) S = .ok (.ref S.length) (S ++ [.lst (ofT (w0 :: ws))]) := by
        have c : ([32] : Tx) ≠ [] ∧ ([32] : Tx).all (· < 256) = true ∧ (61 :: t).length + 2 ≤ lim := ⟨by decide, by decide, hl⟩
        simp only [m1]
        rw [if_pos c, esp]
        rfl
      have B : ∀ (S : Sto) (l : Nat), S.at l = some (.lst (ofT (w0 :: ws))) → slice (.ref l) (some 1) none S = .ok (.ref S.length) (S ++ [.lst (ofT ws)]) := fun S l h => by
        have h1 : HT.sIx (ofT (w0 :: ws)).length 0 (some 1) = 1 := by simp [HT.sIx, ofT]
        have h2 : HT.sIx (ofT (w0 :: ws)).length (ofT (w0 :: ws)).length none = (ofT (w0 :: ws)).length := rfl
        simp only [slice, seq_lst h, cut, h1, h2]
        simp [ofT, new]
        rw [List.take_of_length_le (by simp)]
      obtain ⟨S1, hS1⟩ : ∃ S1 : Sto, S1 = S ++ [.lst (ofT (w0 :: ws))] := ⟨_, rfl⟩
      have w1 : S1.at S.length = some (.lst (ofT (w0 :: ws))) := by rw [hS1]; exact at_new
      have x1 : Ext S S1 := by rw [hS1]; exact .app
      obtain ⟨S2, hS2⟩ : ∃ S2 : Sto, S2 = S1 ++ [.lst (ofT ws)] := ⟨_, rfl⟩
      have w2 : S2.at S1.length = some (.lst (ofT ws)) := by rw [hS2]; exact at_new
      have x2 : Ext S1 S2 := by rw [hS2]; exact .app
      obtain ⟨S3, hS3⟩ : ∃ S3 : Sto, S3 = S2 ++ [.ins .reader []] := ⟨_, rfl⟩
      have w3 : S3.at S2.length = some (.ins .reader []) := by rw [hS3]; exact at_new
      have x3 : Ext S2 S3 := by rw [hS3]; exact .app
      have e4 := rd_init_ok (L := L - 2) (by omega) S3 S2.length S1.length w3
      have k2 := lt_of_at w2
      have k1 := lt_of_at w1
      have R4 : Rd (S3.set S2.length (rdO S1.length 0)) S2.length S1.length ws 0 := ⟨at_self (lt_of_at w3), by rw [at_ne (by omega), x3.at_ _ k2]; exact w2, by omega⟩
      have x4 : Ext S (S3.set S2.length (rdO S1.length 0)) := ((x1.trans x2).trans x3).set (by have := x1.len; have := x2.len; omega)
      have fx : ∀ S5, Fr S2.length S2.length (S3.set S2.length (rdO S1.length 0)) S5 → Ext S S5 := fun S5 F5 =>
        ⟨Nat.le_trans x4.len F5.len, fun l hl => (F5.at_ l (Nat.lt_of_lt_of_le hl x4.len) (by have := x1.len; have := x2.len; omega) (by have := x1.len; have := x2.len; omega)).trans (x4.at_ l hl)⟩
      have B1 := B S1 S.length w1
      rw [← hS2] at B1
      rw [← hS1] at A
      have i4 := R4.isI
      rw [callF_eqL (by omega) .read _ S _ _ _ rfl rfl]
      rcases rd_part_any S2.length S1.length ws hs 4 (L := L - 1) (by omega) _ 0 1 (by omega) R4 (by omega) with ⟨p, S5, rest, e5, o5, R5, F5, d5, n5⟩ | ⟨S5, e5, F5⟩
      · have x5 := fx S5 F5
        have w5 : S5.at S.length = some (.lst (.str w0 :: ofT ws)) := by
          rw [F5.at_ _ (by have := x2.len; have := x3.len; simp; omega) (by omega) (by omega), at_ne (by omega), x3.at_ _ (by omega), x2.at_ _ k1]
          exact w1
        have a5 := R5.al
        simp only [rdO] at a5
        have hlen : (ofT ws).length = ws.length := by simp [ofT]
        simp only [List.drop_zero] at d5
        simp at a5 n5
        by_cases hw0 : w0 = [61]
        · subst hw0
          by_cases hn : p.w.length = ws.length
          · have hrest : rest = [] := by
              have := congrArg List.length d5
              rw [List.length_append] at this
              exact List.eq_nil_of_length_eq_zero (by omega)
            subst hrest
            rw [List.append_nil] at d5
            have ht : (61 :: t) = [61, 32] ++ p.t := by
              have hj : TL.joinL [32] ([61] :: ws) = 61 :: t := hj
              rw [← hj, join_cons2 _ _ _ ⟨p.w.head (by intro h; have := p.w_len; rw [h] at this; simp at this), p.w.tail, by rw [d5]; exact (List.cons_head_tail _).symm⟩, d5, pt_join]
              rfl
            by_cases hnum : p.isNum = true
            · right
              refine ⟨S5, ?_, x5⟩
              cases p with
              | num i =>
                have hn' : ((Pt.num i).w.length : Int) = ws.length := by omega
                simp only [Pt.d, sNum] at e5
                simp [b_read, hl3, A, B1, recv1, isTxt, initOf, ← hS3, e4, clsOf, i4, e5, seq_at, w5, hlen, ins_at', a5, fget, hn']
              | cell c r => cases hnum
              | sum c r c' r' => cases hnum
              | op o a b => cases hnum
              | pick a b c e => cases hnum
            · left
              obtain ⟨x, r, hx, hxn⟩ : ∃ x r, p.d = .tup (.str x :: r) ∧ (x == ([110, 117, 109] : Tx)) = false := by
                cases p with
                | num i => exact absurd rfl hnum
                | cell c r => exact ⟨_, _, rfl, rfl⟩
                | sum c r c' r' => exact ⟨_, _, rfl, rfl⟩
                | op o a b => exact ⟨_, _, rfl, opT_num o⟩
                | pick a b c e => exact ⟨_, _, rfl, rfl⟩
              refine ⟨some p, S5, ?_, o5, ?_, x5⟩
              · show _ = Res.ok p.d S5
                rw [hx] at e5 ⊢
                have hn' : (p.w.length : Int) = ws.length := by omega
                simp [b_read, hl3, A, B1, recv1, isTxt, initOf, ← hS3, e4, clsOf, i4, e5, seq_at, w5, hlen, ins_at', a5, fget, hxn, hn']
              · rw [ht]
                cases p with
                | num i => exact absurd rfl hnum
                | cell c r => rfl
                | sum c r c' r' => rfl
                | op o a b => rfl
                | pick a b c e => rfl
          · right
            refine ⟨S5, ?_, x5⟩
            have hn' : ((p.w.length : Int) == ws.length) = false := by simp; omega
            simp [b_read, hl3, A, B1, recv1, isTxt, initOf, ← hS3, e4, clsOf, i4, e5, seq_at, w5, hlen, ins_at', a5, fget, hn']
        · right
          refine ⟨S5, ?_, x5⟩
          have hw' : (w0 == ([61] : Tx)) = false := by simpa using hw0
          simp [b_read, hl3, A, B1, recv1, isTxt, initOf, ← hS3, e4, clsOf, i4, e5, seq_at, w5, hw']
      · right
        refine ⟨S5, ?_, fx S5 F5⟩
        simp [b_read, hl3, A, B1, recv1, isTxt, initOf, ← hS3, e4, clsOf, i4, e5]
    · have hx' : ([x] == ([61] : Tx)) = false := by simpa using hx
      rw [callF_eqL (by omega) .read _ S _ _ _ rfl rfl]
      rcases number_of_any (L := L - 1) (by omega) S (x :: t) hl1 with ⟨i, h1, h2, e, e2⟩ | ⟨_, e2⟩
      · refine .inl ⟨some (.num i), S, ?_, ⟨h1, h2⟩, e, .refl⟩
        simp [b_read, hl3, hx', e2, Ct.d, Pt.d, sNum]
      · refine .inr ⟨S, ?_, .refl⟩
        simp [b_read, hl3, hx', e2]
end Mi
end

section
set_option linter.all false
set_option maxRecDepth 100000
set_option Elab.async false
/-! the plain law: what k03 asks of a content read -/
namespace Mi
open PySem
theorem good_cell {L : Nat} (hL : 2 ≤ L) (S : Sto) (c r : Nat) (hc : c < 6) (hr : r < 9) : callF false L .l_good_cell [.str (cellT c r)] S = .ok (.bl true) S := by
  rw [callF_eqL (by omega) .l_good_cell _ S _ _ _ rfl rfl]
  have m1 := (mem_cols (97 + c)).mpr (by omega)
  have m2 := (mem_rows (49 + r)).mpr (by omega)
  simp [-List.mem_cons, b_l_good_cell, cellT, m1, m2]
@[simp] theorem b1_absI (S : Sto) (i : Int) : b1 .abs (.int i) S = .ok (.int (if i < 0 then -i else i)) S := rfl
theorem eq_nils (S : Sto) (l m : Nat) (h1 : S.seq l = some []) (h2 : S.seq m = some []) : eqS S (.ref l) (.ref m) = some true := by
  simp [eqS, h1, h2, D.okns, D.eqvs]
theorem eq_nils3 (S : Sto) (o : Ob) : eqS (S ++ [o, Ob.lst [], Ob.lst []]) (.ref (S.length + 1)) (.ref (S.length + 1 + 1)) = some true := by
  refine eq_nils _ _ _ ?_ ?_
  · rw [seq_at, at_appk]; rfl
  · rw [seq_at, show S.length + 1 + 1 = S.length + 2 by omega, at_appk]; rfl
theorem eq_nils2 (S : Sto) : eqS (S ++ [Ob.lst [], Ob.lst []]) (.ref S.length) (.ref (S.length + 1)) = some true := by
  refine eq_nils _ _ _ ?_ ?_
  · rw [seq_at, at_app0]; rfl
  · rw [seq_at, at_appk]; rfl
def dParts : Mp Int := [([97, 100, 100], 3), ([115, 117, 98], 3), ([109, 117, 108], 3), ([112, 105, 99, 107], 5)]
theorem kd_parts (S : Sto) : kDct [D.str [97, 100, 100], D.int 3, D.str [115, 117, 98], D.int 3, D.str [109, 117, 108], D.int 3, D.str [112, 105, 99, 107], D.int 5] S = .ok (.ref S.length) (S ++ [.dct (mp D.int dParts)]) := by
  rw [kDct_eq _ [(.s [97, 100, 100], .int 3), (.s [115, 117, 98], .int 3), (.s [109, 117, 108], .int 3), (.s [112, 105, 99, 107], .int 5)] S rfl]
  simp [kput, mp, dParts]
theorem l_good_ok : ∀ (d : Nat) (p : Pt), p.ok d → ∀ {L : Nat} (hL : d + 4 ≤ L) (S : Sto) (k : Int) (hk : k + d ≤ 5), ∃ S', callF false L .l_good [p.d, .int k] S = .ok (.bl true) S' ∧ Ext S S'
  | d, .num i, h, L, hL, S, k, hk => by
    have h : -999999 ≤ i ∧ i ≤ 999999 := by cases d <;> exact h
    rw [callF_eqL (by omega) .l_good _ S _ _ _ rfl rfl]
    have k1 : ¬ 5 < k := by omega
    have k2 : (if i < 0 then -i else i) < 1000000 := by split <;> omega
    exact ⟨S, by simp [b_l_good, Pt.d, sNum, k1, k2], .refl⟩
  | d, .cell c r, h, L, hL, S, k, hk => by
    have h : c < 6 ∧ r < 9 := by cases d <;> exact h
    rw [callF_eqL (by omega) .l_good _ S _ _ _ rfl rfl]
    have k1 : ¬ 5 < k := by omega
    have g1 := good_cell (L := L - 1) (by omega) (S ++ [.lst [.int 2, .int 3]]) c r h.1 h.2
    have e := eq_nils3 S (.lst [.int 2, .int 3])
    exact ⟨_, by simp [b_l_good, Pt.d, sCell, k1, inL, D.eqv, slice_tl, compI, compX, accd, seq_at, g1, e]; rfl, .app⟩
  | d, .sum c r c' r', h, L, hL, S, k, hk => by
    have h : (c < 6 ∧ r < 9) ∧ c' < 6 ∧ r' < 9 := by cases d <;> exact h
    rw [callF_eqL (by omega) .l_good _ S _ _ _ rfl rfl]
    have k1 : ¬ 5 < k := by omega
    have g1 := good_cell (L := L - 1) (by omega) (S ++ [.lst [.int 2, .int 3]]) c r h.1.1 h.1.2
    have g2 := good_cell (L := L - 1) (by omega) (S ++ [.lst [.int 2, .int 3]]) c' r' h.2.1 h.2.2
    have e := eq_nils3 S (.lst [.int 2, .int 3])
    exact ⟨_, by simp [b_l_good, Pt.d, sSum, k1, inL, D.eqv, slice_tl, compI, compX, accd, seq_at, g1, g2, e]; rfl, .app⟩
  | d + 1, .op o a b, h, L, hL, S, k, hk => by
    rw [callF_eqL (by omega) .l_good _ S _ _ _ rfl rfl]
    have k1 : ¬ 5 < k := by omega
    have o1 : (opT o == ([110, 117, 109] : Tx)) = false := opT_num o
    have o2 : (opT o == ([99, 101, 108, 108] : Tx)) = false := by unfold opT; split <;> decide
    have o3 : (opT o == ([115, 117, 109] : Tx)) = false := by unfold opT; split <;> decide
    have o4 : ([99, 101, 108, 108] == opT o) = false := by unfold opT; split <;> decide
    have o5 : ([115, 117, 109] == opT o) = false := by unfold opT; split <;> decide
    have gk : m2 .get (.ref S.length) (.str (opT o)) (.int 0) (S ++ [.dct (mp D.int dParts)]) = .ok (.int 3) (S ++ [.dct (mp D.int dParts)]) := by
      rw [get2_ok (f := D.int) (m := dParts) (.inl (by simp)) (opT o) (.int 0)]
      unfold opT
      split <;> rfl
    have gd : isDic (.ref S.length) (S ++ [.dct (mp D.int dParts)]) = true := by simp [isDic, dic_at]
    obtain ⟨S1, e1, x1⟩ := l_good_ok d a h.2.1 (L := L - 1) (by omega) (S ++ [.dct (mp D.int dParts)]) (k + 1) (by omega)
    obtain ⟨S2, e2, x2⟩ := l_good_ok d b h.2.2 (L := L - 1) (by omega) S1 (k + 1) (by omega)
    have e := eq_nils2 S2
    exact ⟨_, by simp [b_l_good, Pt.d, o1, o2, o3, o4, o5, k1, inL, D.eqv, slice_tl, compI, compX, accd, seq_at, kd_parts, gk, gd, e1, e2, e]; rfl, ((Ext.app.trans x1).trans x2).trans .app⟩
  | d + 1, .pick a b c e', h, L, hL, S, k, hk => by
    rw [callF_eqL (by omega) .l_good _ S _ _ _ rfl rfl]
    have k1 : ¬ 5 < k := by omega
    have gk : m2 .get (.ref S.length) (.str [112, 105, 99, 107]) (.int 0) (S ++ [.dct (mp D.int dParts)]) = .ok (.int 5) (S ++ [.dct (mp D.int dParts)]) := by
      rw [get2_ok (f := D.int) (m := dParts) (.inl (by simp)) [112, 105, 99, 107] (.int 0)]
      rfl
    have gd : isDic (.ref S.length) (S ++ [.dct (mp D.int dParts)]) = true := by simp [isDic, dic_at]
    obtain ⟨S1, e1, x1⟩ := l_good_ok d a h.1.1 (L := L - 1) (by omega) (S ++ [.dct (mp D.int dParts)]) (k + 1) (by omega)
    obtain ⟨S2, e2, x2⟩ := l_good_ok d b h.1.2 (L := L - 1) (by omega) S1 (k + 1) (by omega)
    obtain ⟨S3, e3, x3⟩ := l_good_ok d c h.2.1 (L := L - 1) (by omega) S2 (k + 1) (by omega)
    obtain ⟨S4, e4, x4⟩ := l_good_ok d e' h.2.2 (L := L - 1) (by omega) S3 (k + 1) (by omega)
    have e := eq_nils2 S4
    exact ⟨_, by simp [b_l_good, Pt.d, sPick, k1, inL, D.eqv, slice_tl, compI, compX, accd, seq_at, kd_parts, gk, gd, e1, e2, e3, e4, e]; rfl, ((((Ext.app.trans x1).trans x2).trans x3).trans x4).trans .app⟩
end Mi
end

section
set_option linter.all false
set_option maxRecDepth 100000
set_option Elab.async false
/-! the plain law: deep contents' texts; the texts that k03 draws -/
namespace Mi
open PySem
theorem Pt.t_len7 {d : Nat} {p : Pt} (hd : d ≤ 6) (h : p.ok d) : p.t.length ≤ 390625 :=
  Nat.le_trans (Pt.t_len d p h) (Nat.le_trans (Nat.pow_le_pow_right (by decide) (show d + 2 ≤ 8 by omega)) (by decide))
theorem l_part_text7 : ∀ (d : Nat) (hd : d ≤ 6) (p : Pt), p.ok d → ∀ {L : Nat} (hL : d + 2 ≤ L) (S : Sto), ∃ S', callF false L .l_part_text [p.d] S = .ok (.str p.t) S' ∧ Ext S S'
  | d, hd, .num i, h, L, hL, S => by
    have h : -999999 ≤ i ∧ i ≤ 999999 := by cases d <;> exact h
    rw [callF_eqL (by omega) .l_part_text _ S _ _ _ rfl rfl]
    refine ⟨S, ?_, .refl⟩
    have := small500 h.1 h.2
    simp [b_l_part_text, Pt.d, Pt.t, sNum, inL, D.eqv, -Nat.reducePow, this]
  | d, hd, .cell c r, h, L, hL, S => by
    rw [callF_eqL (by omega) .l_part_text _ S _ _ _ rfl rfl]
    refine ⟨S, ?_, .refl⟩
    simp [b_l_part_text, Pt.d, Pt.t, sCell, inL, D.eqv]
  | d, hd, .sum c r c' r', h, L, hL, S => by
    rw [callF_eqL (by omega) .l_part_text _ S _ _ _ rfl rfl]
    refine ⟨S, ?_, .refl⟩
    simp [b_l_part_text, Pt.d, Pt.t, sSum, inL, D.eqv, cellT]
  | d + 1, hd, .op o a b, h, L, hL, S => by
    rw [callF_eqL (by omega) .l_part_text _ S _ _ _ rfl rfl]
    obtain ⟨S1, e1, x1⟩ := l_part_text7 d (by omega) a h.2.1 (L := L - 1) (by omega) S
    obtain ⟨S2, e2, x2⟩ := l_part_text7 d (by omega) b h.2.2 (L := L - 1) (by omega) S1
    have l1 := Pt.t_len7 (by omega) h.2.1
    have l2 := Pt.t_len7 (by omega) h.2.2
    have o1 : inL (.str (opT o)) [D.str [110, 117, 109], D.str [99, 101, 108, 108]] = false := by unfold opT; split <;> decide
    have o2 : (opT o == [115, 117, 109]) = false := by unfold opT; split <;> decide
    have o3 := opT_len o
    have le : a.t.length + (b.t.length + 1) ≤ 16777215 := by omega
    have le2 : 3 + 1 + (a.t.length + (b.t.length + 1)) ≤ 16777216 := by omega
    refine ⟨_, ?_, (x1.trans x2).trans (.app (G := [.lst [.str a.t, .str b.t]]))⟩
    simp [b_l_part_text, Pt.d, Pt.t, o1, o2, o3, slice_tl, compI, compX, accd, e1, e2, recv1, isTxt, m1, seq_at, txtsOf, TL.joinL, le, le2]
  | d + 1, hd, .pick a b c e, h, L, hL, S => by
    rw [callF_eqL (by omega) .l_part_text _ S _ _ _ rfl rfl]
    obtain ⟨S1, e1, x1⟩ := l_part_text7 d (by omega) a h.1.1 (L := L - 1) (by omega) S
    obtain ⟨S2, e2, x2⟩ := l_part_text7 d (by omega) b h.1.2 (L := L - 1) (by omega) S1
    obtain ⟨S3, e3, x3⟩ := l_part_text7 d (by omega) c h.2.1 (L := L - 1) (by omega) S2
    obtain ⟨S4, e4, x4⟩ := l_part_text7 d (by omega) e h.2.2 (L := L - 1) (by omega) S3
    have l1 := Pt.t_len7 (by omega) h.1.1
    have l2 := Pt.t_len7 (by omega) h.1.2
    have l3 := Pt.t_len7 (by omega) h.2.1
    have l4 := Pt.t_len7 (by omega) h.2.2
    have le : a.t.length + (b.t.length + (c.t.length + (e.t.length + 1) + 1) + 1) ≤ 16777215 := by omega
    have le2 : a.t.length + (b.t.length + (c.t.length + (e.t.length + 1) + 1) + 1) + 5 ≤ 16777216 := by omega
    have le3 : 5 + (a.t.length + (b.t.length + (c.t.length + (e.t.length + 1) + 1) + 1)) ≤ 16777216 := by omega
    refine ⟨_, ?_, (((x1.trans x2).trans x3).trans x4).trans (.app (G := [.lst [.str a.t, .str b.t, .str c.t, .str e.t]]))⟩
    simp [b_l_part_text, Pt.d, Pt.t, sPick, inL, D.eqv, slice_tl, compI, compX, accd, e1, e2, e3, e4, recv1, isTxt, m1, seq_at, txtsOf, TL.joinL, le, le2, le3]
theorem l_text7 (d : Nat) (hd : d ≤ 6) (c : Option Pt) (h : Ct.ok d c) {L : Nat} (hL : d + 3 ≤ L) (S : Sto) : ∃ S', callF false L .l_text [Ct.d c] S = .ok (.str (Ct.t c)) S' ∧ Ext S S' := by
  rw [callF_eqL (by omega) .l_text _ S _ _ _ rfl rfl]
  cases c with
  | none => exact ⟨S, by simp [b_l_text, Ct.d, Ct.t], .refl⟩
  | some p =>
    obtain ⟨S1, e1, x1⟩ := l_part_text7 d hd p h (L := L - 1) (by omega) S
    have l1 := Pt.t_len7 hd h
    have le : 2 + p.t.length ≤ 16777216 := by omega
    refine ⟨S1, ?_, x1⟩
    cases p <;> simp only [Pt.d, Pt.t] at e1 le <;> simp [b_l_text, Ct.d, Ct.t, Pt.d, Pt.t, e1, sNum, sCell, sSum, sPick, opT_num] at e1 le ⊢ <;> simp_all
theorem num_okd (d : Nat) {i : Int} (h1 : 0 ≤ i) (h2 : i < 9) : Pt.ok d (.num i) := by
  cases d <;> exact ⟨by omega, by omega⟩
theorem l_deep_ok : ∀ (d : Nat) {L : Nat} (hL : d + 4 ≤ L) (S : Sto) (b q : Nat) (B : Bx S b q), (callF false L .l_deep [.ref b, .int d] S).ends fun v S' => ∃ p : Pt, v = p.d ∧ p.ok d ∧ Bx S' b q ∧ Fr b q S S'
  | 0, L, hL, S, b, q, B => by
    refine ends_callF (by omega) .l_deep _ S _ _ _ rfl rfl fun Q X hq => ?_
    simp [b_l_deep]
    exact hq _ _ ⟨.cell 0 0, rfl, ⟨by decide, by decide⟩, B, Fr.refl⟩
  | d + 1, L, hL, S, b, q, B => by
    refine ends_callF (by omega) .l_deep _ S _ _ _ rfl rfl fun Q X hq => ?_
    have k0 : (((d + 1 : Nat) : Int) == 0) = false := by simp; omega
    have k1 : (((d + 1 : Nat) : Int) - 1) = (d : Int) := by omega
    simp [-Int.natCast_add, b_l_deep, k0, k1]
    refine (l_deep_ok d (L := L - 1) (by omega) S b q B).use ?_
    rintro _ S1 ⟨p, rfl, hp, B1, F1⟩
    simp
    refine take_wp (by omega) B1 (by decide) (by decide) fun x S2 h1 h2 B2 F2 => ?_
    simp
    refine take_wp (by omega) B2.app (by decide) (by decide) fun y S3 h3 h4 B3 F3 => ?_
    have l2 := B2.lt
    have g3 : S3.at S2.length = some (.lst [.tup [.str [97, 100, 100], p.d, .tup [.str [110, 117, 109], .int x]], .tup [.str [109, 117, 108], .tup [.str [110, 117, 109], .int x], p.d], .tup [.str [112, 105, 99, 107], .tup [.str [110, 117, 109], .int x], p.d, .tup [.str [110, 117, 109], .int x], .tup [.str [110, 117, 109], .int x]]]) := by
      rw [F3.at_ S2.length (by simp) (by omega) (by omega)]
      simp
    have Ft : Fr b q S S3 := ((F1.trans F2).trans .app).trans F3
    have no := num_okd d h1 h2
    have : y = 0 ∨ y = 1 ∨ y = 2 := by omega
    rcases this with rfl | rfl | rfl
    · simp [seq_at, g3]
      exact hq _ _ ⟨.op 0 p (.num x), rfl, ⟨by decide, hp, no⟩, B3, Ft⟩
    · simp [seq_at, g3]
      exact hq _ _ ⟨.op 2 (.num x) p, rfl, ⟨by decide, no, hp⟩, B3, Ft⟩
    · simp [seq_at, g3]
      exact hq _ _ ⟨.pick (.num x) p (.num x) (.num x), rfl, ⟨⟨no, hp⟩, no, no⟩, B3, Ft⟩
theorem cut_len {α : Type} (xs : List α) (lo hi : Option Int) : (cut xs lo hi).length ≤ xs.length := by
  unfold cut
  rw [List.length_take, List.length_drop]
  omega
theorem slice_any (t : Tx) (lo hi : Option Int) (S : Sto) (h : t.length ≤ lim) : ∃ u : Tx, slice (.str t) lo hi S = .ok (.str u) S ∧ u.length ≤ t.length :=
  ⟨cut t lo hi, by simp only [slice, if_pos h], cut_len t lo hi⟩
end Mi
end

section
set_option linter.all false
set_option maxRecDepth 100000
set_option Elab.async false
/-! the plain law: the texts that k03 draws -/
namespace Mi
open PySem
theorem joinL_len4 : ∀ ts : List Tx, (∀ t ∈ ts, t.length ≤ 3) → (TL.joinL [32] ts).length ≤ 4 * ts.length
  | [], _ => by simp [TL.joinL]
  | [a], h => by
    have := h a (by simp)
    simp [TL.joinL]
    omega
  | a :: b :: r, h => by
    have h1 := h a (by simp)
    have h2 := joinL_len4 (b :: r) fun t ht => h t (by simp [ht])
    simp only [TL.joinL, List.length_append, List.length_cons, List.length_nil] at h2 ⊢
    omega
def words3 : List Tx := [[97, 100, 100], [115, 117, 98], [109, 117, 108], [115, 117, 109], [112, 105, 99, 107], [97, 49], [102, 57], [51], [45, 50], [61], [48], [48, 48, 55], [103, 49], []]
theorem words3_len : ∀ t ∈ words3, t.length ≤ 4 := by decide
theorem joinL_len5 : ∀ ts : List Tx, (∀ t ∈ ts, t.length ≤ 4) → (TL.joinL [32] ts).length ≤ 5 * ts.length
  | [], _ => by simp [TL.joinL]
  | [a], h => by
    have := h a (by simp)
    simp [TL.joinL]
    omega
  | a :: b :: r, h => by
    have h1 := h a (by simp)
    have h2 := joinL_len5 (b :: r) fun t ht => h t (by simp [ht])
    simp only [TL.joinL, List.length_append, List.length_cons, List.length_nil] at h2 ⊢
    omega
theorem txtsOf_ofT : ∀ ts : List Tx, txtsOf (ofT ts) = some ts
  | [] => rfl
  | t :: r => by
    have := txtsOf_ofT r
    unfold ofT at this ⊢
    simp [txtsOf, this]
def bSp3 : Sms := (.cons (.set 5 (.call .l_take (.cons (.v 0) (.cons (.bin .add (.b1 .len (.v 3)) (.int 1)) .nil)))) (.cons (.set 6 (.ix (.str [61, 32, 48, 49, 50, 57, 45, 97, 98, 103, 100, 109, 43, 115, 117, 112]) (.call .l_take (.cons (.v 0) (.cons (.int 16) .nil))))) (.cons (.set 7 (.call .l_take (.cons (.v 0) (.cons (.int 3) .nil)))) (.cons (.set 3 (.bin .add (.bin .add (.sl (.v 3) .nil (.cons (.v 5) .nil)) (.ix (.lst (.cons (.str []) (.cons (.v 6) (.cons (.v 6) .nil)))) (.v 7))) (.sl (.v 3) (.cons (.bin .add (.v 5) (.ix (.lst (.cons (.int 1) (.cons (.int 0) (.cons (.int 1) .nil)))) (.v 7))) .nil) .nil))) .nil))))
theorem sp3_turn {L : Nat} (hL : 10 ≤ L) {S : Sto} {b q : Nat} (B : Bx S b q) (t : Tx) (hl : t.length ≤ 1000000) (x1 x2 x4 x5 x6 x7 : Option D) (d : D) {N : Env → Sto → Prop} {R : D → Sto → Prop} {X : Exn → Env → Sto → Prop}
    (hN : ∀ (u : Tx) x5 x6 x7 S', u.length ≤ 2 * t.length + 1 → Bx S' b q → N ⟨[some (.ref b), x1, x2, some (.str u), some d, x5, x6, x7], none⟩ S') :
    (turn ⟨false, callF false (L - 1), callF false (L - 2)⟩ (.one 4) bSp3 d ⟨[some (.ref b), x1, x2, some (.str t), x4, x5, x6, x7], none⟩ S).wp N R X := by
  have hl2 : t.length ≤ 16777216 := by omega
  simp [bSp3, hl2]
  refine take_wp (by omega) B (by omega) (by omega) fun a S1 h1 h2 B1 F1 => ?_
  simp
  refine take_wp (by omega) B1 (by decide) (by decide) fun y S2 h3 h4 B2 F2 => ?_
  obtain ⟨yn, rfl⟩ : ∃ yn : Nat, y = yn := ⟨y.toNat, by omega⟩
  obtain ⟨c, hc⟩ : ∃ c, ([61, 32, 48, 49, 50, 57, 45, 97, 98, 103, 100, 109, 43, 115, 117, 112] : List Nat)[yn]? = some c := ⟨_, List.getElem?_eq_getElem (by simp; omega)⟩
  have gy : getix (.str [61, 32, 48, 49, 50, 57, 45, 97, 98, 103, 100, 109, 43, 115, 117, 112]) (.int (yn : Nat)) S2 = .ok (.str [c]) S2 := by
    simp [getix, atI_nat, hc]
  simp only [kW_eq, kT_eq, kN_eq, kE_eq, wp_bind, wp_ok, wp_toS, gy]
  simp [gy]
  refine take_wp (by omega) B2 (by decide) (by decide) fun z S3 h5 h6 B3 F3 => ?_
  obtain ⟨u1, e1, l1⟩ := slice_any t none (some a) S3 (by unfold lim; omega)
  have hz : z = 0 ∨ z = 1 ∨ z = 2 := by omega
  obtain ⟨m, g, hm, hg⟩ : ∃ (m : Tx) (g : Int), m.length ≤ 1 ∧ (∀ T : Sto, L2.atI [D.str [], D.str [c], D.str [c]] z = some (.str m)) ∧ L2.atI [D.int 1, D.int 0, D.int 1] z = some (.int g) := by
    rcases hz with rfl | rfl | rfl
    · exact ⟨[], 1, by simp, fun _ => rfl, rfl⟩
    · exact ⟨[c], 0, by simp, fun _ => rfl, rfl⟩
    · exact ⟨[c], 1, by simp, fun _ => rfl, rfl⟩
  have hg1 := hg.1 []
  have le1 : u1.length + m.length ≤ 16777216 := by omega
  obtain ⟨u2, e2, l2⟩ := slice_any t (some (a + g)) none (S3 ++ [.lst [.str [], .str [c], .str [c]], .lst [.int 1, .int 0, .int 1]]) (by unfold lim; omega)
  have le2 : u1.length + m.length + u2.length ≤ 16777216 := by omega
  have le3 : u1.length + (m.length + u2.length) ≤ 16777216 := by omega
  simp [e1, seq_at, hg1, hg.2, le1, e2, le2, le3]
  refine hN _ _ _ _ _ ?_ B3.app
  simp
  omega
end Mi
end

section
set_option linter.all false
set_option maxRecDepth 100000
set_option Elab.async false
/-! the plain law k03 -/
namespace Mi
open PySem
theorem l_text_of_k03_ok {L : Nat} (hL : 30 ≤ L) {S : Sto} {b q : Nat} (B : Bx S b q) : (callF false L .l_text_of_k03 [.ref b] S).ends fun v S' => ∃ t : Tx, v = .str t ∧ t.length ≤ 1000000 ∧ Bx S' b q := by
  refine ends_callF (by omega) .l_text_of_k03 _ S _ _ _ rfl rfl fun Q X hq => ?_
  simp [b_l_text_of_k03]
  refine take_wp (by omega) B (by decide) (by decide) fun r S1 h1 h2 B1 F1 => ?_
  by_cases hr : r = 1
  · subst hr
    simp
    refine take_wp (by omega) B1 (by decide) (by decide) fun x S2 h3 h4 B2 F2 => ?_
    obtain ⟨d, hd, hd6⟩ : ∃ d : Nat, (4 + x) = (d : Int) ∧ d ≤ 6 := ⟨(4 + x).toNat, by omega, by omega⟩
    simp [hd]
    refine (l_deep_ok d (L := L - 1) (by omega) S2 b q B2).use ?_
    rintro _ S3 ⟨p, rfl, hp, B3, F3⟩
    obtain ⟨S4, e4, y4⟩ := l_text7 d hd6 (some p) hp (L := L - 1) (by omega) S3
    have e4 : callF false (L - 1) .l_text [p.d] S3 = .ok (.str (Ct.t (some p))) S4 := e4
    have l4 := Pt.t_len7 hd6 hp
    simp [e4]
    refine hq _ _ ⟨_, rfl, ?_, B3.fr y4⟩
    cases p <;> simp [Ct.t, Pt.t] at l4 ⊢ <;> omega
  · have hr' : (r == 1) = false := by simpa using hr
    simp [hr']
    refine take_wp (by omega) B1 (by decide) (by decide) fun r2 S2 h3 h4 B2 F2 => ?_
    by_cases hr2 : r2 = 1
    · subst hr2
      simp [recv1, isTxt]
      have hb : Bx (S2 ++ [.lst (ofT words3), .lst [.str [61]]]) b q := B2.app
      simp only [words3, ofT, List.map_cons, List.map_nil] at hb
      refine take_wp (by omega) hb (by decide) (by decide) fun n S3 h5 h6 B3 F3 => ?_
      have l2 := B2.lt
      have g3 : S3.at S2.length = some (.lst (ofT words3)) := by
        rw [F3.at_ S2.length (by simp) (by omega) (by omega)]
        simp [words3, ofT]
      have g3' : S3.at (S2.length + 1) = some (.lst [.str [61]]) := by
        rw [F3.at_ (S2.length + 1) (by simp) (by omega) (by omega)]
        simp
      have r1 := kR1_nat S3 n.toNat (by omega)
      rw [show ((n.toNat : Nat) : Int) = n by omega] at r1
      simp [r1]
      refine wp_compX (fun pre acc S => ∃ ts : List Tx, acc = ofT ts ∧ ts.length = pre.length ∧ (∀ t ∈ ts, t.length ≤ 4) ∧ Bx S b q ∧ S.at S2.length = some (.lst (ofT words3)) ∧ S.at (S2.length + 1) = some (.lst [.str [61]])) ⟨[], rfl, rfl, by simp, B3, g3, g3'⟩ (by simp; omega) ?_ ?_
      · rintro pre d post acc S4 N' e hla ⟨ts, rfl, hts, ha, B4, g4, g5⟩ hN'
        simp
        refine take_wp (by omega) B4 (by decide) (by decide) fun y S5 h7 h8 B5 F5 => ?_
        obtain ⟨yn, rfl⟩ : ∃ yn : Nat, y = yn := ⟨y.toNat, by omega⟩
        obtain ⟨c, hc⟩ : ∃ c, words3[yn]? = some c := ⟨_, List.getElem?_eq_getElem (by simp [words3]; omega)⟩
        have g6 := F5.at g4 (by omega) (by omega)
        have g7 := F5.at g5 (by omega) (by omega)
        have gi : getix (.ref S2.length) (.int (yn : Nat)) S5 = .ok (.str c) S5 := by
          simp [getix, seq_at, g6, atI_nat, ofT, hc]
        simp only [kW_eq, wp_bind, wp_ok, gi]
        simp [gi]
        refine hN' _ _ ⟨ts ++ [c], by simp [ofT], by simp [hts], ?_, B5, g6, g7⟩
        intro t ht
        rcases List.mem_append.mp ht with h | h
        · exact ha t h
        · simp at h
          subst h
          exact words3_len _ (List.mem_of_getElem? hc)
      · rintro acc S4 ⟨ts, rfl, hts, ha, B4, g4, g5⟩
        have ln : ts.length ≤ 7 := by
          rw [hts]
          simp
          omega
        have k1 : ts.length ≤ 16777215 := by omega
        have k2 := joinL_len5 ([61] :: ts) (by
          intro t ht
          rcases List.mem_cons.mp ht with rfl | h
          · simp
          · exact ha t h)
        have k2 : (TL.joinL [32] ([61] :: ts)).length ≤ 40 := Nat.le_trans k2 (by simp; omega)
        have k3 := txtsOf_ofT ([61] :: ts)
        have k3 : txtsOf (.str [61] :: ofT ts) = some ([61] :: ts) := k3
        have k4 : (TL.joinL [32] ([61] :: ts)).length ≤ 16777215 := by omega
        have lt4 := lt_of_at g5
        have ne1 : S2.length + 1 ≠ S4.length := by omega
        have g8 : Sto.at (S4 ++ [Ob.lst (ofT ts)]) (S2.length + 1) = some (.lst [.str [61]]) := by rw [at_app lt4]; exact g5
        have k5 : 1 + ts.length ≤ 16777216 := by omega
        have k6 : ts.length + 1 ≤ 16777216 := by omega
        simp [binop, new, lst_at, g8, k5, k6, seq_at, k3, k4]
        refine hq _ _ ⟨_, rfl, ?_, B4.app⟩
        exact Nat.le_trans k2 (by decide)
    · have hr2' : (r2 == 1) = false := by simpa using hr2
      simp [hr2']
      refine take_wp (by omega) B2.app (by decide) (by decide) fun r S3 h5 h6 B3 F3 => ?_
      have l2 := B2.lt
      have g3 : S3.at S2.length = some (.lst [.int 2, .int 4]) := by rw [F3.at_ S2.length (by simp) (by omega) (by omega)]; simp
      obtain ⟨d, hd, g4⟩ : ∃ d : Nat, d ≤ 4 ∧ L2.atI [D.int 2, D.int 4] r = some (.int d) := by
        have : r = 0 ∨ r = 1 := by omega
        rcases this with rfl | rfl
        · exact ⟨2, by decide, rfl⟩
        · exact ⟨4, by decide, rfl⟩
      simp [seq_at, g3, g4]
      refine content_wp d (by omega) B3 rfl fun c S4 o1 B4 F4 => ?_
      obtain ⟨S5, e5, y5⟩ := l_text_ok d hd c o1 (L := L - 1) (by omega) S4
      have B5 := B4.fr y5
      have l5 : (Ct.t c).length ≤ 15627 := by
        cases c with
        | none => simp [Ct.t]
        | some p =>
          have := Pt.t_len5 hd o1
          cases p <;> simp [Ct.t, Pt.t] at this ⊢ <;> omega
      simp [e5]
      refine take_wp (by omega) B5 (by decide) (by decide) fun r3 S6 h7 h8 B6 F6 => ?_
      by_cases hr3 : r3 = 1
      · subst hr3
        simp
        exact hq _ _ ⟨_, rfl, by omega, B6⟩
      · have hr3' : (r3 == 1) = false := by simpa using hr3
        simp [hr3']
        refine take_wp (by omega) B6 (by decide) (by decide) fun n S7 h9 h10 B7 F7 => ?_
        have r1 := kR1_nat S7 (1 + n).toNat (by omega)
        rw [show (((1 + n).toNat : Nat) : Int) = 1 + n by omega] at r1
        simp [r1]
        refine wp_loopX (fun pre ε S => ∃ (u : Tx) (x1 x2 x4 x5 x6 x7 : Option D), u.length + 1 ≤ 2 ^ pre.length * 15628 ∧ Bx S b q ∧ ε = ⟨[some (.ref b), x1, x2, some (.str u), x4, x5, x6, x7], none⟩) ⟨_, _, _, _, _, _, _, by simp; omega, B7, rfl⟩ ?_ ?_
        · rintro pre d post ε S N' e ⟨u, x1, x2, x4, x5, x6, x7, hu, B8, rfl⟩ hN'
          have hlen : pre.length < 3 := by
            have := lt_len_of_mid e
            simp at this
            omega
          have hp : 2 ^ pre.length * 15628 ≤ 2 ^ 3 * 15628 := Nat.mul_le_mul_right _ (Nat.pow_le_pow_right (by decide) (by omega))
          refine sp3_turn (L := L) (by omega) B8 u (by omega) _ _ _ _ _ _ _ fun u' x5 x6 x7 S' hu' B' => hN' _ _ ⟨u', _, _, _, _, _, _, ?_, B', rfl⟩
          rw [List.length_append, List.length_singleton, Nat.pow_succ]
          omega
        · rintro ε S ⟨u, x1, x2, x4, x5, x6, x7, hu, B8, rfl⟩
          simp
          refine hq _ _ ⟨_, rfl, ?_, B8⟩
          have hp : 2 ^ ((1 + n).toNat) * 15628 ≤ 2 ^ 3 * 15628 := Nat.mul_le_mul_right _ (Nat.pow_le_pow_right (by decide) (by omega))
          simp at hu
          omega
theorem plain_k03 (ns : List Int) (hn : ns.length ≤ 63) : ∃ S, callF false 693 .law_k03 [.ref 0] [.frl (ofI ns)] = .ok (.bl true) S := by
  suffices h : (callF false 693 .law_k03 [.ref 0] [.frl (ofI ns)]).ends fun d _ => d = .bl true by
    obtain ⟨a, S, e, rfl⟩ := h.get
    exact ⟨S, e⟩
  refine ends_callF (by omega) .law_k03 _ _ _ _ _ rfl rfl fun Q X hq => ?_
  simp [b_law_k03]
  refine begun_wp (by omega) ns hn fun b q S1 B1 => ?_
  simp
  refine (l_text_of_k03_ok (L := 692) (by omega) B1).use ?_
  rintro _ S2 ⟨t, rfl, hl, B2⟩
  simp
  rcases read_any t (by unfold lim; omega) (L := 692) (by omega) S2 with ⟨c, S3, e3, hc, ht, x3⟩ | ⟨S3, e3, x3⟩
  · have n3 := Ct.none_eq c S3
    have et : ∀ ε, ex ⟨false, callF false 692, callF false 691⟩ (.try_ (.cons (.set 3 (.call .read (.cons (.v 2) .nil))) .nil) .table (some 4) (.cons (.ret (.and (.isE .form) (.and .isVE (.not (.isE .cell))))) .nil)) ⟨[some (.ref 0), some (.ref b), some (.str t), none, none], ε⟩ S2 = .nx ⟨[some (.ref 0), some (.ref b), some (.str t), some (Ct.d c), none], ε⟩ S3 := fun ε => by
      simp only [ex]
      simp [e3]
    simp [et, n3]
    cases c with
    | none =>
      obtain ⟨S4, e4, y4⟩ := l_text_ok 4 (by decide) none trivial (L := 692) (by omega) S3
      simp [e4, ht]
      exact hq _ _ rfl
    | some p =>
      obtain ⟨S4, e4, y4⟩ := l_good_ok 4 p hc (L := 692) (by omega) S3 1 (by omega)
      obtain ⟨S5, e5, y5⟩ := l_text_ok 4 (by decide) (some p) hc (L := 692) (by omega) S4
      simp only [Ct.d] at e4 e5 ⊢
      simp [e4, e5, ht]
      exact hq _ _ rfl
  · have et : ∀ ε, ex ⟨false, callF false 692, callF false 691⟩ (.try_ (.cons (.set 3 (.call .read (.cons (.v 2) .nil))) .nil) .table (some 4) (.cons (.ret (.and (.isE .form) (.and .isVE (.not (.isE .cell))))) .nil)) ⟨[some (.ref 0), some (.ref b), some (.str t), none, none], ε⟩ S2 = .rt (.bl true) S3 := fun ε => by
      have e4 : exs ⟨false, callF false 692, callF false 691⟩ (.cons (.set 3 (.call .read (.cons (.v 2) .nil))) .nil) ⟨[some (.ref 0), some (.ref b), some (.str t), none, none], ε⟩ S2 = .ex ⟨.form, none⟩ ⟨[some (.ref 0), some (.ref b), some (.str t), none, none], ε⟩ S3 := by simp [e3]
      simp only [ex, e4]
      simp [Ec.sub, ev]
    simp [et]
    exact hq _ _ rfl
end Mi
end

theorem PySem.Challenge.cw_undotable_k03_whole_contents_read_holds : PySem.Challenge.rw_undotable_k03_whole_contents_read.Holds := by
  exact Mi.row_of Mi.plain_k03
