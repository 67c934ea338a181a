import PyProof.Rows.All
import Wide.All
import OpenK.AllK
import Wide.FinOn
import KE.KStateDown
import HandS.Base
import HandS.Call
import HandS.Exc
import HandS.Defaults
import HandS.HeadHook1
import HandS.HeadHook2
import HandS.HeadHook4
import HandS.Head0
import HandS.Head1
import HandS.Head2
import HandS.HeadEnd
import KE.KSuper
import HandS.Words
import PySem.Challenge.RW_blockbooks_k62_equal_shelves
import HandS.List
import HandS.Comp
import HandS.Ends
import HandS.ExcOwn
import HandS.WordsList
import HandS.WordsExc
import HandS.Iter
import HandS.Dict
import HandS.Text
import HandS.Property
import HandS.Wide
import HandS.Zip
import HandS.Star
import HandS.Style
import HandS.OwnEq
import HandS.IsInst
import PyProof.InstEq
import HandS.Nested
import HandS.More
import HandS.MakeKw
import PyProof.DictUpdate
import HandS.DictComp
import HandS.WordsDict
import PyProof.AssignAttr
import PyProof.ZipIter
import PyProof.Draws
import PyProof.EnumMake
import HandS.SortRule
set_option Elab.async false
set_option linter.all false
set_option maxRecDepth 100000
set_option maxHeartbeats 0
/-! the head: what is asked of the things behind the top -/
namespace HD
open PySem PySem.Spec PyProof.Rows L2
/-! ### paths -/
inductive Pa where
  | g (x : Str)
  | m (c f : Str)
  | p (c f : Str)
def getter (K : PySem.W.Frag) (p : Addr) : Addr := match PySem.W.recIn K p "property" with
  | some (.ref g :: _) => g
  | _ => 0
def Pa.ad (K : PySem.W.Frag) : Pa → Addr
  | .g x => He.ga K x
  | .m c f => He.ma K (He.ga K c) f
  | .p c f => getter K (He.ma K (He.ga K c) f)
/-! ### defs -/
structure DfA where
  at_ : Pa
  name : Str
  qual : Str
  params : Arguments
  body : List Stmt
  scope : Scope
  sup : Option (Str × Str) := none
abbrev DfV : Type := Option (Str × Str × Arguments × FuncBody × Scope × Addr × List Str × Addr)
def dfW (K : PySem.W.Frag) (d : DfA) : DfV := match K.lookup (d.at_.ad K) with
  | some ⟨_, _, .func fd, _⟩ => some (fd.name, fd.qualname, fd.params, fd.body, fd.scope, fd.globals, fd.closure.map (·.1), fd.builtins)
  | _ => none
def DfA.val (d : DfA) : DfV := some (d.name, d.qual, d.params, .stmts d.body, d.scope, mainGlobals, (match d.sup with
  | some _ => ["__class__"]
  | none => []), builtinsNs)
def isNone : Value → Bool
  | .none => true
  | _ => false
/-- the class of the cell, the file -/
def supB (K : PySem.W.Frag) (D file : Str) (fd : FuncData) : Bool := match fd.code, fd.closure with
  | .ref c, [(_, cc)] => (match K.lookup cc with
    | some ⟨_, _, .cell (some (.ref a)), _⟩ => decide (a = He.ga K D)
    | _ => false) && (match K.lookup c with
    | some ⟨_, _, .fields vs, _⟩ => (match vs[2]? with
      | some (Value.str f _) => decide (f = file)
      | _ => false)
    | _ => false) && (PySem.W.clsIn K (He.ga K D)).isSome && He.eqO (PySem.W.nsIn K cStatics "thirdparty.any") (some none)
  | _, _ => false
def DfA.ok (K : PySem.W.Frag) (d : DfA) : Bool := PySem.W.keepIn K (.ref (d.at_.ad K)) && (match K.lookup (d.at_.ad K) with
  | some ⟨_, _, .func fd, _⟩ => PySem.W.codeIn K fd.code d.qual && (isNone fd.defaults && (match d.sup with
    | some (D, file) => supB K D file fd
    | none => true))
  | _ => false)
/-! ### facts -/
inductive Fq where
  | fa (f : He.Fa)
  | prop (c f : Str)
  | same (p q : Pa)
  | two (x : Str) (i j : Int)
  | insT (c : Str)
  | desc
  | sub (c d : Str) (b : Bool)
  | bas (c : Str) (T : String)
  | eqm (c f d : Str)
  | find (c f : Str) (u : Value)
  | diff (c d : Str)
  | supm (c d m e : Str)
def decB (p : Prop) [Decidable p] : Bool := decide p
def Fq.ok (K : PySem.W.Frag) : Fq → Bool
  | .fa f => f.ok K
  | .prop c f => decide (PySem.W.findIn K (.ref (He.ga K c)) f = some (some (.ref (He.ma K (He.ga K c) f)))) && decide (PySem.W.specialIn K (.ref (He.ma K (He.ga K c) f)) "__get__" = some (some (.builtin "property.__get__"))) && decide (PySem.W.takesIn K (.ref (He.ma K (He.ga K c) f)) = some true) && (match PySem.W.recIn K (He.ma K (He.ga K c) f) "property" with
    | some (.ref _ :: _) => true
    | _ => false)
  | .same p q => decide (p.ad K = q.ad K)
  | .two x i j => He.tupB K x [.int i, .int j]
  | .insT c => decide (PySem.W.findIn K (.ref (He.ga K c)) "__class__" = some (some (.builtin "object.__class__"))) && decide (PySem.W.mroIn K (He.ga K c) (.type "object") = some true)
  | .desc => decide (PySem.W.specialIn K (.builtin "object.__class__") "__get__" = some (some (.builtin "getset_descriptor.__get__"))) && decide (PySem.W.takesIn K (.builtin "object.__class__") = some true)
  | .sub c d b => decide (PySem.W.kitOne K (.ref (He.ga K d)) (.ref (He.ga K c)) = some b) && decide (PySem.W.subIn K (.ref (He.ga K d)) (.ref (He.ga K c)) = some b)
  | .bas c T => decide (PySem.W.kitOne K (.type T) (.ref (He.ga K c)) = some false) && decide (PySem.W.subIn K (.type T) (.ref (He.ga K c)) = some false)
  | .eqm c f d => decide (PySem.W.findIn K (.ref (He.ga K c)) f = some (some (.ref (He.ma K (He.ga K d) f)))) && PySem.W.isFn K (.ref (He.ma K (He.ga K d) f))
  | .find c f u => decide (PySem.W.findIn K (.ref (He.ga K c)) f = some (some u))
  | .diff c d => decide (He.ga K c ≠ He.ga K d)
  | .supm c d m e => decide (PySem.W.mroIn K (He.ga K c) (.ref (He.ga K d)) = some true) && decide (PySem.W.ks_superIn K (He.ga K c) (He.ga K d) m = some (some (.ref (He.ma K (He.ga K e) m)))) && decide (PySem.W.typeIn K (.ref (He.ma K (He.ga K e) m)) = some (.type "function")) && PySem.W.fnIn K (He.ma K (He.ga K e) m)
/-! ### the Hook -/
def growZ (g : Addr → Option Obj) (as : List Addr) : List Addr := He.growD g as
def asZ (g : Addr → Option Obj) : Nat → List Addr
  | 0 => [mainGlobals, cStatics]
  | n + 1 => growZ g (asZ g n)
abbrev AlZ : Type := Bool × List DfV
def obsZ (fa : List Fq) (fn : List DfA) (K : PySem.W.Frag) : AlZ := ((fa.all fun f => f.ok K) && fn.all fun d => d.ok K, fn.map fun d => dfW K d)
def valZ (fn : List DfA) : AlZ := (true, fn.map DfA.val)
def SaysZ (fa : List Fq) (fn : List DfA) (K : PySem.W.Frag) : Prop := obsZ fa fn K = valZ fn
def obsZG (n : Nat) (fa : List Fq) (fn : List DfA) (g : Addr → Option Obj) : AlZ := obsZ fa fn (He.frG g (asZ g n))
def hookZ (n : Nat) (fa : List Fq) (fn : List DfA) : PySem.W.Hook where
  α := AlZ
  obs := fun s => obsZG n fa fn s.heap.get?
  val := fun _ => valZ fn
  says := fun _ h => ∃ K : PySem.W.Frag, K.In h ∧ SaysZ fa fn K
  of := fun _ _ e => ⟨_, He.frG_in, e⟩
  keeps := fun _ _ _ ⟨K, hK, c⟩ k => ⟨K, PySem.W.Frag.In.keeps hK k, c⟩
end HD
namespace HD
open PySem PySem.Spec PyProof.Rows L2
abbrev RL : PySem.W.OpenRow := PySem.W.OpenLaw.row PySem.Challenge.rw_blockbooks_k62_equal_shelves
def nthS : List Stmt → Nat → Stmt
  | s :: _, 0 => s
  | _ :: r, n + 1 => nthS r n
  | [], _ => .Pass ⟨0, 0, 0, 0⟩
abbrev top (n : Nat) : Stmt := nthS RL.prog.main.body n
def inClass (s : Stmt) (j : Nat) : Stmt := match s with
  | .ClassDef _ _ _ b _ _ _ _ _ _ _ => nthS b j
  | _ => .Pass ⟨0, 0, 0, 0⟩
abbrev s_is_name : Stmt := top 13
abbrev s_check_names : Stmt := top 14
abbrev s_is_square : Stmt := top 15
abbrev s_check_blocks : Stmt := top 16
abbrev s_kept_blocks : Stmt := top 17
abbrev s_Book__init : Stmt := inClass (top 18) 0
abbrev s_Book__eq : Stmt := inClass (top 18) 1
abbrev s_Book_base : Stmt := inClass (top 18) 2
abbrev s_Book_names : Stmt := inClass (top 18) 3
abbrev s_starts_of : Stmt := top 19
abbrev s_matrix_of : Stmt := top 20
abbrev s_common_divisor : Stmt := top 23
abbrev s_in_steps : Stmt := top 26
abbrev s_shares_of : Stmt := top 28
abbrev s_Span__init : Stmt := inClass (top 29) 0
abbrev s_Span_rest : Stmt := inClass (top 29) 1
abbrev s_Span_take : Stmt := inClass (top 29) 2
abbrev s_System__init : Stmt := inClass (top 31) 0
abbrev s_System_block_count : Stmt := inClass (top 31) 1
abbrev s_system_of : Stmt := top 34
abbrev s_kept_places : Stmt := top 36
abbrev s_Table__init : Stmt := inClass (top 38) 0
abbrev s_Table__eq : Stmt := inClass (top 38) 1
abbrev s_Table_book : Stmt := inClass (top 38) 2
abbrev s_Table_shares : Stmt := inClass (top 38) 3
abbrev s_kin_in : Stmt := top 40
abbrev s_plain_system : Stmt := top 42
abbrev s_rank_of : Stmt := top 43
abbrev s_Shelf__init : Stmt := inClass (top 45) 0
abbrev s_Shelf_limit : Stmt := inClass (top 45) 1
abbrev s_Shelf__eq : Stmt := inClass (top 45) 2
abbrev s_Shelf_titles : Stmt := inClass (top 45) 4
abbrev s_Shelf_check_title : Stmt := inClass (top 45) 5
abbrev s_Shelf_check_base : Stmt := inClass (top 45) 6
abbrev s_Shelf_keep : Stmt := inClass (top 45) 7
abbrev s_Shelf_put : Stmt := inClass (top 45) 8
abbrev s_Shelf_drop : Stmt := inClass (top 45) 9
abbrev s_Shelf_undo : Stmt := inClass (top 45) 10
abbrev s_Shelf_table_on : Stmt := inClass (top 45) 11
abbrev s_SmallShelf_limit : Stmt := inClass (top 46) 1
abbrev s_L_pool : Stmt := top 48
abbrev s_L_draw : Stmt := top 49
abbrev s_L_factor : Stmt := top 50
abbrev s_L_pane : Stmt := top 51
abbrev s_L_kind : Stmt := top 52
abbrev s_L_made : Stmt := top 53
abbrev s_L_parts : Stmt := top 54
abbrev s_L_base_table : Stmt := top 55
abbrev s_L_table_made : Stmt := top 56
abbrev s_L_others_right : Stmt := top 57
abbrev s_L_right : Stmt := top 58
abbrev s_law : Stmt := top 59
abbrev s_SmallShelf__init : Stmt := inClass (top 46) 0
def lawFile : Str := PySem.Challenge.rw_blockbooks_k62_equal_shelves.prog.main.file
def df_is_name : DfA := ⟨.g "is_name", "is_name", "is_name", defArgs s_is_name, defBody s_is_name, defScope s_is_name, none⟩
def df_check_names : DfA := ⟨.g "check_names", "check_names", "check_names", defArgs s_check_names, defBody s_check_names, defScope s_check_names, none⟩
def df_is_square : DfA := ⟨.g "is_square", "is_square", "is_square", defArgs s_is_square, defBody s_is_square, defScope s_is_square, none⟩
def df_check_blocks : DfA := ⟨.g "check_blocks", "check_blocks", "check_blocks", defArgs s_check_blocks, defBody s_check_blocks, defScope s_check_blocks, none⟩
def df_kept_blocks : DfA := ⟨.g "kept_blocks", "kept_blocks", "kept_blocks", defArgs s_kept_blocks, defBody s_kept_blocks, defScope s_kept_blocks, none⟩
def df_Book__init : DfA := ⟨.m "Book" "__init__", "__init__", "Book.__init__", defArgs s_Book__init, defBody s_Book__init, defScope s_Book__init, none⟩
def df_Book__eq : DfA := ⟨.m "Book" "__eq__", "__eq__", "Book.__eq__", defArgs s_Book__eq, defBody s_Book__eq, defScope s_Book__eq, none⟩
def df_Book_base : DfA := ⟨.p "Book" "base", "base", "Book.base", defArgs s_Book_base, defBody s_Book_base, defScope s_Book_base, none⟩
def df_Book_names : DfA := ⟨.p "Book" "names", "names", "Book.names", defArgs s_Book_names, defBody s_Book_names, defScope s_Book_names, none⟩
def df_starts_of : DfA := ⟨.g "starts_of", "starts_of", "starts_of", defArgs s_starts_of, defBody s_starts_of, defScope s_starts_of, none⟩
def df_matrix_of : DfA := ⟨.g "matrix_of", "matrix_of", "matrix_of", defArgs s_matrix_of, defBody s_matrix_of, defScope s_matrix_of, none⟩
def df_common_divisor : DfA := ⟨.g "common_divisor", "common_divisor", "common_divisor", defArgs s_common_divisor, defBody s_common_divisor, defScope s_common_divisor, none⟩
def df_in_steps : DfA := ⟨.g "in_steps", "in_steps", "in_steps", defArgs s_in_steps, defBody s_in_steps, defScope s_in_steps, none⟩
def df_shares_of : DfA := ⟨.g "shares_of", "shares_of", "shares_of", defArgs s_shares_of, defBody s_shares_of, defScope s_shares_of, none⟩
def df_Span__init : DfA := ⟨.m "Span" "__init__", "__init__", "Span.__init__", defArgs s_Span__init, defBody s_Span__init, defScope s_Span__init, none⟩
def df_Span_rest : DfA := ⟨.m "Span" "rest", "rest", "Span.rest", defArgs s_Span_rest, defBody s_Span_rest, defScope s_Span_rest, none⟩
def df_Span_take : DfA := ⟨.m "Span" "take", "take", "Span.take", defArgs s_Span_take, defBody s_Span_take, defScope s_Span_take, none⟩
def df_System__init : DfA := ⟨.m "System" "__init__", "__init__", "System.__init__", defArgs s_System__init, defBody s_System__init, defScope s_System__init, none⟩
def df_System_block_count : DfA := ⟨.m "System" "block_count", "block_count", "System.block_count", defArgs s_System_block_count, defBody s_System_block_count, defScope s_System_block_count, none⟩
def df_system_of : DfA := ⟨.g "system_of", "system_of", "system_of", defArgs s_system_of, defBody s_system_of, defScope s_system_of, none⟩
def df_Table_book : DfA := ⟨.p "Table" "book", "book", "Table.book", defArgs s_Table_book, defBody s_Table_book, defScope s_Table_book, none⟩
def df_Table_shares : DfA := ⟨.p "Table" "shares", "shares", "Table.shares", defArgs s_Table_shares, defBody s_Table_shares, defScope s_Table_shares, none⟩
def df_kept_places : DfA := ⟨.g "kept_places", "kept_places", "kept_places", defArgs s_kept_places, defBody s_kept_places, defScope s_kept_places, none⟩
def df_Table__init : DfA := ⟨.m "Table" "__init__", "__init__", "Table.__init__", defArgs s_Table__init, defBody s_Table__init, defScope s_Table__init, none⟩
def df_Table__eq : DfA := ⟨.m "Table" "__eq__", "__eq__", "Table.__eq__", defArgs s_Table__eq, defBody s_Table__eq, defScope s_Table__eq, none⟩
def df_kin_in : DfA := ⟨.g "kin_in", "kin_in", "kin_in", defArgs s_kin_in, defBody s_kin_in, defScope s_kin_in, none⟩
def df_plain_system : DfA := ⟨.g "plain_system", "plain_system", "plain_system", defArgs s_plain_system, defBody s_plain_system, defScope s_plain_system, none⟩
def df_rank_of : DfA := ⟨.g "rank_of", "rank_of", "rank_of", defArgs s_rank_of, defBody s_rank_of, defScope s_rank_of, none⟩
def df_Shelf__init : DfA := ⟨.m "Shelf" "__init__", "__init__", "Shelf.__init__", defArgs s_Shelf__init, defBody s_Shelf__init, defScope s_Shelf__init, none⟩
def df_Shelf_limit : DfA := ⟨.m "Shelf" "limit", "limit", "Shelf.limit", defArgs s_Shelf_limit, defBody s_Shelf_limit, defScope s_Shelf_limit, none⟩
def df_Shelf__eq : DfA := ⟨.m "Shelf" "__eq__", "__eq__", "Shelf.__eq__", defArgs s_Shelf__eq, defBody s_Shelf__eq, defScope s_Shelf__eq, none⟩
def df_SmallShelf_limit : DfA := ⟨.m "SmallShelf" "limit", "limit", "SmallShelf.limit", defArgs s_SmallShelf_limit, defBody s_SmallShelf_limit, defScope s_SmallShelf_limit, none⟩
def df_Shelf_titles : DfA := ⟨.p "Shelf" "titles", "titles", "Shelf.titles", defArgs s_Shelf_titles, defBody s_Shelf_titles, defScope s_Shelf_titles, none⟩
def df_Shelf_check_title : DfA := ⟨.m "Shelf" "check_title", "check_title", "Shelf.check_title", defArgs s_Shelf_check_title, defBody s_Shelf_check_title, defScope s_Shelf_check_title, none⟩
def df_Shelf_check_base : DfA := ⟨.m "Shelf" "check_base", "check_base", "Shelf.check_base", defArgs s_Shelf_check_base, defBody s_Shelf_check_base, defScope s_Shelf_check_base, none⟩
def df_Shelf_keep : DfA := ⟨.m "Shelf" "keep", "keep", "Shelf.keep", defArgs s_Shelf_keep, defBody s_Shelf_keep, defScope s_Shelf_keep, none⟩
def df_Shelf_put : DfA := ⟨.m "Shelf" "put", "put", "Shelf.put", defArgs s_Shelf_put, defBody s_Shelf_put, defScope s_Shelf_put, none⟩
def df_Shelf_drop : DfA := ⟨.m "Shelf" "drop", "drop", "Shelf.drop", defArgs s_Shelf_drop, defBody s_Shelf_drop, defScope s_Shelf_drop, none⟩
def df_Shelf_undo : DfA := ⟨.m "Shelf" "undo", "undo", "Shelf.undo", defArgs s_Shelf_undo, defBody s_Shelf_undo, defScope s_Shelf_undo, none⟩
def df_Shelf_table_on : DfA := ⟨.m "Shelf" "table_on", "table_on", "Shelf.table_on", defArgs s_Shelf_table_on, defBody s_Shelf_table_on, defScope s_Shelf_table_on, none⟩
def df_L_pool : DfA := ⟨.g "_law_pool", "_law_pool", "_law_pool", defArgs s_L_pool, defBody s_L_pool, defScope s_L_pool, none⟩
def df_L_draw : DfA := ⟨.g "_law_draw", "_law_draw", "_law_draw", defArgs s_L_draw, defBody s_L_draw, defScope s_L_draw, none⟩
def df_L_factor : DfA := ⟨.g "_law_factor", "_law_factor", "_law_factor", defArgs s_L_factor, defBody s_L_factor, defScope s_L_factor, none⟩
def df_L_pane : DfA := ⟨.g "_law_pane", "_law_pane", "_law_pane", defArgs s_L_pane, defBody s_L_pane, defScope s_L_pane, none⟩
def df_L_kind : DfA := ⟨.g "_law_kind", "_law_kind", "_law_kind", defArgs s_L_kind, defBody s_L_kind, defScope s_L_kind, none⟩
def df_L_made : DfA := ⟨.g "_law_made", "_law_made", "_law_made", defArgs s_L_made, defBody s_L_made, defScope s_L_made, none⟩
def df_L_parts : DfA := ⟨.g "_law_parts", "_law_parts", "_law_parts", defArgs s_L_parts, defBody s_L_parts, defScope s_L_parts, none⟩
def df_L_base_table : DfA := ⟨.g "_law_base_table", "_law_base_table", "_law_base_table", defArgs s_L_base_table, defBody s_L_base_table, defScope s_L_base_table, none⟩
def df_L_table_made : DfA := ⟨.g "_law_table_made", "_law_table_made", "_law_table_made", defArgs s_L_table_made, defBody s_L_table_made, defScope s_L_table_made, none⟩
def df_L_others_right : DfA := ⟨.g "_law_others_right", "_law_others_right", "_law_others_right", defArgs s_L_others_right, defBody s_L_others_right, defScope s_L_others_right, none⟩
def df_SmallShelf__init : DfA := ⟨.m "SmallShelf" "__init__", "__init__", "SmallShelf.__init__", defArgs s_SmallShelf__init, defBody s_SmallShelf__init, defScope s_SmallShelf__init, some ("SmallShelf", lawFile)⟩
def df_L_right : DfA := ⟨.g "_law_right", "_law_right", "_law_right", defArgs s_L_right, defBody s_L_right, defScope s_L_right, none⟩
def df_law : DfA := ⟨.g "law", "law", "law", defArgs s_law, defBody s_law, defScope s_law, none⟩
def fnL : List DfA := [df_is_name, df_check_names, df_is_square, df_check_blocks, df_kept_blocks, df_Book__init, df_Book__eq, df_Book_base, df_Book_names, df_starts_of, df_matrix_of, df_common_divisor, df_in_steps, df_shares_of, df_Span__init, df_Span_rest, df_Span_take, df_System__init, df_System_block_count, df_system_of, df_Table_book, df_Table_shares, df_kept_places, df_Table__init, df_Table__eq, df_kin_in, df_plain_system, df_rank_of, df_Shelf__init, df_Shelf_limit, df_Shelf__eq, df_SmallShelf_limit, df_Shelf_titles, df_Shelf_check_title, df_Shelf_check_base, df_Shelf_keep, df_Shelf_put, df_Shelf_drop, df_Shelf_undo, df_Shelf_table_on, df_L_pool, df_L_draw, df_L_factor, df_L_pane, df_L_kind, df_L_made, df_L_parts, df_L_base_table, df_L_table_made, df_L_others_right, df_SmallShelf__init, df_L_right, df_law]
def faL0 : List Fq := [.fa (.free "len"), .fa (.str "LETTERS" "abcdefghijklmnopqrstuvwxyz"), .fa (.glo "is_name"), .fa (.free "all"), .fa (.glo "is_square"), .fa (.free "tuple"), .two "BASES" 2 3, .fa (.glo "BASES"), .fa (.glo "check_names"), .fa (.glo "check_blocks"), .fa (.cls "Book"), .fa (.noat "Book" "radix"), .fa (.cls "Shelf"), .fa (.noat "Shelf" "radix"), .fa (.cls "SmallShelf"), .fa (.noat "SmallShelf" "radix"), .fa (.glo "kept_blocks"), .fa (.noat "Book" "kept"), .insT "Book", .insT "Table", .insT "Shelf", .insT "SmallShelf", .desc, .fa (.cls "Table"), .sub "Book" "Book" true, .sub "Book" "Table" false, .sub "Book" "Shelf" false, .sub "Book" "SmallShelf" false, .sub "Table" "Book" false, .sub "Table" "Table" true, .sub "Table" "Shelf" false, .sub "Table" "SmallShelf" false, .sub "Shelf" "Book" false, .sub "Shelf" "Table" false, .sub "Shelf" "Shelf" true, .sub "Shelf" "SmallShelf" true, .sub "SmallShelf" "Book" false, .sub "SmallShelf" "Table" false, .sub "SmallShelf" "Shelf" false, .sub "SmallShelf" "SmallShelf" true]
def faL1 : List Fq := [.bas "Book" "NoneType", .bas "Book" "bool", .bas "Book" "int", .bas "Book" "str", .bas "Book" "list", .bas "Book" "tuple", .bas "Book" "dict", .bas "Table" "NoneType", .bas "Table" "bool", .bas "Table" "int", .bas "Table" "str", .bas "Table" "list", .bas "Table" "tuple", .bas "Table" "dict", .bas "Shelf" "NoneType", .bas "Shelf" "bool", .bas "Shelf" "int", .bas "Shelf" "str", .bas "Shelf" "list", .bas "Shelf" "tuple", .bas "Shelf" "dict", .bas "SmallShelf" "NoneType", .bas "SmallShelf" "bool", .bas "SmallShelf" "int", .bas "SmallShelf" "str", .bas "SmallShelf" "list", .bas "SmallShelf" "tuple", .bas "SmallShelf" "dict", .fa (.free "isinstance"), .fa (.glo "Book"), .prop "Book" "names", .fa (.free "abs"), .fa (.free "range"), .fa (.free "any"), .fa (.cls "Span"), .fa (.noat "Span" "lines"), .fa (.glo "common_divisor"), .fa (.free "list"), .fa (.meth "Span" "rest"), .fa (.cls "System")]
def faL2 : List Fq := [.fa (.noat "System" "starts"), .fa (.noat "System" "matrices"), .fa (.noat "System" "factors"), .fa (.noat "Table" "told_by"), .fa (.noat "Table" "parts"), .prop "Table" "book", .prop "Book" "base", .fa (.glo "matrix_of"), .fa (.mkr "System"), .fa (.glo "System"), .prop "Table" "shares", .fa (.glo "starts_of"), .fa (.mkr "Span"), .fa (.glo "Span"), .fa (.free "sorted"), .fa (.meth "Span" "take"), .fa (.glo "Table"), .eqm "Book" "__eq__" "Book", .fa (.glo "shares_of"), .fa (.glo "in_steps"), .fa (.meth "System" "block_count"), .fa (.glo "kin_in"), .fa (.glo "kept_places"), .fa (.free "zip"), .fa (.mkr "Table"), .fa (.mkr "Book"), .fa (.glo "plain_system"), .fa (.glo "system_of"), .fa (.noat "Shelf" "calls"), .fa (.noat "SmallShelf" "calls"), .fa (.noat "Shelf" "states"), .fa (.noat "SmallShelf" "states"), .fa (.noat "SmallShelf" "greatest"), .fa (.glo "Shelf"), .fa (.meth "Shelf" "limit"), .fa (.meth "SmallShelf" "limit"), .eqm "Table" "__eq__" "Table", .fa (.meth "Shelf" "check_base"), .same (.m "SmallShelf" "check_base") (.m "Shelf" "check_base"), .fa (.meth "SmallShelf" "check_base")]
def faL3 : List Fq := [.fa (.glo "rank_of"), .fa (.meth "Shelf" "keep"), .same (.m "SmallShelf" "keep") (.m "Shelf" "keep"), .fa (.meth "SmallShelf" "keep"), .fa (.meth "Shelf" "check_title"), .same (.m "SmallShelf" "check_title") (.m "Shelf" "check_title"), .fa (.meth "SmallShelf" "check_title"), .fa (.free "int"), .fa (.free "max"), .fa (.glo "_law_draw"), .fa (.glo "_law_factor"), .fa (.free "min"), .fa (.glo "_law_pane"), .fa (.glo "_law_kind"), .fa (.glo "_law_parts"), .fa (.glo "_law_made"), .fa (.free "super"), .supm "SmallShelf" "SmallShelf" "__init__" "Shelf", .fa (.mkr "Shelf"), .fa (.meth "Shelf" "put"), .same (.m "SmallShelf" "put") (.m "Shelf" "put"), .fa (.meth "SmallShelf" "put"), .eqm "Shelf" "__eq__" "Shelf", .fa (.mkr "SmallShelf"), .fa (.glo "SmallShelf"), .eqm "SmallShelf" "__eq__" "Shelf", .diff "SmallShelf" "Shelf", .fa (.glo "_law_base_table"), .find "Shelf" "__ne__" (.builtin "object.__ne__"), .fa (.glo "_law_table_made"), .prop "Shelf" "titles", .fa (.meth "Shelf" "undo"), .fa (.meth "Shelf" "drop"), .fa (.glo "_law_others_right"), .fa (.meth "Shelf" "table_on"), .fa (.glo "_law_pool"), .fa (.glo "_law_right"), .fa (.glo "law")]
def faL : List Fq := faL0 ++ (faL1 ++ (faL2 ++ (faL3)))
def nmL0 : List Str := ["_wall", "BlockError", "InvalidBase", "InvalidName", "InvalidBlocks", "InvalidNumber", "UnlikeBases", "TooWide", "NothingToUndo", "LETTERS", "BASES", "is_name", "check_names", "is_square", "check_blocks", "kept_blocks", "Book", "starts_of", "matrix_of", "dot"]
def nmL1 : List Str := ["common_divisor", "reduced_by", "cleared", "in_steps", "first_spot", "shares_of", "Span", "System", "size_of", "block_places", "system_of", "followers_of", "kept_places", "Table", "kin_in", "told_formula", "plain_system", "rank_of", "Shelf", "SmallShelf"]
def nmL2 : List Str := ["_law_pool", "_law_draw", "_law_factor", "_law_pane", "_law_kind", "_law_made", "_law_parts", "_law_base_table", "_law_table_made", "_law_others_right", "_law_right"]
def nmL : List Str := nmL0 ++ (nmL1 ++ (nmL2))
abbrev lawDf : Nat := 52
abbrev lawFact : Nat := 157
abbrev lawPlace : Nat := 59
abbrev hkL : PySem.W.Hook := hookZ 5 faL fnL
def obL (s : PySem.W.SharedT) : AlZ := obsZG 5 faL fnL (HandSHeadRun.getT s)
theorem runL (w : World) : HandSHeadRun.RunEq RL (PySem.W.view RL.prog [lawPlace]) hkL obL 12000 nmL w := by
  intro os
  kernel_rfl
end HD
namespace HD
open PySem L2

/-! ## pure data and how the heap bears it -/
inductive D where
  | non | bl (b : Bool) | int (i : Int) | str (x : Str)
  | lst (xs : List D) | tup (xs : List D) | ro (xs : List D)
  | obj (c : Str) (fs : List D)
  | dic (ks : List Key) (ds : List D)
  | cell (a : Addr)

structure Gx where
  P : Program
  w : World
  K : PySem.W.Frag
  mg : Str → Option Value
  base : Heap
def Gx.ca (G : Gx) (c : Str) : Addr := He.ga G.K c
/-- the fields of an instance, in the order in which they are stored -/
def flds (c : Str) : List Str :=
  if c = "Book" then ["radix", "kept"] else if c = "Table" then ["told_by", "parts"] else
  if c = "System" then ["starts", "matrices", "factors"] else []

abbrev Ex (H H' : Hp) : Prop := ∀ a o, H a = some o → H' a = some o
theorem Ex.refl (H : Hp) : Ex H H := fun _ _ h => h
theorem Ex.trans {H H1 H2 : Hp} (a : Ex H H1) (b : Ex H1 H2) : Ex H H2 := fun x o h => b x o (a x o h)
theorem Ex.new {H : Hp} {p : Addr} {o : HO} (h : H p = none) : Ex H (upd H p o) := fun a u e => by
  rw [upd_ne (ne_of_none e h)]; exact e
theorem ex_rd {H H' : Hp} {a : Addr} {u : HO} (e : Ex H H') (h : Rd H a u) : Rd H' a u := by
  rcases h with h | ⟨o, h⟩
  · exact Or.inl (e a _ h)
  · exact Or.inr ⟨o, e a _ h⟩
theorem ex_l {K : PySem.W.Frag} {H H' : Hp} {a : Addr} {xs : List V} (e : Ex H H') (h : SqL K H a xs) : SqL K H' a xs := by
  rcases h with h | h
  · exact Or.inl (ex_rd e h)
  · exact Or.inr h
theorem ex_t {K : PySem.W.Frag} {H H' : Hp} {a : Addr} {xs : List V} (e : Ex H H') (h : SqT K H a xs) : SqT K H' a xs := by
  rcases h with h | h
  · exact Or.inl (ex_rd e h)
  · exact Or.inr h

mutual
def Rep (G : Gx) (F : Hp) : D → V → Prop
  | .non, v => v = .non
  | .bl b, v => v = .bl b
  | .int i, v => v = .int i
  | .str x, v => v = .str x
  | .lst ds, v => ∃ a vs, v = .ref a ∧ F a = some (.lst vs) ∧ Reps G F ds vs
  | .tup ds, v => ∃ a vs, v = .ref a ∧ SqT G.K F a vs ∧ Reps G F ds vs
  | .ro ds, v => ∃ a vs, v = .ref a ∧ SqL G.K F a vs ∧ Reps G F ds vs
  | .obj c ds, v => ∃ a dx vs, v = .ref a ∧ F a = some (.ins (G.ca c) dx ((flds c).zip vs)) ∧ (flds c).length = ds.length ∧ Reps G F ds vs
  | .dic ks ds, v => ∃ a o vs, v = .ref a ∧ F a = some (.frz o (.dK (ks.zip vs))) ∧ ks.length = ds.length ∧ ks.Nodup ∧ Reps G F ds vs
  | .cell a, v => v = .ref a
def Reps (G : Gx) (F : Hp) : List D → List V → Prop
  | [], vs => vs = []
  | d :: ds, vs => ∃ v us, vs = v :: us ∧ Rep G F d v ∧ Reps G F ds us
end
variable {G : Gx} {F F' H H' Φ : Hp}
mutual
theorem Rep.mono (e : Ex F F') : ∀ {d : D} {v : V}, Rep G F d v → Rep G F' d v
  | .non, _, h | .bl _, _, h | .int _, _, h | .str _, _, h | .cell _, _, h => by simpa only [Rep] using h
  | .lst ds, _, h => by
    rw [Rep] at h ⊢; obtain ⟨a, vs, h1, h2, h3⟩ := h; exact ⟨a, vs, h1, e _ _ h2, Reps.mono e h3⟩
  | .tup ds, _, h => by
    rw [Rep] at h ⊢; obtain ⟨a, vs, h1, h2, h3⟩ := h; exact ⟨a, vs, h1, ex_t e h2, Reps.mono e h3⟩
  | .ro ds, _, h => by
    rw [Rep] at h ⊢; obtain ⟨a, vs, h1, h2, h3⟩ := h; exact ⟨a, vs, h1, ex_l e h2, Reps.mono e h3⟩
  | .obj c ds, _, h => by
    rw [Rep] at h ⊢; obtain ⟨a, dx, vs, h1, h2, h3, h4⟩ := h; exact ⟨a, dx, vs, h1, e _ _ h2, h3, Reps.mono e h4⟩
  | .dic ks ds, _, h => by
    rw [Rep] at h ⊢; obtain ⟨a, o, vs, h1, h2, h3, h5, h4⟩ := h; exact ⟨a, o, vs, h1, e _ _ h2, h3, h5, Reps.mono e h4⟩
theorem Reps.mono (e : Ex F F') : ∀ {ds : List D} {vs : List V}, Reps G F ds vs → Reps G F' ds vs
  | [], _, h => by simpa only [Reps] using h
  | d :: ds, _, h => by
    rw [Reps] at h ⊢; obtain ⟨v, us, h1, h2, h3⟩ := h; exact ⟨v, us, h1, Rep.mono e h2, Reps.mono e h3⟩
end
theorem Reps.nil : Reps G F [] [] := by rw [Reps]
theorem Reps.cons {d : D} {v : V} {ds : List D} {vs : List V} (h : Rep G F d v) (t : Reps G F ds vs) : Reps G F (d :: ds) (v :: vs) := by
  rw [Reps]; exact ⟨v, vs, rfl, h, t⟩
theorem Reps.len : ∀ {ds : List D} {vs : List V}, Reps G F ds vs → ds.length = vs.length
  | [], _, h => by rw [Reps] at h; rw [h]; rfl
  | d :: ds, _, h => by
    rw [Reps] at h; obtain ⟨v, us, rfl, _, h3⟩ := h
    rw [List.length_cons, List.length_cons, Reps.len h3]
theorem Reps.get : ∀ {ds : List D} {vs : List V} {i : Nat} {d : D}, Reps G F ds vs → ds[i]? = some d → ∃ v, vs[i]? = some v ∧ Rep G F d v
  | [], _, _, _, _, e => by simp at e
  | d :: ds, _, 0, _, h, e => by
    rw [Reps] at h; obtain ⟨v, us, rfl, h2, _⟩ := h
    simp at e; subst e; exact ⟨v, rfl, h2⟩
  | d :: ds, _, i + 1, x, h, e => by
    rw [Reps] at h; obtain ⟨v, us, rfl, _, h3⟩ := h
    obtain ⟨v', e1, e2⟩ := Reps.get (i := i) (d := x) h3 (by simpa using e)
    exact ⟨v', by simpa using e1, e2⟩
theorem Reps.getV : ∀ {ds : List D} {vs : List V} {i : Nat} {v : V}, Reps G F ds vs → vs[i]? = some v → ∃ d, ds[i]? = some d ∧ Rep G F d v
  | [], _, _, _, h, e => by rw [Reps] at h; subst h; simp at e
  | d :: ds, _, 0, _, h, e => by
    rw [Reps] at h; obtain ⟨v, us, rfl, h2, _⟩ := h
    simp at e; subst e; exact ⟨d, rfl, h2⟩
  | d :: ds, _, i + 1, x, h, e => by
    rw [Reps] at h; obtain ⟨v, us, rfl, _, h3⟩ := h
    obtain ⟨v', e1, e2⟩ := Reps.getV (i := i) (v := x) h3 (by simpa using e)
    exact ⟨v', by simpa using e1, e2⟩
theorem Reps.append : ∀ {ds es : List D} {vs us : List V}, Reps G F ds vs → Reps G F es us → Reps G F (ds ++ es) (vs ++ us)
  | [], _, _, _, h, q => by rw [Reps] at h; subst h; simpa using q
  | d :: ds, _, _, _, h, q => by
    rw [Reps] at h; obtain ⟨v, us, rfl, h2, h3⟩ := h
    exact Reps.cons h2 (Reps.append h3 q)
theorem Reps.snoc {d : D} {v : V} {ds : List D} {vs : List V} (t : Reps G F ds vs) (h : Rep G F d v) : Reps G F (ds ++ [d]) (vs ++ [v]) := t.append (.cons h .nil)
theorem Reps.drop : ∀ {ds : List D} {vs : List V} (n : Nat), Reps G F ds vs → Reps G F (ds.drop n) (vs.drop n)
  | _, _, 0, h => by simpa using h
  | [], _, n + 1, h => by rw [Reps] at h; subst h; simpa using Reps.nil
  | d :: ds, _, n + 1, h => by
    rw [Reps] at h; obtain ⟨v, us, rfl, h2, h3⟩ := h
    simpa using Reps.drop n h3
theorem Reps.take : ∀ {ds : List D} {vs : List V} (n : Nat), Reps G F ds vs → Reps G F (ds.take n) (vs.take n)
  | _, _, 0, h => by simpa using Reps.nil
  | [], _, n + 1, h => by rw [Reps] at h; subst h; simpa using Reps.nil
  | d :: ds, _, n + 1, h => by
    rw [Reps] at h; obtain ⟨v, us, rfl, h2, h3⟩ := h
    simpa using Reps.cons h2 (Reps.take n h3)
theorem Reps.set : ∀ {ds : List D} {vs : List V} {d : D} {v : V} (n : Nat), Reps G F ds vs → Rep G F d v → Reps G F (ds.set n d) (vs.set n v)
  | [], _, _, _, _, h, _ => by rw [Reps] at h; subst h; simpa using Reps.nil
  | d :: ds, _, _, _, 0, h, q => by
    rw [Reps] at h; obtain ⟨v, us, rfl, h2, h3⟩ := h
    simpa using Reps.cons q h3
  | d :: ds, _, _, _, n + 1, h, q => by
    rw [Reps] at h; obtain ⟨v, us, rfl, h2, h3⟩ := h
    simpa using Reps.cons h2 (Reps.set n h3 q)
theorem Reps.reverse : ∀ {ds : List D} {vs : List V}, Reps G F ds vs → Reps G F ds.reverse vs.reverse
  | [], _, h => by rw [Reps] at h; subst h; simpa using Reps.nil
  | d :: ds, _, h => by
    rw [Reps] at h; obtain ⟨v, us, rfl, h2, h3⟩ := h
    rw [List.reverse_cons, List.reverse_cons]
    exact (Reps.reverse h3).snoc h2
theorem Reps.ints : ∀ {ns : List Int} {vs : List V}, Reps G F (ns.map D.int) vs → vs = ns.map V.int
  | [], _, h => by rw [List.map_nil, Reps] at h; subst h; rfl
  | n :: ns, _, h => by
    rw [List.map_cons, Reps] at h; obtain ⟨v, us, rfl, h2, h3⟩ := h
    rw [Rep] at h2; rw [h2, Reps.ints h3]; rfl
theorem Reps.of_ints : ∀ (ns : List Int), Reps G F (ns.map D.int) (ns.map V.int)
  | [] => Reps.nil
  | n :: ns => Reps.cons (by rw [Rep]) (Reps.of_ints ns)
theorem Reps.bls : ∀ {ns : List Bool} {vs : List V}, Reps G F (ns.map D.bl) vs → vs = ns.map V.bl
  | [], _, h => by rw [List.map_nil, Reps] at h; subst h; rfl
  | n :: ns, _, h => by
    rw [List.map_cons, Reps] at h; obtain ⟨v, us, rfl, h2, h3⟩ := h
    rw [Rep] at h2; rw [h2, Reps.bls h3]; rfl
theorem Reps.strs : ∀ {ns : List Str} {vs : List V}, Reps G F (ns.map D.str) vs → vs = ns.map V.str
  | [], _, h => by rw [List.map_nil, Reps] at h; subst h; rfl
  | n :: ns, _, h => by
    rw [List.map_cons, Reps] at h; obtain ⟨v, us, rfl, h2, h3⟩ := h
    rw [Rep] at h2; rw [h2, Reps.strs h3]; rfl

/-! ## mutable things -/
inductive MO where
  | lst (ds : List D)
  | ins (c : Str) (ns : List Str) (ds : List D)
  | dic (ks : List Key) (ds : List D)
abbrev MS := Addr → Option MO
def MS.put (M : MS) (a : Addr) (o : MO) : MS := fun b => if b = a then some o else M b
def MS.del (M : MS) (a : Addr) : MS := fun b => if b = a then none else M b
theorem MS.put_same {M : MS} {a : Addr} {o : MO} : M.put a o a = some o := if_pos rfl
theorem MS.put_ne {M : MS} {a b : Addr} {o : MO} (h : b ≠ a) : M.put a o b = M b := if_neg h
theorem MS.del_same {M : MS} {a : Addr} : M.del a a = none := if_pos rfl
theorem MS.del_ne {M : MS} {a b : Addr} (h : b ≠ a) : M.del a b = M b := if_neg h
theorem MS.put_put {M : MS} {a : Addr} {o p : MO} : (M.put a o).put a p = M.put a p := by
  funext b; unfold MS.put; split <;> rfl
theorem MS.put_self {M : MS} {a : Addr} {o : MO} (h : M a = some o) : M.put a o = M := by
  funext b; unfold MS.put; split
  · rename_i e; rw [e, h]
  · rfl
theorem MS.del_put {M : MS} {a : Addr} {o : MO} (h : M a = none) : (M.put a o).del a = M := by
  funext b; unfold MS.del MS.put; split
  · rename_i e; rw [e, h]
  · rfl
theorem MS.put_comm {M : MS} {a b : Addr} {o p : MO} (h : a ≠ b) : (M.put a o).put b p = (M.put b p).put a o := by
  funext c; unfold MS.put; split
  · rename_i e; subst e; rw [if_neg (fun z => h z.symm)]
  · rfl
theorem MS.del_put_ne {M : MS} {a b : Addr} {o : MO} (h : a ≠ b) : (M.put a o).del b = (M.del b).put a o := by
  funext c
  by_cases e : c = b
  · subst e; rw [MS.del_same, MS.put_ne (fun z => h z.symm), MS.del_same]
  · rw [MS.del_ne e]
    by_cases e2 : c = a
    · subst e2; rw [MS.put_same, MS.put_same]
    · rw [MS.put_ne e2, MS.put_ne e2, MS.del_ne e]
def MOk (G : Gx) (F H : Hp) (a : Addr) : MO → Prop
  | .lst ds => ∃ vs, H a = some (.lst vs) ∧ Reps G F ds vs
  | .ins c ns ds => ∃ dx vs, H a = some (.ins (G.ca c) dx (ns.zip vs)) ∧ ns.length = ds.length ∧ Reps G F ds vs
  | .dic ks ds => ∃ vs, H a = some (.dK (ks.zip vs)) ∧ ks.length = ds.length ∧ Reps G F ds vs
theorem MOk.here {a : Addr} {o : MO} (h : MOk G F H a o) : ∃ u, H a = some u := by
  cases o <;> obtain ⟨_, h⟩ := h
  · exact ⟨_, h.1⟩
  · obtain ⟨_, h, _⟩ := h; exact ⟨_, h⟩
  · exact ⟨_, h.1⟩
theorem MOk.mono {a : Addr} {o : MO} (h : MOk G F H a o) (e : Ex F F') (k : H' a = H a) : MOk G F' H' a o := by
  cases o with
  | lst ds => obtain ⟨vs, h1, h2⟩ := h; exact ⟨vs, by rw [k]; exact h1, h2.mono e⟩
  | ins c ns ds => obtain ⟨dx, vs, h1, h2, h3⟩ := h; exact ⟨dx, vs, by rw [k]; exact h1, h2, h3.mono e⟩
  | dic ks ds => obtain ⟨vs, h1, h2, h3⟩ := h; exact ⟨vs, by rw [k]; exact h1, h2, h3.mono e⟩
/-- the state: F what never changes any more, M what may, Φ what others keep -/
structure Wd (G : Gx) (F : Hp) (M : MS) (Φ H : Hp) : Prop where
  f : ∀ a o, F a = some o → H a = some o
  m : ∀ a o, M a = some o → F a = none ∧ MOk G F H a o
  φ : ∀ a o, Φ a = some o → H a = some o ∧ F a = none ∧ M a = none
variable {M M' : MS} {p a : Addr} {o : HO}
theorem Wd.mH (W : Wd G F M Φ H) {o : MO} (h : M a = some o) : ∃ u, H a = some u := (W.m a o h).2.here
theorem Wd.freeF (W : Wd G F M Φ H) (h : H p = none) : F p = none := by
  cases q : F p with
  | none => rfl
  | some u => rw [W.f p u q] at h; cases h
theorem Wd.freeM (W : Wd G F M Φ H) (h : H p = none) : M p = none := by
  cases q : M p with
  | none => rfl
  | some u => obtain ⟨z, e⟩ := W.mH q; rw [e] at h; cases h
theorem Wd.freeΦ (W : Wd G F M Φ H) (h : H p = none) : Φ p = none := by
  cases q : Φ p with
  | none => rfl
  | some u => rw [(W.φ p u q).1] at h; cases h
theorem ne_of_M {o : MO} (h : M a = some o) (h' : M p = none) : a ≠ p := by
  intro e; subst e; rw [h] at h'; cases h'
/-- a new thing that never changes -/
theorem Wd.new (W : Wd G F M Φ H) (h : H p = none) : Wd G (upd F p o) M Φ (upd H p o) where
  f := fun b u e => by
    by_cases hb : b = p
    · subst hb; rw [upd_same] at e ⊢; exact e
    · rw [upd_ne hb] at e ⊢; exact W.f b u e
  m := fun b u e => by
    have hb : b ≠ p := ne_of_M e (W.freeM h)
    exact ⟨by rw [upd_ne hb]; exact (W.m b u e).1, (W.m b u e).2.mono (Ex.new (W.freeF h)) (upd_ne hb)⟩
  φ := fun b u e => by
    have hb : b ≠ p := ne_of_none e (W.freeΦ h)
    obtain ⟨h1, h2, h3⟩ := W.φ b u e
    exact ⟨by rw [upd_ne hb]; exact h1, by rw [upd_ne hb]; exact h2, h3⟩
theorem Wd.newEx (W : Wd G F M Φ H) (h : H p = none) : Ex F (upd F p o) := Ex.new (W.freeF h)
/-- a new thing that nobody tells of -/
theorem Wd.grow (W : Wd G F M Φ H) (e : Ex H H') : Wd G F M Φ H' where
  f := fun b u q => e b u (W.f b u q)
  m := fun b u q => by
    obtain ⟨h1, h2⟩ := W.m b u q
    obtain ⟨z, hz⟩ := h2.here
    exact ⟨h1, h2.mono (Ex.refl F) (by rw [hz, e b z hz])⟩
  φ := fun b u q => ⟨e b u (W.φ b u q).1, (W.φ b u q).2⟩
/-- a new mutable thing -/
theorem Wd.mnew {mo : MO} (W : Wd G F M Φ H) (h : H p = none) (ok : MOk G F (upd H p o) p mo) : Wd G F (M.put p mo) Φ (upd H p o) where
  f := fun b u e => by
    have hb : b ≠ p := ne_of_none e (W.freeF h)
    rw [upd_ne hb]; exact W.f b u e
  m := fun b u e => by
    by_cases hb : b = p
    · subst hb; rw [MS.put_same] at e; cases e; exact ⟨W.freeF h, ok⟩
    · rw [MS.put_ne hb] at e
      exact ⟨(W.m b u e).1, (W.m b u e).2.mono (Ex.refl F) (upd_ne hb)⟩
  φ := fun b u e => by
    have hb : b ≠ p := ne_of_none e (W.freeΦ h)
    obtain ⟨h1, h2, h3⟩ := W.φ b u e
    exact ⟨by rw [upd_ne hb]; exact h1, h2, by rw [MS.put_ne hb]; exact h3⟩
/-- a mutable thing changed -/
theorem Wd.mset {mo mo' : MO} (W : Wd G F M Φ H) (h : M p = some mo) (ok : MOk G F (upd H p o) p mo') : Wd G F (M.put p mo') Φ (upd H p o) where
  f := fun b u e => by
    have hb : b ≠ p := ne_of_none e (W.m p mo h).1
    rw [upd_ne hb]; exact W.f b u e
  m := fun b u e => by
    by_cases hb : b = p
    · subst hb; rw [MS.put_same] at e; cases e; exact ⟨(W.m b mo h).1, ok⟩
    · rw [MS.put_ne hb] at e
      exact ⟨(W.m b u e).1, (W.m b u e).2.mono (Ex.refl F) (upd_ne hb)⟩
  φ := fun b u e => by
    obtain ⟨h1, h2, h3⟩ := W.φ b u e
    have hb : b ≠ p := fun z => by subst z; rw [h] at h3; cases h3
    exact ⟨by rw [upd_ne hb]; exact h1, h2, by rw [MS.put_ne hb]; exact h3⟩
/-- a mutable thing that from now on never changes -/
theorem Wd.frz {mo : MO} (W : Wd G F M Φ H) (h : M p = some mo) (e : H p = some o) : Wd G (upd F p o) (M.del p) Φ H := by
  have x : Ex F (upd F p o) := Ex.new (W.m p mo h).1
  refine ⟨fun b u q => ?_, fun b u q => ?_, fun b u q => ?_⟩
  · by_cases hb : b = p
    · subst hb; rw [upd_same] at q; cases q; exact e
    · rw [upd_ne hb] at q; exact W.f b u q
  · by_cases hb : b = p
    · subst hb; rw [MS.del_same] at q; cases q
    · rw [MS.del_ne hb] at q
      exact ⟨by rw [upd_ne hb]; exact (W.m b u q).1, (W.m b u q).2.mono x rfl⟩
  · obtain ⟨h1, h2, h3⟩ := W.φ b u q
    have hb : b ≠ p := fun z => by subst z; rw [h] at h3; cases h3
    exact ⟨h1, by rw [upd_ne hb]; exact h2, by rw [MS.del_ne hb]; exact h3⟩
theorem Wd.frzEx {mo : MO} (W : Wd G F M Φ H) (h : M p = some mo) : Ex F (upd F p o) := Ex.new (W.m p mo h).1
/-- a mutable thing is forgotten -/
theorem Wd.drop (W : Wd G F M Φ H) : Wd G F (M.del p) Φ H :=
  ⟨W.f, fun b u q => by
    by_cases hb : b = p
    · subst hb; rw [MS.del_same] at q; cases q
    · rw [MS.del_ne hb] at q; exact W.m b u q,
   fun b u q => by
    obtain ⟨h1, h2, h3⟩ := W.φ b u q
    refine ⟨h1, h2, ?_⟩
    by_cases hb : b = p
    · subst hb; exact MS.del_same
    · rw [MS.del_ne hb]; exact h3⟩
end HD
namespace HD
open PySem L2

/-! ## judgements over pure data -/
abbrev En := List (Option D)
abbrev QD := D → MS → Prop
/-- an exception of an own class with its value -/
abbrev QE := Str → D → MS → Prop
abbrev E00 : QE := fun _ _ _ => False
abbrev DE := En → MS → QD → QE → Prop
abbrev DT := En → MS → (Bool → MS → Prop) → QE → Prop
abbrev DA := En → MS → (List D → MS → Prop) → QE → Prop
structure EndD where
  nx : En → MS → Prop
  rt : QD
  ex : En → QE
  bk : En → MS → Prop := fun _ _ => False
  ct : En → MS → Prop := fun _ _ => False
abbrev DS := EndD → En → MS → Prop

structure EnR (G : Gx) (F : Hp) (σ : St) (env : En) : Prop where
  len : σ.length = env.length
  at_ : ∀ (i : Nat) (d : D), env[i]? = some (some d) → ∃ v, σ[i]? = some (some v) ∧ Rep G F d v
variable {G : Gx} {F F' H H' Φ : Hp} {σ : St} {env : En} {M M' : MS}
theorem EnR.mono (e : Ex F F') (h : EnR G F σ env) : EnR G F' σ env := ⟨h.len, fun i d q => let ⟨v, a, b⟩ := h.at_ i d q; ⟨v, a, b.mono e⟩⟩
theorem EnR.set {i : Nat} {d : D} {v : V} (h : EnR G F σ env) (r : Rep G F d v) : EnR G F (σ.set i (some v)) (env.set i (some d)) := by
  refine ⟨by rw [List.length_set, List.length_set, h.len], fun j e q => ?_⟩
  by_cases hj : i = j
  · subst hj
    by_cases hl : i < env.length
    · rw [List.getElem?_set_self hl] at q; cases q
      exact ⟨v, List.getElem?_set_self (by rw [h.len]; exact hl), r⟩
    · rw [List.getElem?_eq_none (by rw [List.length_set]; omega)] at q; cases q
  · rw [List.getElem?_set_ne hj] at q ⊢
    exact h.at_ j e q
theorem EnR.unset {i : Nat} (h : EnR G F σ env) : EnR G F (σ.set i none) (env.set i none) := by
  refine ⟨by rw [List.length_set, List.length_set, h.len], fun j e q => ?_⟩
  by_cases hj : i = j
  · subst hj
    by_cases hl : i < env.length
    · rw [List.getElem?_set_self hl] at q; cases q
    · rw [List.getElem?_eq_none (by rw [List.length_set]; omega)] at q; cases q
  · rw [List.getElem?_set_ne hj] at q ⊢
    exact h.at_ j e q
def wipeD (env : En) : List Nat → En
  | [] => env
  | v :: vs => (wipeD env vs).set v none
theorem EnR.wipe : ∀ (vs : List Nat), EnR G F σ env → EnR G F (wipe σ vs) (wipeD env vs)
  | [], h => h
  | v :: vs, h => (EnR.wipe vs h).unset
/-- what is wanted behind: of a value, of an exception -/
def NP (G : Gx) (F Φ : Hp) (Q : QD) (Qh : VK) : Prop := ∀ d v F' M' H', Ex F F' → Wd G F' M' Φ H' → Rep G F' d v → Q d M' → Qh v H'
def EPo (G : Gx) (F Φ : Hp) (E : QE) (W : Value → Option Addr → Hp → Prop) : Prop := ∀ c d v dx F' M' H', Ex F F' → Wd G F' M' Φ H' → Rep G F' d v → H' dx = some (.xd [("value", v)]) → E c d M' → W (.ref (G.ca c)) (some dx) H'
theorem EPo.mono {E : QE} {W : Value → Option Addr → Hp → Prop} (e : Ex F F') (h : EPo G F Φ E W) : EPo G F' Φ E W := fun c d v dx F2 M2 H2 e2 => h c d v dx F2 M2 H2 (e.trans e2)
theorem EPo.none {W : Value → Option Addr → Hp → Prop} : EPo G F Φ E00 W := fun _ _ _ _ _ _ _ _ _ _ _ h => h.elim
/-- a reading over data, as the layer's -/
def tD (G : Gx) (W : WX) (t : DE) : TE := fun σ H Qh => ∃ env F M Φ Q E, EnR G F σ env ∧ Wd G F M Φ H ∧ t env M Q E ∧ NP G F Φ Q Qh ∧ EPo G F Φ E fun c d H' => W c d σ H'
def tDT (G : Gx) (W : WX) (t : DT) : TT := fun σ H Qh => ∃ env F M Φ Q E, EnR G F σ env ∧ Wd G F M Φ H ∧ t env M Q E ∧ (∀ b F' M' H', Ex F F' → Wd G F' M' Φ H' → Q b M' → Qh b H') ∧ EPo G F Φ E fun c d H' => W c d σ H'
def tDA (G : Gx) (W : WX) (t : DA) : TA := fun σ H Qh => ∃ env F M Φ Q E, EnR G F σ env ∧ Wd G F M Φ H ∧ t env M Q E ∧ (∀ ds vs F' M' H', Ex F F' → Wd G F' M' Φ H' → Reps G F' ds vs → Q ds M' → Qh vs H') ∧ EPo G F Φ E fun c d H' => W c d σ H'
structure EndOk (G : Gx) (W : WX) (F Φ : Hp) (D' : EndD) (Dh : Ends) : Prop where
  nx : ∀ env σ F' M' H', Ex F F' → EnR G F' σ env → Wd G F' M' Φ H' → D'.nx env M' → Dh.nx σ H'
  rt : NP G F Φ D'.rt Dh.rt
  bk : ∀ env σ F' M' H', Ex F F' → EnR G F' σ env → Wd G F' M' Φ H' → D'.bk env M' → Dh.bk σ H'
  ct : ∀ env σ F' M' H', Ex F F' → EnR G F' σ env → Wd G F' M' Φ H' → D'.ct env M' → Dh.ct σ H'
  ex : ∀ env σ F', Ex F F' → EnR G F' σ env → EPo G F' Φ (D'.ex env) fun c d H' => W c d σ H'
theorem EndOk.mono {W : WX} {D' : EndD} {Dh : Ends} (e : Ex F F') (h : EndOk G W F Φ D' Dh) : EndOk G W F' Φ D' Dh :=
  ⟨fun env σ F2 M2 H2 e2 => h.nx env σ F2 M2 H2 (e.trans e2), fun d v F2 M2 H2 e2 => h.rt d v F2 M2 H2 (e.trans e2), fun env σ F2 M2 H2 e2 => h.bk env σ F2 M2 H2 (e.trans e2),
   fun env σ F2 M2 H2 e2 => h.ct env σ F2 M2 H2 (e.trans e2), fun env σ F2 e2 => h.ex env σ F2 (e.trans e2)⟩
def tDS (G : Gx) (W : WX) (t : DS) : TS := fun Dh σ H => ∃ env F M Φ D', EnR G F σ env ∧ Wd G F M Φ H ∧ t D' env M ∧ EndOk G W F Φ D' Dh

/-- a scope, and the names whose cells were made at the entry -/
structure ScX where
  s : Scope
  fn : Str → Bool
structure XOk (G : Gx) (k : Nat) (N : List Str) (sc : ScX) (X : Cx) : Prop where
  g : G = ⟨X.prog, X.w, X.K, X.mg, X.base⟩
  N : X.N = N
  scp : X.env.scope = sc.s
  fn : X.fn = sc.fn
  calm : X.calm = true
  room : Room k X.A
  po : PassesOwn (model X.prog X.w) X.A X.env X.xe
  nd : List.Nodup X.N
def PD (G : Gx) (k : Nat) (N : List Str) (sc : ScX) (e : Expr) (t : DE) : Prop := ∀ W X, XOk G k N sc X → Takes X W → PE X e (tD G W t)
def PDT (G : Gx) (k : Nat) (N : List Str) (sc : ScX) (e : Expr) (t : DT) : Prop := ∀ W X, XOk G k N sc X → Takes X W → PT X e (tDT G W t)
def PDW (G : Gx) (k : Nat) (N : List Str) (sc : ScX) (e : Expr) (t : DT) : Prop := ∀ W X, XOk G k N sc X → Takes X W → PW X e (tDT G W t)
def PDA (G : Gx) (k : Nat) (N : List Str) (sc : ScX) (es : List Expr) (t : DA) : Prop := ∀ W X, XOk G k N sc X → Takes X W → PA X es (tDA G W t)
def PDS (G : Gx) (k : Nat) (N : List Str) (sc : ScX) (st : Stmt) (t : DS) : Prop := ∀ W X, XOk G k N sc X → Takes X W → PS X st (tDS G W t)
def PDs (G : Gx) (k : Nat) (N : List Str) (sc : ScX) (st : List Stmt) (t : DS) : Prop := ∀ W X, XOk G k N sc X → Takes X W → PSs X st (tDS G W t)

theorem PE.imp {X : Cx} {e : Expr} {t t' : TE} (h : PE X e t) (i : ∀ σ H Q, t' σ H Q → t σ H Q) : PE X e t' := ⟨fun pins s σ H Q I q => h.run pins s σ H Q I (i σ H Q q)⟩
theorem PT.imp {X : Cx} {e : Expr} {t t' : TT} (h : PT X e t) (i : ∀ σ H Q, t' σ H Q → t σ H Q) : PT X e t' := ⟨fun pins s σ H Q I q => h.run pins s σ H Q I (i σ H Q q)⟩
theorem PW.imp {X : Cx} {e : Expr} {t t' : TT} (h : PW X e t) (i : ∀ σ H Q, t' σ H Q → t σ H Q) : PW X e t' := ⟨fun whole pins s σ H Q I q => h.run whole pins s σ H Q I (i σ H Q q)⟩
theorem PA.imp {X : Cx} {es : List Expr} {t t' : TA} (h : PA X es t) (i : ∀ σ H Q, t' σ H Q → t σ H Q) : PA X es t' := ⟨fun pos pins s σ H Q I q => h.run pos pins s σ H Q I (i σ H Q q)⟩
theorem PS.imp {X : Cx} {st : Stmt} {t t' : TS} (h : PS X st t) (i : ∀ D σ H, t' D σ H → t D σ H) : PS X st t' := ⟨fun pins s σ H D I q => h.run pins s σ H D I (i D σ H q)⟩
theorem PSs.imp {X : Cx} {st : List Stmt} {t t' : TS} (h : PSs X st t) (i : ∀ D σ H, t' D σ H → t D σ H) : PSs X st t' := ⟨fun pins s σ H D I q => h.run pins s σ H D I (i D σ H q)⟩

/-! ## the first rules -/
section
variable {k : Nat} {N : List Str} {sc : ScX} {e a b c : Expr} {pos : Pos} {te ta tb tc : DE} {W : WX}
/-- an answer that makes nothing -/
theorem NP.ret {Q : QD} {Qh : VK} {d : D} {v : V} (h : NP G F Φ Q Qh) (w : Wd G F M Φ H) (r : Rep G F d v) (q : Q d M) : Qh v H := h d v F M H (Ex.refl F) w r q
theorem NP.mono {Q : QD} {Qh : VK} (e : Ex F F') (h : NP G F Φ Q Qh) : NP G F' Φ Q Qh := fun d v F2 M2 H2 e2 => h d v F2 M2 H2 (e.trans e2)
/-- one after the other -/
theorem tD.seq {t : DE} {u : D → MS → Prop} {Qh : VK} {E : QE} (hE : EnR G F σ env) (w : Wd G F M Φ H) (h : t env M u E) (ep : EPo G F Φ E fun c d H' => W c d σ H')
    (k : ∀ d v F' M' H', Ex F F' → Wd G F' M' Φ H' → EnR G F' σ env → Rep G F' d v → u d M' → (EPo G F' Φ E fun c d H' => W c d σ H') → Qh v H') : tD G W t σ H Qh :=
  ⟨env, F, M, Φ, u, E, hE, w, h, fun d v F' M' H' e w' r q => k d v F' M' H' e w' (hE.mono e) r q (ep.mono e), ep⟩

def dC (d : D) : DE := fun _ M Q _ => Q d M
def dVar (i : Nat) : DE := fun env M Q _ => ∃ d, env[i]? = some (some d) ∧ Q d M
theorem pd_int {i j} : PD G k N sc (.Constant (.int i) j pos) (dC (.int i)) := fun W X ok tk => PE.imp pe_int fun σ H Qh ⟨env, F, M, Φ, Q, E, hE, w, h, np, ep⟩ => np.ret w (by rw [Rep]) h
theorem pd_bl {b j} : PD G k N sc (.Constant (.bool b) j pos) (dC (.bl b)) := fun W X ok tk => PE.imp pe_bl fun σ H Qh ⟨env, F, M, Φ, Q, E, hE, w, h, np, ep⟩ => np.ret w (by rw [Rep]) h
theorem pd_non {j} : PD G k N sc (.Constant .none j pos) (dC .non) := fun W X ok tk => PE.imp pe_non fun σ H Qh ⟨env, F, M, Φ, Q, E, hE, w, h, np, ep⟩ => np.ret w (by rw [Rep]) h
theorem pd_str {x j} : PD G k N sc (.Constant (.str x) j pos) (dC (.str x)) := fun W X ok tk => PE.imp pe_str fun σ H Qh ⟨env, F, M, Φ, Q, E, hE, w, h, np, ep⟩ => np.ret w (by rw [Rep]) h
def visB (sc : ScX) (x : Str) : Bool := (match sc.s.names.lookup x with | some .local => true | some .cell => true | some .free => true | _ => false) && !(x == ("__debug__" : Str)) && !(x == ("__classdict__" : Str))
theorem pd_var (i : Nat) {x : Str} (hN : N[i]? = some x) (hv : visB sc x = true) : PD G k N sc (.Name x pos) (dVar i) := fun W X ok tk => by
  have hN2 : X.N[i]? = some x := by rw [ok.N]; exact hN
  simp only [visB, Bool.and_eq_true, Bool.not_eq_true'] at hv
  obtain ⟨⟨h1, h2⟩, h3⟩ := hv
  have hV : Vis X.env.scope x := by
    rw [ok.scp]; unfold Vis
    split at h1 <;> first | (rename_i e; rw [e]; first | exact .inl rfl | exact .inr (.inl rfl) | exact .inr (.inr rfl)) | cases h1
  refine PE.imp (pe_var hN2 hV h2 h3) fun σ H Qh ⟨env, F, M, Φ, Q, E, hE, w, h, np, ep⟩ => ?_
  obtain ⟨d, e1, q⟩ := h
  obtain ⟨v, e2, r⟩ := hE.at_ i d e1
  exact ⟨v, e2, np.ret w r q⟩
/-- a name whose list from now on never changes -/
def dFrz (i : Nat) : DE := fun env M Q _ => ∃ a ds, env[i]? = some (some (.cell a)) ∧ M a = some (.lst ds) ∧ Q (.lst ds) (M.del a)
theorem pd_frz (i : Nat) {x : Str} (hN : N[i]? = some x) (hv : visB sc x = true) : PD G k N sc (.Name x pos) (dFrz i) := fun W X ok tk => by
  refine PE.imp (pd_var (G := G) (k := k) (pos := pos) i hN hv W X ok tk) fun σ H Qh ⟨env, F, M, Φ, Q, E, hE, w, h, np, ep⟩ => ?_
  obtain ⟨a, ds, e1, e2, q⟩ := h
  refine ⟨env, F, M, Φ, fun d M' => d = .cell a ∧ M' = M, E, hE, w, ⟨_, e1, rfl, rfl⟩, fun d v F' M' H' e w' r hd => ?_, ep⟩
  obtain ⟨rfl, rfl⟩ := hd
  obtain ⟨hF, vs, hH, rs⟩ := w'.m a _ e2
  have x1 := w'.frzEx (p := a) (o := .lst vs) e2
  rw [Rep] at r
  subst r
  exact np (.lst ds) _ _ _ _ (e.trans x1) (w'.frz e2 hH) (by rw [Rep]; exact ⟨a, vs, rfl, upd_same, rs.mono x1⟩) q
/-- a module's constant -/
def glB (sc : ScX) (x : Str) : Bool := (match sc.s.names.lookup x with | some .globalImplicit => true | _ => false) && !(x == ("__debug__" : Str))
theorem gl_of {X : Cx} {x : Str} (hs : X.env.scope = sc.s) (h : glB sc x = true) : Gl X x ∧ (x == ("__debug__" : Str)) = false := by
  simp only [glB, Bool.and_eq_true, Bool.not_eq_true'] at h
  refine ⟨?_, h.2⟩
  unfold Gl Env.kindOf
  rw [hs]
  have h1 := h.1
  split at h1
  · assumption
  · cases h1
theorem pd_glob {x : Str} {d : D} {v : V} {u : Value} (hg : glB sc x = true) (hm : G.mg x = some u) (r : RelV v u) (hr : ∀ F, Rep G F d v) : PD G k N sc (.Name x pos) (dC d) := fun W X ok tk => by
  obtain ⟨h1, h2⟩ := gl_of ok.scp hg
  have hm2 : X.mg x = some u := by rw [ok.g] at hm; exact hm
  exact PE.imp (pe_glob h1 hm2 r h2) fun σ H Qh ⟨env, F, M, Φ, Q, E, hE, w, h, np, ep⟩ => np.ret w (hr F) h

/-! ### operators -/
abbrev RD := D → D → MS → QD → Prop
def dOp (r : RD) (ta tb : DE) : DE := fun env M Q E => ta env M (fun x M1 => tb env M1 (fun y M2 => r x y M2 Q) E) E
/-- what an operator's rule says over data -/
def OpD (G : Gx) (k : Nat) (f : Value → Value → Sem Value) (r : RD) : Prop := ∀ X : Cx, G = ⟨X.prog, X.w, X.K, X.mg, X.base⟩ → Room k X.A → X.calm = true → ∃ rh : R2, OpR X f rh ∧
  ∀ x y d e F M Φ H Q Qh, Wd G F M Φ H → Rep G F d x → Rep G F e y → r d e M Q → NP G F Φ Q Qh → rh x y H Qh
theorem dOp.run {r : RD} {rh : R2} (hr : ∀ x y d e F M Φ H Q Qh, Wd G F M Φ H → Rep G F d x → Rep G F e y → r d e M Q → NP G F Φ Q Qh → rh x y H Qh) :
    ∀ σ H Q, tD G W (dOp r ta tb) σ H Q → tOp rh (tD G W ta) (tD G W tb) σ H Q := fun σ H Qh ⟨env, F, M, Φ, Q, E, hE, w, h, np, ep⟩ =>
  tD.seq hE w h ep fun d v F1 M1 H1 e1 w1 hE1 r1 q1 ep1 => tD.seq hE1 w1 q1 ep1 fun d2 v2 F2 M2 H2 e2 w2 hE2 r2 q2 ep2 =>
    hr v v2 d d2 F2 M2 Φ H2 Q Qh w2 (r1.mono e2) r2 q2 (np.mono (e1.trans e2))
theorem pd_op {op : Operator} {r : RD} (ho : OpD G k (binaryOp op) r) (ha : PD G k N sc a ta) (hb : PD G k N sc b tb) : PD G k N sc (.BinOp a op b pos) (dOp r ta tb) := fun W X ok tk => by
  obtain ⟨rh, h1, h2⟩ := ho X ok.g ok.room ok.calm
  exact PE.imp (pe_op h1 (ha W X ok tk) (hb W X ok tk)) (dOp.run h2)
theorem pd_cmp {op : CmpOp} {r : RD} (ho : OpD G k (compareOp op) r) (ha : PD G k N sc a ta) (hb : PD G k N sc b tb) (hm : behindInMarks op b = false) : PD G k N sc (.Compare a [op] [b] pos) (dOp r ta tb) := fun W X ok tk => by
  obtain ⟨rh, h1, h2⟩ := ho X ok.g ok.room ok.calm
  exact PE.imp (pe_cmpR h1 (ha W X ok tk) (hb W X ok tk) hm) (dOp.run h2)
/-- a test by a value True or False -/
def dB (t : DE) : DT := fun env M Q E => t env M (fun d M1 => ∃ c, d = .bl c ∧ Q c M1) E
theorem dB.run {t : DE} : ∀ σ H Q, tDT G W (dB t) σ H Q → tB (tD G W t) σ H Q := fun σ H Qh ⟨env, F, M, Φ, Q, E, hE, w, h, np, ep⟩ =>
  tD.seq hE w h ep fun d v F1 M1 H1 e1 w1 hE1 r1 q1 ep1 => by
    obtain ⟨c, rfl, q⟩ := q1
    rw [Rep] at r1
    exact ⟨c, r1, np c F1 M1 H1 e1 w1 q⟩
theorem pt_cmpD {op : CmpOp} {r : RD} (ho : OpD G k (compareOp op) r) (ha : PD G k N sc a ta) (hb : PD G k N sc b tb) (hm : behindInMarks op b = false) : PDT G k N sc (.Compare a [op] [b] pos) (dB (dOp r ta tb)) := fun W X ok tk => by
  obtain ⟨rh, h1, h2⟩ := ho X ok.g ok.room ok.calm
  refine PT.imp (pt_cmpR h1 (ha W X ok tk) (hb W X ok tk) hm) fun σ H Q h => ?_
  obtain ⟨env, F, M, Φ, Qd, E, hE, w, h, np, ep⟩ := h
  refine dOp.run h2 σ H _ ⟨env, F, M, Φ, _, E, hE, w, h, fun d v F' M' H' e w' r q => ?_, ep⟩
  obtain ⟨c, rfl, q⟩ := q
  rw [Rep] at r
  exact ⟨c, r, np c F' M' H' e w' q⟩
theorem pt_valD (he : ∀ env whole, isTrue e env whole = (do let v ← whole; standAt e.pos; holding [v] (truthy v)) := by intro _ _; rfl) (h : PD G k N sc e te) : PDT G k N sc e (dB te) := fun W X ok tk => PT.imp (pt_val (h W X ok tk) (he X.env)) dB.run

/-! ### tests -/
def dAnd (t u : DT) : DT := fun env M Q E => t env M (fun c M1 => if c = true then u env M1 Q E else Q false M1) E
def dOr (t u : DT) : DT := fun env M Q E => t env M (fun c M1 => if c = true then Q true M1 else u env M1 Q E) E
def dNot (t : DT) : DT := fun env M Q E => t env M (fun c M1 => Q (!c) M1) E
variable {t u : DT} {rest : List Expr}
theorem PDW.pt (h : PDW G k N sc e t) : PDT G k N sc e t := fun W X ok tk => (h W X ok tk).pt
theorem pwd_and1 (ha : PDT G k N sc a t) : PDW G k N sc (.BoolOp .And [a] pos) t := fun W X ok tk => pw_and1 (ha W X ok tk)
theorem pwd_or1 (ha : PDT G k N sc a t) : PDW G k N sc (.BoolOp .Or [a] pos) t := fun W X ok tk => pw_or1 (ha W X ok tk)
theorem pwd_and (ha : PDT G k N sc a t) (hb : PDW G k N sc (.BoolOp .And (b :: rest) pos) u) : PDW G k N sc (.BoolOp .And (a :: b :: rest) pos) (dAnd t u) := fun W X ok tk =>
  PW.imp (pw_and (ha W X ok tk) (hb W X ok tk)) fun σ H Qh ⟨env, F, M, Φ, Q, E, hE, w, h, np, ep⟩ =>
    ⟨env, F, M, Φ, _, E, hE, w, h, fun c F1 M1 H1 e1 w1 q => by
      cases c with
      | true => rw [if_pos rfl] at q ⊢; exact ⟨env, F1, M1, Φ, Q, E, hE.mono e1, w1, q, fun b F2 M2 H2 e2 => np b F2 M2 H2 (e1.trans e2), ep.mono e1⟩
      | false => rw [if_neg Bool.false_ne_true] at q ⊢; exact np false F1 M1 H1 e1 w1 q, ep⟩
theorem pwd_or (ha : PDT G k N sc a t) (hb : PDW G k N sc (.BoolOp .Or (b :: rest) pos) u) : PDW G k N sc (.BoolOp .Or (a :: b :: rest) pos) (dOr t u) := fun W X ok tk =>
  PW.imp (pw_or (ha W X ok tk) (hb W X ok tk)) fun σ H Qh ⟨env, F, M, Φ, Q, E, hE, w, h, np, ep⟩ =>
    ⟨env, F, M, Φ, _, E, hE, w, h, fun c F1 M1 H1 e1 w1 q => by
      cases c with
      | true => rw [if_pos rfl] at q ⊢; exact np true F1 M1 H1 e1 w1 q
      | false => rw [if_neg Bool.false_ne_true] at q ⊢; exact ⟨env, F1, M1, Φ, Q, E, hE.mono e1, w1, q, fun b F2 M2 H2 e2 => np b F2 M2 H2 (e1.trans e2), ep.mono e1⟩, ep⟩
theorem pt_notD (ha : PDT G k N sc a t) : PDT G k N sc (.UnaryOp .Not a pos) (dNot t) := fun W X ok tk =>
  PT.imp (pt_not (ha W X ok tk)) fun σ H Qh ⟨env, F, M, Φ, Q, E, hE, w, h, np, ep⟩ =>
    ⟨env, F, M, Φ, _, E, hE, w, h, fun c F1 M1 H1 e1 w1 q => np (!c) F1 M1 H1 e1 w1 q, ep⟩
/-- and, or, not as values (of True, False) -/
def dAndV (ta tb : DE) : DE := fun env M Q E => ta env M (fun x M1 => ∃ c, x = .bl c ∧ if c = true then tb env M1 Q E else Q (.bl false) M1) E
def dOrV (ta tb : DE) : DE := fun env M Q E => ta env M (fun x M1 => ∃ c, x = .bl c ∧ if c = true then Q (.bl true) M1 else tb env M1 Q E) E
def dNotV (ta : DE) : DE := fun env M Q E => ta env M (fun x M1 => ∃ c, x = .bl c ∧ Q (.bl (!c)) M1) E
theorem pd_one {op : BoolOp} (ha : PD G k N sc a ta) : PD G k N sc (.BoolOp op [a] pos) ta := fun W X ok tk => pe_one (ha W X ok tk)
theorem pd_and (ha : PD G k N sc a ta) (hb : PD G k N sc (.BoolOp .And (b :: rest) pos) tb) : PD G k N sc (.BoolOp .And (a :: b :: rest) pos) (dAndV ta tb) := fun W X ok tk =>
  PE.imp (pe_and (ha W X ok tk) (hb W X ok tk)) fun σ H Qh ⟨env, F, M, Φ, Q, E, hE, w, h, np, ep⟩ =>
    tD.seq hE w h ep fun d v F1 M1 H1 e1 w1 hE1 r1 q1 ep1 => by
      obtain ⟨c, rfl, q⟩ := q1
      rw [Rep] at r1
      refine ⟨c, r1, ?_⟩
      cases c with
      | true => rw [if_pos rfl] at q ⊢; exact ⟨env, F1, M1, Φ, Q, E, hE1, w1, q, np.mono e1, ep1⟩
      | false => rw [if_neg Bool.false_ne_true] at q ⊢; exact np _ _ F1 M1 H1 e1 w1 (by rw [Rep]) q
theorem pd_or (ha : PD G k N sc a ta) (hb : PD G k N sc (.BoolOp .Or (b :: rest) pos) tb) : PD G k N sc (.BoolOp .Or (a :: b :: rest) pos) (dOrV ta tb) := fun W X ok tk =>
  PE.imp (pe_or (ha W X ok tk) (hb W X ok tk)) fun σ H Qh ⟨env, F, M, Φ, Q, E, hE, w, h, np, ep⟩ =>
    tD.seq hE w h ep fun d v F1 M1 H1 e1 w1 hE1 r1 q1 ep1 => by
      obtain ⟨c, rfl, q⟩ := q1
      rw [Rep] at r1
      refine ⟨c, r1, ?_⟩
      cases c with
      | true => rw [if_pos rfl] at q ⊢; exact np _ _ F1 M1 H1 e1 w1 (by rw [Rep]) q
      | false => rw [if_neg Bool.false_ne_true] at q ⊢; exact ⟨env, F1, M1, Φ, Q, E, hE1, w1, q, np.mono e1, ep1⟩
theorem pd_not (ha : PD G k N sc a ta) : PD G k N sc (.UnaryOp .Not a pos) (dNotV ta) := fun W X ok tk =>
  PE.imp (pe_not (ha W X ok tk)) fun σ H Qh ⟨env, F, M, Φ, Q, E, hE, w, h, np, ep⟩ =>
    tD.seq hE w h ep fun d v F1 M1 H1 e1 w1 hE1 r1 q1 ep1 => by
      obtain ⟨c, rfl, q⟩ := q1
      rw [Rep] at r1
      exact ⟨c, r1, np _ _ F1 M1 H1 e1 w1 (by rw [Rep]) q⟩
def dIf (t : DT) (ta tb : DE) : DE := fun env M Q E => t env M (fun c M1 => if c = true then ta env M1 Q E else tb env M1 Q E) E
theorem pd_ifExp (hc : PDT G k N sc c t) (ha : PD G k N sc a ta) (hb : PD G k N sc b tb) : PD G k N sc (.IfExp c a b pos) (dIf t ta tb) := fun W X ok tk =>
  PE.imp (pe_ifExp (hc W X ok tk) (ha W X ok tk) (hb W X ok tk)) fun σ H Qh ⟨env, F, M, Φ, Q, E, hE, w, h, np, ep⟩ =>
    ⟨env, F, M, Φ, _, E, hE, w, h, fun c F1 M1 H1 e1 w1 q => by
      cases c with
      | true => rw [if_pos rfl] at q ⊢; exact ⟨env, F1, M1, Φ, Q, E, hE.mono e1, w1, q, np.mono e1, ep.mono e1⟩
      | false => rw [if_neg Bool.false_ne_true] at q ⊢; exact ⟨env, F1, M1, Φ, Q, E, hE.mono e1, w1, q, np.mono e1, ep.mono e1⟩, ep⟩

/-! ### argument lists, displays -/
def dNil : DA := fun _ M Q _ => Q [] M
def dCons (ta : DE) (tr : DA) : DA := fun env M Q E => ta env M (fun x M1 => tr env M1 (fun xs M2 => Q (x :: xs) M2) E) E
variable {es : List Expr} {tr : DA}
theorem pda_nil : PDA G k N sc [] dNil := fun W X ok tk => PA.imp pa_nil fun σ H Qh ⟨env, F, M, Φ, Q, E, hE, w, h, np, ep⟩ => np [] [] F M H (Ex.refl F) w Reps.nil h
theorem pda_cons (ha : PD G k N sc e te) (hr : PDA G k N sc es tr) (hs : ∀ env, starEach (e :: es) env = (false, eval e env) :: starEach es env := by intro _; rfl) : PDA G k N sc (e :: es) (dCons te tr) := fun W X ok tk =>
  PA.imp (pa_cons (ha W X ok tk) (hr W X ok tk) (hs X.env)) fun σ H Qh ⟨env, F, M, Φ, Q, E, hE, w, h, np, ep⟩ =>
    tD.seq hE w h ep fun d v F1 M1 H1 e1 w1 hE1 r1 q1 ep1 => ⟨env, F1, M1, Φ, _, E, hE1, w1, q1, fun ds vs F2 M2 H2 e2 w2 rs q2 => np _ _ F2 M2 H2 (e1.trans e2) w2 (.cons (r1.mono e2) rs) q2, ep1⟩
/-- *xs among the items -/
def lstOf : Option MO → Option (List D)
  | some (.lst ds) => some ds
  | _ => none
def itemsOf (M : MS) : D → Option (List D)
  | .lst ds => some ds
  | .tup ds => some ds
  | .ro ds => some ds
  | .cell a => lstOf (M a)
  | _ => none
theorem lstOf_some {o : Option MO} {ds : List D} (h : lstOf o = some ds) : o = some (.lst ds) := by
  unfold lstOf at h
  split at h
  · cases h; rfl
  · cases h
theorem itemsOf_seq {d : D} {ds : List D} {v : V} (w : Wd G F M Φ H) (r : Rep G F d v) (h : itemsOf M d = some ds) : ∃ p vs, v = .ref p ∧ (SqT G.K H p vs ∨ SqL G.K H p vs) ∧ Reps G F ds vs := by
  cases d with
  | lst xs => rw [Rep] at r; obtain ⟨p, vs, rfl, h2, h3⟩ := r; cases h; exact ⟨p, vs, rfl, .inr (SqL.of (w.f _ _ h2)), h3⟩
  | tup xs => rw [Rep] at r; obtain ⟨p, vs, rfl, h2, h3⟩ := r; cases h; exact ⟨p, vs, rfl, .inl (ex_t w.f h2), h3⟩
  | ro xs => rw [Rep] at r; obtain ⟨p, vs, rfl, h2, h3⟩ := r; cases h; exact ⟨p, vs, rfl, .inr (ex_l w.f h2), h3⟩
  | cell a =>
    rw [Rep] at r; subst r
    obtain ⟨_, vs, h1, h2⟩ := w.m a _ (lstOf_some h)
    exact ⟨a, vs, rfl, .inr (SqL.of h1), h2⟩
  | _ => cases h
def dStar (te : DE) (tr : DA) : DA := fun env M Q E => te env M (fun x M1 => ∃ xs, itemsOf M1 x = some xs ∧ tr env M1 (fun ys M2 => Q (xs ++ ys) M2) E) E
theorem pda_star {p : Pos} (ha : PD G k N sc e te) (hr : PDA G k N sc es tr) (hs : ∀ env, starEach (.Starred e p :: es) env = (true, eval e env) :: starEach es env := by intro _; rfl) : PDA G k N sc (.Starred e p :: es) (dStar te tr) := fun W X ok tk =>
  PA.imp (StX.pa_star (ha W X ok tk) (hr W X ok tk) (hs X.env)) fun σ H Qh ⟨env, F, M, Φ, Q, E, hE, w, h, np, ep⟩ =>
    tD.seq hE w h ep fun d v F1 M1 H1 e1 w1 hE1 r1 q1 ep1 => by
      obtain ⟨xs, e2, q⟩ := q1
      obtain ⟨p, vs, rfl, hs, rs⟩ := itemsOf_seq w1 r1 e2
      rw [ok.g] at hs
      exact ⟨p, vs, rfl, hs, env, F1, M1, Φ, _, E, hE1, w1, q, fun ds us F2 M2 H2 e2 w2 rs2 q2 => np _ _ F2 M2 H2 (e1.trans e2) w2 ((rs.mono e2).append rs2) q2, ep1⟩
def dTup (t : DA) : DE := fun env M Q E => t env M (fun ds M1 => ds.length ≤ 100000 ∧ Q (.tup ds) M1) E
def dLst (t : DA) : DE := fun env M Q E => t env M (fun ds M1 => ds.length ≤ 100000 ∧ Q (.lst ds) M1) E
def dNew (t : DA) : DE := fun env M Q E => t env M (fun ds M1 => ds.length ≤ 100000 ∧ ∀ a, M1 a = none → Q (.cell a) (M1.put a (.lst ds))) E
theorem sz_of {n : Nat} (h : n ≤ 100000) : n ≤ sizeLine := Nat.le_trans h (by decide)
theorem sz_lt {n : Nat} (h : n < 100000) : n < sizeLine := Nat.lt_of_lt_of_le h (by decide)
theorem pd_tup {x1} (h : PDA G k N sc es tr) : PD G k N sc (.Tuple es x1 pos) (dTup tr) := fun W X ok tk =>
  PE.imp (pe_tup (h W X ok tk)) fun σ H Qh ⟨env, F, M, Φ, Q, E, hE, w, h, np, ep⟩ =>
    ⟨env, F, M, Φ, _, E, hE, w, h, fun ds vs F1 M1 H1 e1 w1 rs q => ⟨by rw [← rs.len]; exact sz_of q.1, fun p hp =>
      np _ _ _ _ _ (e1.trans (w1.newEx hp)) (w1.new hp) (by rw [Rep]; exact ⟨p, vs, rfl, SqT.of upd_same, rs.mono (w1.newEx hp)⟩) q.2⟩, ep⟩
theorem pd_lst (h : PDA G k N sc es tr) : PD G k N sc (.List es pos) (dLst tr) := fun W X ok tk =>
  PE.imp (pe_lst (h W X ok tk)) fun σ H Qh ⟨env, F, M, Φ, Q, E, hE, w, h, np, ep⟩ =>
    ⟨env, F, M, Φ, _, E, hE, w, h, fun ds vs F1 M1 H1 e1 w1 rs q => ⟨by rw [← rs.len]; exact sz_of q.1, fun p hp =>
      np _ _ _ _ _ (e1.trans (w1.newEx hp)) (w1.new hp) (by rw [Rep]; exact ⟨p, vs, rfl, upd_same, rs.mono (w1.newEx hp)⟩) q.2⟩, ep⟩
theorem pd_new (h : PDA G k N sc es tr) : PD G k N sc (.List es pos) (dNew tr) := fun W X ok tk =>
  PE.imp (pe_lst (h W X ok tk)) fun σ H Qh ⟨env, F, M, Φ, Q, E, hE, w, h, np, ep⟩ =>
    ⟨env, F, M, Φ, _, E, hE, w, h, fun ds vs F1 M1 H1 e1 w1 rs q => ⟨by rw [← rs.len]; exact sz_of q.1, fun p hp =>
      np _ _ F1 _ _ e1 (w1.mnew (mo := .lst ds) hp ⟨vs, upd_same, rs⟩) (by rw [Rep]) (q.2 p (w1.freeM hp))⟩, ep⟩
end
end HD
namespace HD
open PySem L2
variable {G : Gx} {F F' H H' Φ : Hp} {σ : St} {env : En} {M M' : MS} {k : Nat} {N : List Str} {sc : ScX} {e a b c : Expr} {pos p : Pos} {te ta tb tc : DE} {es : List Expr} {tr : DA}

/-! ## operators -/
/-- an operator that is a function of the data -/
abbrev FD := MS → D → D → Option D
def rF (f : FD) : RD := fun x y M Q => ∃ r, f M x y = some r ∧ Q r M
/-- the size of a product -/
def MulOk (i j : Int) : Prop := i.natAbs.log2 + j.natAbs.log2 < 100000000
theorem MulOk.ok {i j : Int} (h : MulOk i j) : IntMulOk i j := by
  have b : ∀ x : Int, Builtin.Int.intBits x ≤ x.natAbs.log2 + 1 := fun x => by
    unfold Builtin.Int.intBits
    split <;> omega
  have h1 := b i
  have h2 := b j
  have h3 : i.natAbs.log2 + j.natAbs.log2 < 100000000 := h
  have e : bitsLine = 134217728 := by decide
  unfold IntMulOk
  intro z
  rw [Bool.and_eq_true] at z
  have z2 := z.2
  unfold Builtin.Int.intTooBig at z2
  have z3 := of_decide_eq_true z2
  rw [e] at z3
  omega
/-- the size of a divisor -/
def DivOk (j : Int) : Prop := j ≠ 0 ∧ j.natAbs.log2 < 9000
def PowOk (i j : Int) : Prop := 0 ≤ j ∧ (i.natAbs.log2 + 1 : Int) * j ≤ 2 ^ 27
theorem hs_mul {X : Cx} : OpR X (binaryOp .Mult) (rI MulOk fun i j => .int (i * j)) := opI fun _ _ _ _ _ _ _ hc q => PyProof.Rows.mul_int q hc.ok
theorem hs_fdiv {X : Cx} : OpR X (binaryOp .FloorDiv) (rI (fun _ j => DivOk j) fun i j => .int (i.fdiv j)) := opI fun i j _ _ _ _ _ hc q => PyProof.Rows.floordiv_int hc.1 q (.inl (PyProof.noPylong_of_log2 hc.2))
theorem hs_pow {X : Cx} : OpR X (binaryOp .Pow) (rI PowOk fun i j => .int (i ^ j.toNat)) := opI fun i j _ _ _ _ _ hc q => PyProof.Rows.pow_int hc.1 (by
  have b : (Builtin.Int.intBits i : Int) ≤ (i.natAbs.log2 + 1 : Int) := by
    unfold Builtin.Int.intBits
    split <;> omega
  exact Int.le_trans (Int.mul_le_mul_of_nonneg_right b hc.1) hc.2) q

def rInt (C : Int → Int → Prop) (g : Int → Int → D) : RD := fun x y M Q => ∃ i j, x = .int i ∧ y = .int j ∧ C i j ∧ Q (g i j) M
theorem rInt.ok {C : Int → Int → Prop} {g : Int → Int → Int} {x y : V} {d e : D} {Q : QD} {Qh : VK} (w : Wd G F M Φ H) (hx : Rep G F d x) (hy : Rep G F e y) (h : rInt C (fun i j => .int (g i j)) d e M Q) (np : NP G F Φ Q Qh) : rI C (fun i j => .int (g i j)) x y H Qh := by
  obtain ⟨i, j, rfl, rfl, hc, q⟩ := h
  simp only [Rep] at hx hy
  exact ⟨i, j, hx, hy, hc, np.ret w (by rw [Rep]) q⟩
theorem rIntB.ok {g : Int → Int → Bool} {x y : V} {d e : D} {Q : QD} {Qh : VK} (w : Wd G F M Φ H) (hx : Rep G F d x) (hy : Rep G F e y) (h : rInt (fun _ _ => True) (fun i j => .bl (g i j)) d e M Q) (np : NP G F Φ Q Qh) : rI0 (fun i j => .bl (g i j)) x y H Qh := by
  obtain ⟨i, j, rfl, rfl, hc, q⟩ := h
  simp only [Rep] at hx hy
  exact ⟨i, j, hx, hy, np.ret w (by rw [Rep]) q⟩
abbrev rSubD : RD := rInt (fun _ _ => True) fun i j => .int (i - j)
abbrev rMulD : RD := rInt MulOk fun i j => .int (i * j)
abbrev rFdivD : RD := rInt (fun _ j => DivOk j) fun i j => .int (i.fdiv j)
abbrev rModD : RD := rInt (fun _ j => j ≠ 0) fun i j => .int (i.fmod j)
abbrev rPowD : RD := rInt PowOk fun i j => .int (i ^ j.toNat)
abbrev rLtD : RD := rInt (fun _ _ => True) fun i j => .bl (decide (i < j))
abbrev rLeD : RD := rInt (fun _ _ => True) fun i j => .bl (decide (i ≤ j))
abbrev rGtD : RD := rInt (fun _ _ => True) fun i j => .bl (decide (j < i))
abbrev rGeD : RD := rInt (fun _ _ => True) fun i j => .bl (decide (j ≤ i))
theorem od_mul : OpD G k (binaryOp .Mult) rMulD := fun X hg hr hc => ⟨_, hs_mul, fun x y d e F M Φ H Q Qh w hx hy h np => rInt.ok w hx hy h np⟩
theorem od_fdiv : OpD G k (binaryOp .FloorDiv) rFdivD := fun X hg hr hc => ⟨_, hs_fdiv, fun x y d e F M Φ H Q Qh w hx hy h np => rInt.ok w hx hy h np⟩
theorem od_pow : OpD G k (binaryOp .Pow) rPowD := fun X hg hr hc => ⟨_, hs_pow, fun x y d e F M Φ H Q Qh w hx hy h np => rInt.ok w hx hy h np⟩
theorem od_mod : OpD G k (binaryOp .Mod) rModD := fun X hg hr hc => ⟨_, op_modN, fun x y d e F M Φ H Q Qh w hx hy h np => rInt.ok w hx hy h np⟩
theorem od_sub : OpD G k (binaryOp .Sub) rSubD := fun X hg hr hc => ⟨_, op_sub, fun x y d e F M Φ H Q Qh w hx hy h np => by
  obtain ⟨i, j, h1, h2, _, q⟩ := rInt.ok w hx hy h np
  exact ⟨i, j, h1, h2, q⟩⟩
theorem od_lt : OpD G k (compareOp .Lt) rLtD := fun X hg hr hc => ⟨_, op_lt, fun x y d e F M Φ H Q Qh w hx hy h np => rIntB.ok w hx hy h np⟩
theorem od_le : OpD G k (compareOp .LtE) rLeD := fun X hg hr hc => ⟨_, op_le, fun x y d e F M Φ H Q Qh w hx hy h np => rIntB.ok w hx hy h np⟩
theorem od_gt : OpD G k (compareOp .Gt) rGtD := fun X hg hr hc => ⟨_, op_gt, fun x y d e F M Φ H Q Qh w hx hy h np => rIntB.ok w hx hy h np⟩
theorem od_ge : OpD G k (compareOp .GtE) rGeD := fun X hg hr hc => ⟨_, op_ge, fun x y d e F M Φ H Q Qh w hx hy h np => rIntB.ok w hx hy h np⟩
/-- ints, lists, texts -/
def rAddD : RD := fun x y M Q => (∃ i j, x = .int i ∧ y = .int j ∧ Q (.int (i + j)) M) ∨ (∃ ds es, x = .lst ds ∧ y = .lst es ∧ ds.length + es.length ≤ 100000 ∧ Q (.lst (ds ++ es)) M) ∨
  ∃ s t, x = .str s ∧ y = .str t ∧ s.length + t.length ≤ 100000 ∧ Q (.str (s ++ t)) M
theorem rAddD_int {i j : Int} {Q : QD} (h : Q (.int (i + j)) M) : rAddD (.int i) (.int j) M Q := .inl ⟨i, j, rfl, rfl, h⟩
theorem rAddD_lst {xs ys : List D} {Q : QD} (hz : xs.length + ys.length ≤ 100000) (h : Q (.lst (xs ++ ys)) M) : rAddD (.lst xs) (.lst ys) M Q := .inr (.inl ⟨xs, ys, rfl, rfl, hz, h⟩)
theorem rAddD_str {s t : Str} {Q : QD} (hz : s.length + t.length ≤ 100000) (h : Q (.str (s ++ t)) M) : rAddD (.str s) (.str t) M Q := .inr (.inr ⟨s, t, rfl, rfl, hz, h⟩)
theorem od_add : OpD G k (binaryOp .Add) rAddD := fun X hg hr hc => ⟨_, op_add.or (op_cat.or op_add_str), fun x y d e F M Φ H Q Qh w hx hy h np => by
  rcases h with ⟨i, j, rfl, rfl, q⟩ | ⟨ds, es, rfl, rfl, hz, q⟩ | ⟨s, t, rfl, rfl, hz, q⟩
  · simp only [Rep] at hx hy
    exact .inl ⟨i, j, hx, hy, np.ret w (by rw [Rep]) q⟩
  · simp only [Rep] at hx hy
    obtain ⟨a, vs, rfl, h1, r1⟩ := hx
    obtain ⟨b, us, rfl, h2, r2⟩ := hy
    have hl : vs.length + us.length ≤ sizeLine := by rw [← r1.len, ← r2.len]; exact sz_of hz
    exact .inr (.inl ⟨a, b, vs, us, rfl, rfl, w.f _ _ h1, w.f _ _ h2, hl, fun p hp => np _ _ _ _ _ (w.newEx hp) (w.new hp) (by rw [Rep]; exact ⟨p, _, rfl, upd_same, (r1.append r2).mono (w.newEx hp)⟩) q⟩)
  · simp only [Rep] at hx hy
    exact .inr (.inr ⟨s, t, hx, hy, sz_of hz, np.ret w (by rw [Rep]) q⟩)⟩
/-- [..] * n -/
def rRepD : RD := fun x y M Q => ∃ ds n, x = .lst ds ∧ y = .int n ∧ -(2 ^ 63) ≤ n ∧ n < 2 ^ 63 ∧ ds.length * n.toNat ≤ 100000 ∧ Q (.lst (List.replicate n.toNat ds).flatten) M
theorem Reps.rep {ds : List D} {vs : List V} (h : Reps G F ds vs) : ∀ n, Reps G F (List.replicate n ds).flatten (List.replicate n vs).flatten
  | 0 => by simpa using Reps.nil
  | n + 1 => by
    rw [List.replicate_succ, List.replicate_succ, List.flatten_cons, List.flatten_cons]
    exact h.append (Reps.rep h n)
theorem od_rep : OpD G k (binaryOp .Mult) rRepD := fun X hg hr hc => ⟨_, op_rep, fun x y d e F M Φ H Q Qh w hx hy h np => by
  obtain ⟨ds, n, rfl, rfl, h1, h2, hz, q⟩ := h
  simp only [Rep] at hx hy
  obtain ⟨a, vs, rfl, h3, r1⟩ := hx
  exact ⟨a, n, vs, rfl, hy, w.f _ _ h3, h1, h2, by rw [← r1.len]; exact sz_of hz, fun p hp => np _ _ _ _ _ (w.newEx hp) (w.new hp) (by rw [Rep]; exact ⟨p, _, rfl, upd_same, (r1.rep n.toNat).mono (w.newEx hp)⟩) q⟩⟩
/-- [..] * n that will be changed -/
def rRepN : RD := fun x y M Q => ∃ ds n, x = .lst ds ∧ y = .int n ∧ -(2 ^ 63) ≤ n ∧ n < 2 ^ 63 ∧ ds.length * n.toNat ≤ 100000 ∧ ∀ a, M a = none → Q (.cell a) (M.put a (.lst (List.replicate n.toNat ds).flatten))
theorem od_repN : OpD G k (binaryOp .Mult) rRepN := fun X hg hr hc => ⟨_, op_rep, fun x y d e F M Φ H Q Qh w hx hy h np => by
  obtain ⟨ds, n, rfl, rfl, h1, h2, hz, q⟩ := h
  simp only [Rep] at hx hy
  obtain ⟨a, vs, rfl, h3, r1⟩ := hx
  exact ⟨a, n, vs, rfl, hy, w.f _ _ h3, h1, h2, by rw [← r1.len]; exact sz_of hz, fun p hp => np _ _ F _ _ (Ex.refl F) (w.mnew (mo := .lst _) hp ⟨_, upd_same, r1.rep n.toNat⟩) (by rw [Rep]) (q p (w.freeM hp))⟩⟩

/-! ### == and != -/
mutual
def toP : D → Option PyData
  | .non => some .none
  | .bl b => some (.bool b)
  | .int i => some (.int i)
  | .str x => some (.str x)
  | .lst ds => (toPs ds).map .list
  | .ro ds => (toPs ds).map .list
  | .tup ds => (toPs ds).map .tuple
  | .obj _ _ => none
  | .dic _ _ => none
  | .cell _ => none
def toPs : List D → Option (List PyData)
  | [] => some []
  | d :: ds => (toP d).bind fun p => (toPs ds).map (p :: ·)
end
mutual
theorem dp_of (f : Ex F H) : ∀ {d : D} {v : V} {p : PyData}, Rep G F d v → toP d = some p → Dp G.K H v p
  | .non, _, _, r, h => by rw [Rep] at r; subst r; rw [toP] at h; cases h; exact .non
  | .bl b, _, _, r, h => by rw [Rep] at r; subst r; rw [toP] at h; cases h; exact .bl b
  | .int i, _, _, r, h => by rw [Rep] at r; subst r; rw [toP] at h; cases h; exact .int i
  | .str x, _, _, r, h => by rw [Rep] at r; subst r; rw [toP] at h; cases h; exact .str x
  | .lst ds, _, _, r, h => by
    rw [Rep] at r; rw [toP] at h
    obtain ⟨a, vs, rfl, h1, h2⟩ := r
    cases q : toPs ds with
    | none => rw [q] at h; cases h
    | some ps => rw [q] at h; cases h; exact .lst (SqL.of (f _ _ h1)) (dps_of f h2 q)
  | .ro ds, _, _, r, h => by
    rw [Rep] at r; rw [toP] at h
    obtain ⟨a, vs, rfl, h1, h2⟩ := r
    cases q : toPs ds with
    | none => rw [q] at h; cases h
    | some ps => rw [q] at h; cases h; exact .lst (ex_l f h1) (dps_of f h2 q)
  | .tup ds, _, _, r, h => by
    rw [Rep] at r; rw [toP] at h
    obtain ⟨a, vs, rfl, h1, h2⟩ := r
    cases q : toPs ds with
    | none => rw [q] at h; cases h
    | some ps => rw [q] at h; cases h; exact .tup (ex_t f h1) (dps_of f h2 q)
  | .obj _ _, _, _, _, h => by rw [toP] at h; cases h
  | .dic _ _, _, _, _, h => by rw [toP] at h; cases h
  | .cell _, _, _, _, h => by rw [toP] at h; cases h
theorem dps_of (f : Ex F H) : ∀ {ds : List D} {vs : List V} {ps : List PyData}, Reps G F ds vs → toPs ds = some ps → DpAll G.K H vs ps
  | [], _, _, r, h => by rw [Reps] at r; subst r; rw [toPs] at h; cases h; exact .nil
  | d :: ds, _, _, r, h => by
    rw [Reps] at r; rw [toPs] at h
    obtain ⟨v, us, rfl, h1, h2⟩ := r
    cases q : toP d with
    | none => rw [q] at h; cases h
    | some p =>
      rw [q] at h
      cases q2 : toPs ds with
      | none => rw [q2] at h; cases h
      | some ps => rw [q2] at h; cases h; exact .cons (dp_of f h1 q) (dps_of f h2 q2)
end
/-- a cell's list as data -/
def lookO (a : Addr) : Option (List D) → D
  | some ds => .lst ds
  | none => .cell a
def look (M : MS) : D → D
  | .cell a => lookO a (lstOf (M a))
  | d => d
theorem dp_look (w : Wd G F M Φ H) {d : D} {v : V} {p : PyData} (r : Rep G F d v) (h : toP (look M d) = some p) : Dp G.K H v p := by
  cases d with
  | cell a =>
    have h : toP (lookO a (lstOf (M a))) = some p := h
    cases q : lstOf (M a) with
    | none => rw [q] at h; simp only [lookO, toP] at h; cases h
    | some ds =>
      rw [q] at h
      obtain ⟨_, vs, h1, h2⟩ := w.m a _ (lstOf_some q)
      rw [Rep] at r; subst r
      simp only [lookO, toP] at h
      cases q2 : toPs ds with
      | none => rw [q2] at h; cases h
      | some ps => rw [q2] at h; cases h; exact .lst (SqL.of h1) (dps_of w.f h2 q2)
  | _ => exact dp_of w.f r h
/-- scalars of one kind, or None -/
def scalEq : D → D → Option Bool
  | .int i, .int j => some (decide (i = j))
  | .str s, .str t => some (decide (s = t))
  | .bl a, .bl b => some (decide (a = b))
  | .non, .non => some true
  | .non, .int _ => some false
  | .int _, .non => some false
  | .non, .bl _ => some false
  | .bl _, .non => some false
  | .non, .str _ => some false
  | .str _, .non => some false
  | .int _, .str _ => some false
  | .str _, .int _ => some false
  | .bl _, .str _ => some false
  | .str _, .bl _ => some false
  | _, _ => none
theorem scalEq_ok {d e : D} {x y : V} {b : Bool} (hx : Rep G F d x) (hy : Rep G F e y) (h : scalEq d e = some b) : scal x y = true ∧ b = decide (x = y) := by
  cases d <;> cases e <;> simp only [scalEq] at h <;> first
    | (cases h; done)
    | (simp only [Rep] at hx hy; subst hx hy; cases h; refine ⟨rfl, ?_⟩; simp)
def rEqualD : RD := fun x y M Q => (∃ b, scalEq x y = some b ∧ Q (.bl b) M) ∨ ∃ d e, toP (look M x) = some d ∧ toP (look M y) = some e ∧ SeqAt.shaped d = true ∧ SeqAt.shaped e = true ∧ Q (.bl (PyData.eqv d e)) M
def rDiffD : RD := fun x y M Q => (∃ b, scalEq x y = some b ∧ Q (.bl (!b)) M) ∨ ∃ d e, toP (look M x) = some d ∧ toP (look M y) = some e ∧ SeqAt.shaped d = true ∧ SeqAt.shaped e = true ∧ Q (.bl (!PyData.eqv d e)) M
theorem od_eq : OpD G k (compareOp .Eq) rEqualD := fun X hg hr hc => ⟨_, op_eq.or (op_eqD (X := X) hr.units), fun x y d e F M Φ H Q Qh w hx hy h np => by
  rcases h with ⟨b, h1, q⟩ | ⟨p, q, h1, h2, h3, h4, h5⟩
  · obtain ⟨h2, rfl⟩ := scalEq_ok hx hy h1
    exact .inl ⟨h2, np.ret w (by rw [Rep]) q⟩
  · have hK : X.K = G.K := by rw [hg]
    exact .inr ⟨p, q, by rw [hK]; exact dp_look w hx h1, by rw [hK]; exact dp_look w hy h2, h3, h4, np.ret w (by rw [Rep]) h5⟩⟩
theorem od_ne : OpD G k (compareOp .NotEq) rDiffD := fun X hg hr hc => ⟨_, op_ne.or (op_neD (X := X) hr.units), fun x y d e F M Φ H Q Qh w hx hy h np => by
  rcases h with ⟨b, h1, q⟩ | ⟨p, q, h1, h2, h3, h4, h5⟩
  · obtain ⟨h2, rfl⟩ := scalEq_ok hx hy h1
    exact .inl ⟨h2, np.ret w (by rw [Rep]) q⟩
  · have hK : X.K = G.K := by rw [hg]
    exact .inr ⟨p, q, by rw [hK]; exact dp_look w hx h1, by rw [hK]; exact dp_look w hy h2, h3, h4, np.ret w (by rw [Rep]) h5⟩⟩
/-- is None -/
def isNon : D → Bool
  | .non => true
  | _ => false
theorem isNon_ok {d : D} {x : V} (hx : Rep G F d x) : isNon d = decide (x = .non) := by
  cases d <;> rw [Rep] at hx <;> first
    | (subst hx; simp [isNon])
    | (obtain ⟨a, _, rfl, _⟩ := hx; simp [isNon])
    | (obtain ⟨a, _, _, rfl, _⟩ := hx; simp [isNon])
def rIsND : RD := fun x y M Q => isNon y = true ∧ Q (.bl (isNon x)) M
def rNotND : RD := fun x y M Q => isNon y = true ∧ Q (.bl (!isNon x)) M
theorem od_isN : OpD G k (compareOp .Is) rIsND := fun X hg hr hc => ⟨_, op_isN, fun x y d e F M Φ H Q Qh w hx hy h np => by
  obtain ⟨h1, q⟩ := h
  rw [isNon_ok hy] at h1
  exact ⟨of_decide_eq_true h1, np.ret w (by rw [Rep, isNon_ok hx]) q⟩⟩
theorem od_notN : OpD G k (compareOp .IsNot) rNotND := fun X hg hr hc => ⟨_, op_notN, fun x y d e F M Φ H Q Qh w hx hy h np => by
  obtain ⟨h1, q⟩ := h
  rw [isNon_ok hy] at h1
  exact ⟨of_decide_eq_true h1, np.ret w (by rw [Rep, isNon_ok hx]) q⟩⟩
/-! ### in, not in: flat things; a sign in a text -/
def flatD : D → Bool
  | .non => true
  | .bl _ => true
  | .int _ => true
  | .str _ => true
  | _ => false
def eqFD : D → D → Bool
  | .non, .non => true
  | .bl a, .bl b => a == b
  | .bl a, .int b => (if a then 1 else 0) == b
  | .int a, .bl b => a == (if b then 1 else 0)
  | .int a, .int b => a == b
  | .str a, .str b => a == b
  | _, _ => false
theorem flat_ok {d : D} {x : V} (hx : Rep G F d x) (h : flatD d = true) : flatV x = true := by
  cases d <;> first
    | (cases h; done)
    | (rw [Rep] at hx; subst hx; rfl)
theorem eqF_ok {d e : D} {x y : V} (hx : Rep G F d x) (hy : Rep G F e y) (h : flatD d = true) (h2 : flatD e = true) : eqV x y = eqFD d e := by
  cases d <;> cases e <;> first
    | (cases h; done)
    | (cases h2; done)
    | (simp only [Rep] at hx hy; subst hx hy; rfl)
theorem inV_ok {x : V} {d : D} (hx : Rep G F d x) (h : flatD d = true) : ∀ {ds : List D} {vs : List V}, Reps G F ds vs → ds.all flatD = true → vs.all flatV = true ∧ inV x vs = ds.any fun e => eqFD e d
  | [], _, r, _ => by rw [Reps] at r; subst r; exact ⟨rfl, rfl⟩
  | e :: ds, _, r, q => by
    rw [Reps] at r; obtain ⟨v, us, rfl, h1, h2⟩ := r
    rw [List.all_cons, Bool.and_eq_true] at q
    obtain ⟨i1, i2⟩ := inV_ok hx h h2 q.2
    refine ⟨by rw [List.all_cons, flat_ok h1 q.1, i1]; rfl, ?_⟩
    show (eqV v x || inV x us) = _
    rw [i2, eqF_ok h1 hx q.1 h, List.any_cons]
def inF (M : MS) (x y : D) : Option Bool := match x, y with
  | .str s, .str t => (match s.cps.toList with
    | [c] => some (decide (c ∈ t.cps.toList))
    | _ => none)
  | x, y => match itemsOf M y with
    | some ds => if flatD x = true ∧ ds.all flatD = true then some (ds.any fun e => eqFD e x) else none
    | none => none
def rInD : RD := fun x y M Q => ∃ b, inF M x y = some b ∧ Q (.bl b) M
def rNotInD : RD := fun x y M Q => ∃ b, inF M x y = some b ∧ Q (.bl (!b)) M
theorem inF_ok {d e : D} {x y : V} {b : Bool} (w : Wd G F M Φ H) (hx : Rep G F d x) (hy : Rep G F e y) (h : inF M d e = some b) :
    (∃ p vs, y = .ref p ∧ (SqL G.K H p vs ∨ SqT G.K H p vs) ∧ flatV x = true ∧ vs.all flatV = true ∧ b = inV x vs) ∨ ∃ (c : Nat) (z : Str), x = .str ⟨#[c]⟩ ∧ y = .str z ∧ b = decide (c ∈ z.cps.toList) := by
  have gen : ∀ {ds : List D}, itemsOf M e = some ds → (if flatD d = true ∧ ds.all flatD = true then some (ds.any fun e => eqFD e d) else none) = some b →
      ∃ p vs, y = .ref p ∧ (SqL G.K H p vs ∨ SqT G.K H p vs) ∧ flatV x = true ∧ vs.all flatV = true ∧ b = inV x vs := fun {ds} q h => by
    split at h
    · rename_i hf
      obtain ⟨p, vs, rfl, hs, rs⟩ := itemsOf_seq w hy q
      obtain ⟨i1, i2⟩ := inV_ok hx hf.1 rs hf.2
      cases h
      exact ⟨p, vs, rfl, hs.symm, flat_ok hx hf.1, i1, i2.symm⟩
    · cases h
  unfold inF at h
  split at h
  · rename_i s t
    simp only [Rep] at hx hy
    subst hx hy
    split at h
    · rename_i c hc
      cases h
      refine .inr ⟨c, t, ?_, rfl, rfl⟩
      obtain ⟨⟨l⟩⟩ := s
      simp only at hc
      rw [hc]
    · cases h
  · split at h
    · rename_i ds q
      exact .inl (gen q h)
    · cases h
theorem od_in : OpD G k (compareOp .In) rInD := fun X hg hr hc => ⟨_, op_in_seq.or op_in_sign, fun x y d e F M Φ H Q Qh w hx hy h np => by
  obtain ⟨b, h1, q⟩ := h
  have hK : X.K = G.K := by rw [hg]
  rcases inF_ok w hx hy h1 with ⟨p, vs, rfl, h2, h3, h4, rfl⟩ | ⟨c, z, rfl, rfl, rfl⟩
  · exact .inl ⟨p, vs, rfl, by rw [hK]; exact h2, h3, h4, np.ret w (by rw [Rep]; rfl) q⟩
  · exact .inr ⟨c, z, rfl, rfl, np.ret w (by rw [Rep]) q⟩⟩
theorem od_notIn : OpD G k (compareOp .NotIn) rNotInD := fun X hg hr hc => ⟨_, op_notIn_seq.or op_notIn_sign, fun x y d e F M Φ H Q Qh w hx hy h np => by
  obtain ⟨b, h1, q⟩ := h
  have hK : X.K = G.K := by rw [hg]
  rcases inF_ok w hx hy h1 with ⟨p, vs, rfl, h2, h3, h4, rfl⟩ | ⟨c, z, rfl, rfl, rfl⟩
  · exact .inl ⟨p, vs, rfl, by rw [hK]; exact h2, h3, h4, np.ret w (by rw [Rep]; rfl) q⟩
  · exact .inr ⟨c, z, rfl, rfl, np.ret w (by rw [Rep]) q⟩⟩
/-- a < b < c -/
def dChain (r r' : RD) (ta tb tc : DE) : DE := fun env M Q E => ta env M (fun x M1 => tb env M1 (fun y M2 => r x y M2 fun z M3 => ∃ k, z = .bl k ∧ if k = true then tc env M3 (fun u M4 => r' y u M4 Q) E else Q (.bl false) M3) E) E
theorem pd_chain {op op' : CmpOp} {r r' : RD} (ho : OpD G k (compareOp op) r) (ho' : OpD G k (compareOp op') r') (ha : PD G k N sc a ta) (hb : PD G k N sc b tb) (hc : PD G k N sc c tc) (hm : behindInMarks op' c = false) (hm2 : behindInMarks op b = false) :
    PD G k N sc (.Compare a [op, op'] [b, c] pos) (dChain r r' ta tb tc) := fun W X ok tk => by
  obtain ⟨rh, h1, h2⟩ := ho X ok.g ok.room ok.calm
  obtain ⟨rh', h1', h2'⟩ := ho' X ok.g ok.room ok.calm
  refine PE.imp (pe_chain h1 h1' (ha W X ok tk) (hb W X ok tk) (hc W X ok tk) hm) fun σ H Qh ⟨env, F, M, Φ, Q, E, hE, w, h, np, ep⟩ => ?_
  refine tD.seq hE w h ep fun d v F1 M1 H1 e1 w1 hE1 r1 q1 ep1 => tD.seq hE1 w1 q1 ep1 fun d2 v2 F2 M2 H2 e2 w2 hE2 r2 q2 ep2 => ?_
  refine h2 v v2 d d2 F2 M2 Φ H2 _ _ w2 (r1.mono e2) r2 q2 fun d3 v3 F3 M3 H3 e3 w3 r3 q3 => ?_
  obtain ⟨k, rfl, q3⟩ := q3
  rw [Rep] at r3
  refine ⟨k, r3, ?_⟩
  cases k with
  | true =>
    rw [if_pos rfl] at q3 ⊢
    exact tD.seq (hE2.mono e3) w3 q3 (ep2.mono e3) fun d4 v4 F4 M4 H4 e4 w4 hE4 r4 q4 ep4 => h2' v2 v4 d2 d4 F4 M4 Φ H4 Q Qh w4 ((r2.mono e3).mono e4) r4 q4 (np.mono (((e1.trans e2).trans e3).trans e4))
  | false =>
    rw [if_neg Bool.false_ne_true] at q3 ⊢
    exact np _ _ _ _ _ ((e1.trans e2).trans e3) w3 (by rw [Rep]) q3
theorem pt_chainD {op op' : CmpOp} {r r' : RD} (ho : OpD G k (compareOp op) r) (ho' : OpD G k (compareOp op') r') (ha : PD G k N sc a ta) (hb : PD G k N sc b tb) (hc : PD G k N sc c tc) (hm : behindInMarks op' c = false) (hm2 : behindInMarks op b = false) :
    PDT G k N sc (.Compare a [op, op'] [b, c] pos) (dB (dChain r r' ta tb tc)) := fun W X ok tk => by
  obtain ⟨rh, h1, h2⟩ := ho X ok.g ok.room ok.calm
  obtain ⟨rh', h1', h2'⟩ := ho' X ok.g ok.room ok.calm
  refine PT.imp (pt_chain h1 h1' (ha W X ok tk) (hb W X ok tk) (hc W X ok tk) hm) fun σ H Qh h => ?_
  obtain ⟨env, F, M, Φ, Q, E, hE, w, h, np, ep⟩ := h
  refine tD.seq hE w h ep fun d v F1 M1 H1 e1 w1 hE1 r1 q1 ep1 => tD.seq hE1 w1 q1 ep1 fun d2 v2 F2 M2 H2 e2 w2 hE2 r2 q2 ep2 => ?_
  refine h2 v v2 d d2 F2 M2 Φ H2 _ _ w2 (r1.mono e2) r2 q2 fun d3 v3 F3 M3 H3 e3 w3 r3 q3 => ?_
  obtain ⟨k, rfl, q3⟩ := q3
  rw [Rep] at r3
  refine ⟨k, r3, ?_⟩
  have fin : NP G F Φ (fun d M1 => ∃ c, d = .bl c ∧ Q c M1) (fun x H' => ∃ k, x = .bl k ∧ Qh k H') := fun d v F' M' H' e' w' r' q' => by
    obtain ⟨c, rfl, q'⟩ := q'
    rw [Rep] at r'
    exact ⟨c, r', np c F' M' H' e' w' q'⟩
  cases k with
  | true =>
    rw [if_pos rfl] at q3 ⊢
    exact tD.seq (hE2.mono e3) w3 q3 (ep2.mono e3) fun d4 v4 F4 M4 H4 e4 w4 hE4 r4 q4 ep4 => h2' v2 v4 d2 d4 F4 M4 Φ H4 _ _ w4 ((r2.mono e3).mono e4) r4 q4 (fin.mono (((e1.trans e2).trans e3).trans e4))
  | false =>
    rw [if_neg Bool.false_ne_true] at q3 ⊢
    exact fin _ _ _ _ _ ((e1.trans e2).trans e3) w3 (by rw [Rep]) q3
/-- -a -/
def dNeg (ta : DE) : DE := fun env M Q E => ta env M (fun x M1 => ∃ i, x = .int i ∧ Q (.int (-i)) M1) E
theorem pd_neg (ha : PD G k N sc a ta) : PD G k N sc (.UnaryOp .USub a pos) (dNeg ta) := fun W X ok tk =>
  PE.imp (pe_un un_neg (ha W X ok tk)) fun σ H Qh ⟨env, F, M, Φ, Q, E, hE, w, h, np, ep⟩ =>
    tD.seq hE w h ep fun d v F1 M1 H1 e1 w1 hE1 r1 q1 ep1 => by
      obtain ⟨i, rfl, q⟩ := q1
      rw [Rep] at r1
      exact ⟨i, r1, np _ _ F1 M1 H1 e1 w1 (by rw [Rep]) q⟩
/-- a thing's truth -/
def truD (M : MS) (d : D) : Option Bool := match d with
  | .non => some false
  | .bl b => some b
  | .int i => some (i != 0)
  | .str s => if s.length ≤ 100000 then some ((s.length : Int) != 0) else none
  | d => (itemsOf M d).map fun ds => !ds.isEmpty
theorem truD_ok {d : D} {x : V} {b : Bool} (w : Wd G F M Φ H) (hx : Rep G F d x) (h : truD M d = some b) : TruV G.K x H b := by
  have seq : ∀ {ds : List D}, itemsOf M d = some ds → TruV G.K x H (!ds.isEmpty) := fun {ds} q => by
    obtain ⟨p, vs, rfl, hs, rs⟩ := itemsOf_seq w hx q
    have e : ds.isEmpty = vs.isEmpty := by
      have := rs.len
      cases ds <;> cases vs <;> first | rfl | simp at this
    rw [e]
    rcases hs with hs | hs
    · exact .inr (.inl ⟨vs, hs, rfl⟩)
    · exact .inl ⟨vs, hs, rfl⟩
  unfold truD at h
  split at h
  · rw [Rep] at hx; subst hx; cases h; rfl
  · rw [Rep] at hx; subst hx; cases h; rfl
  · rw [Rep] at hx; subst hx; cases h; rfl
  · rename_i s
    rw [Rep] at hx; subst hx
    split at h
    · rename_i hz; cases h; exact ⟨sz_of hz, rfl⟩
    · cases h
  · cases q : itemsOf M d with
    | none => rw [q] at h; cases h
    | some ds => rw [q] at h; cases h; exact seq q
def dTru (t : DE) : DT := fun env M Q E => t env M (fun d M1 => ∃ c, truD M1 d = some c ∧ Q c M1) E
theorem pt_truD (he : ∀ env whole, isTrue e env whole = (do let v ← whole; standAt e.pos; holding [v] (truthy v))) (h : PD G k N sc e te) : PDT G k N sc e (dTru te) := fun W X ok tk =>
  PT.imp (pt_truth (h W X ok tk) (he X.env)) fun σ H Qh ⟨env, F, M, Φ, Q, E, hE, w, h, np, ep⟩ =>
    tD.seq hE w h ep fun d v F1 M1 H1 e1 w1 hE1 r1 q1 ep1 => by
      obtain ⟨c, h1, q⟩ := q1
      have hK : X.K = G.K := by rw [ok.g]
      exact ⟨c, by rw [hK]; exact truD_ok w1 r1 h1, np c F1 M1 H1 e1 w1 q⟩

/-! ## subscripts -/
def ixF (M : MS) (x y : D) : Option D := match x, y with
  | .str z, .int i => if z.length ≤ 100000 then (atI z.cps.toList i).map fun c => .str ⟨#[c]⟩ else none
  | x, .int i => (itemsOf M x).bind fun ds => atI ds i
  | _, _ => none
theorem atI_reps {ds : List D} {vs : List V} {i : Int} {d : D} (r : Reps G F ds vs) (h : atI ds i = some d) : ∃ v, atI vs i = some v ∧ Rep G F d v := by
  unfold atI at h ⊢
  rw [← r.len]
  cases q : ixN ds.length i with
  | none => rw [q] at h; cases h
  | some j =>
    rw [q] at h
    exact r.get h
theorem pd_ix (ha : PD G k N sc a ta) (hb : PD G k N sc b tb) (hs : PlainIx b) : PD G k N sc (.Subscript a b pos) (dOp (rF ixF) ta tb) := fun W X ok tk =>
  PE.imp (pe_ix ix_seq (ha W X ok tk) (hb W X ok tk) hs) (dOp.run fun x y d e F M Φ H Q Qh w hx hy h np => by
    obtain ⟨r, h1, q⟩ := h
    have hK : X.K = G.K := by rw [ok.g]
    unfold ixF at h1
    split at h1
    · rename_i z i
      simp only [Rep] at hx hy
      split at h1
      · rename_i hz
        cases q2 : atI z.cps.toList i with
        | none => rw [q2] at h1; cases h1
        | some c =>
          rw [q2] at h1; cases h1
          exact .inr (.inr ⟨z, i, c, hx, hy, sz_of hz, q2, np.ret w (by rw [Rep]) q⟩)
      · cases h1
    · rename_i i _
      rw [Rep] at hy
      cases q2 : itemsOf M d with
      | none => rw [q2] at h1; cases h1
      | some ds =>
        rw [q2] at h1
        obtain ⟨p, vs, rfl, hs, rs⟩ := itemsOf_seq w hx q2
        obtain ⟨v, h2, h3⟩ := atI_reps rs h1
        rcases hs with hs | hs
        · exact .inr (.inl ⟨p, vs, i, v, rfl, hy, by rw [hK]; exact hs, h2, np.ret w h3 q⟩)
        · exact .inl ⟨p, vs, i, v, rfl, hy, by rw [hK]; exact hs, h2, np.ret w h3 q⟩
    · cases h1)
/-! ### slices -/
def cutD (xs : List D) (lo hi : Option Int) : List D := (xs.drop (HT.sIx xs.length 0 lo)).take (HT.sIx xs.length xs.length hi - HT.sIx xs.length 0 lo)
theorem Reps.cut {ds : List D} {vs : List V} (r : Reps G F ds vs) (lo hi : Option Int) : Reps G F (cutD ds lo hi) (cutV vs lo hi) := by
  unfold cutD cutV
  rw [← r.len]
  exact (r.drop _).take _
abbrev DO := En → MS → (Option Int → MS → Prop) → QE → Prop
def dNoPart : DO := fun _ M Q _ => Q none M
def dPart (t : DE) : DO := fun env M Q E => t env M (fun x M1 => ∃ i, x = .int i ∧ Q (some i) M1) E
def tDO (G : Gx) (W : WX) (t : DO) : TO := fun σ H Qh => ∃ env F M Φ Q E, EnR G F σ env ∧ Wd G F M Φ H ∧ t env M Q E ∧ (∀ b F' M' H', Ex F F' → Wd G F' M' Φ H' → Q b M' → Qh b H') ∧ EPo G F Φ E fun c d H' => W c d σ H'
def PDO (G : Gx) (k : Nat) (N : List Str) (sc : ScX) (e : Option Expr) (t : DO) : Prop := ∀ W X, XOk G k N sc X → Takes X W → PO X e (tDO G W t)
theorem PO.imp {X : Cx} {e : Option Expr} {t t' : TO} (h : PO X e t) (i : ∀ σ H Q, t' σ H Q → t σ H Q) : PO X e t' := ⟨fun pins s σ H Q I q => h.run pins s σ H Q I (i σ H Q q)⟩
theorem pdo_none : PDO G k N sc none dNoPart := fun W X ok tk => PO.imp po_none fun σ H Qh ⟨env, F, M, Φ, Q, E, hE, w, h, np, ep⟩ => np none F M H (Ex.refl F) w h
theorem pdo_some (h : PD G k N sc e te) : PDO G k N sc (some e) (dPart te) := fun W X ok tk => PO.imp (po_some (h W X ok tk)) fun σ H Qh ⟨env, F, M, Φ, Q, E, hE, w, h, np, ep⟩ =>
  tD.seq hE w h ep fun d v F1 M1 H1 e1 w1 hE1 r1 q1 ep1 => by
    obtain ⟨i, rfl, q⟩ := q1
    rw [Rep] at r1
    exact ⟨i, r1, np _ F1 M1 H1 e1 w1 q⟩
def sliceF (M : MS) (x : D) (lo hi : Option Int) : Option D := match x with
  | .lst ds => some (.lst (cutD ds lo hi))
  | .ro ds => some (.lst (cutD ds lo hi))
  | .cell a => (lstOf (M a)).map fun ds => .lst (cutD ds lo hi)
  | .str z => if z.length ≤ 100000 then some (.str (cutS z lo hi)) else none
  | _ => none
def dSlice (t : DE) (tl th : DO) : DE := fun env M Q E => t env M (fun x M1 => tl env M1 (fun lo M2 => th env M2 (fun hi M3 => ∃ r, sliceF M3 x lo hi = some r ∧ Q r M3) E) E) E
theorem pd_slice {lo hi : Option Expr} {tl th : DO} {p2 : Pos} (he : PD G k N sc e te) (hl : PDO G k N sc lo tl) (hh : PDO G k N sc hi th) : PD G k N sc (.Subscript e (.Slice lo hi none p2) pos) (dSlice te tl th) := fun W X ok tk =>
  PE.imp (pe_slice (SlR.or sl_list sl_str) (he W X ok tk) (hl W X ok tk) (hh W X ok tk)) fun σ H Qh ⟨env, F, M, Φ, Q, E, hE, w, h, np, ep⟩ =>
    tD.seq hE w h ep fun d v F1 M1 H1 e1 w1 hE1 r1 q1 ep1 => ⟨env, F1, M1, Φ, _, E, hE1, w1, q1, fun l F2 M2 H2 e2 w2 q2 => ⟨env, F2, M2, Φ, (fun u M3 => ∃ r, sliceF M3 d l u = some r ∧ Q r M3), E, hE1.mono e2, w2, q2, (fun u F3 M3 H3 e3 w3 q3 => by
      obtain ⟨r, h1, q⟩ := q3
      have hK : X.K = G.K := by rw [ok.g]
      have r3 := (r1.mono e2).mono e3
      have e13 := (e1.trans e2).trans e3
      have lists : ∀ {ds : List D}, itemsOf M3 d = some ds → (∃ p vs, v = .ref p ∧ SqL G.K H3 p vs ∧ Reps G F3 ds vs) → Q (.lst (cutD ds l u)) M3 → rSlL X.K v l u H3 Qh ∨ rSlS v l u H3 Qh := fun {ds} _ hh q => by
        obtain ⟨p, vs, rfl, h1, h2⟩ := hh
        exact .inl ⟨p, vs, rfl, by rw [hK]; exact h1, fun n hn => np _ _ _ _ _ (e13.trans (w3.newEx hn)) (w3.new hn) (by rw [Rep]; exact ⟨n, _, rfl, upd_same, (h2.cut l u).mono (w3.newEx hn)⟩) q⟩
      unfold sliceF at h1
      split at h1
      · cases h1
        rw [Rep] at r3
        obtain ⟨p, vs, hv, h1, h2⟩ := r3
        exact lists rfl ⟨p, vs, hv, SqL.of (w3.f _ _ h1), h2⟩ q
      · cases h1
        rw [Rep] at r3
        obtain ⟨p, vs, hv, h1, h2⟩ := r3
        exact lists rfl ⟨p, vs, hv, ex_l w3.f h1, h2⟩ q
      · rename_i a
        cases q2 : lstOf (M3 a) with
        | none => rw [q2] at h1; cases h1
        | some ds =>
          rw [q2] at h1; cases h1
          rw [Rep] at r3
          obtain ⟨_, vs, h1, h2⟩ := w3.m a _ (lstOf_some q2)
          exact lists (ds := ds) q2 ⟨a, vs, r3, SqL.of h1, h2⟩ q
      · rename_i z
        rw [Rep] at r3
        split at h1
        · rename_i hz
          cases h1
          exact .inr ⟨z, r3, sz_of hz, np _ _ _ _ _ e13 w3 (by rw [Rep]) q⟩
        · cases h1
      · cases h1), ep1.mono e2⟩, ep1⟩

/-! ## built-in functions -/
abbrev RC := List D → MS → QD → Prop
def dCall (r : RC) (t : DA) : DE := fun env M Q E => t env M (fun ds M1 => r ds M1 Q) E
def CallD (G : Gx) (k : Nat) (f : Value) (r : RC) : Prop := ∀ X : Cx, G = ⟨X.prog, X.w, X.K, X.mg, X.base⟩ → Room k X.A → X.calm = true → ∃ rh : List V → Hp → VK → Prop, CallR X f rh ∧
  ∀ xs ds F M Φ H Q Qh, Wd G F M Φ H → Reps G F ds xs → r ds M Q → NP G F Φ Q Qh → rh xs H Qh
theorem dCall.run {W : WX} {r : RC} {rh : List V → Hp → VK → Prop} (hr : ∀ xs ds F M Φ H Q Qh, Wd G F M Φ H → Reps G F ds xs → r ds M Q → NP G F Φ Q Qh → rh xs H Qh) : ∀ σ H Q, tD G W (dCall r tr) σ H Q → tCB rh (tDA G W tr) σ H Q :=
  fun σ H Qh ⟨env, F, M, Φ, Q, E, hE, w, h, np, ep⟩ => ⟨env, F, M, Φ, _, E, hE, w, h, fun ds vs F1 M1 H1 e1 w1 rs q => hr vs ds F1 M1 Φ H1 Q Qh w1 rs q (np.mono e1), ep⟩
theorem pd_callB {x : Str} {id : String} {r : RC} (hc : CallD G k (.builtin id) r) (hg : glB sc x = true) (hm : G.mg x = none) (hv : bootBuiltins x = some (.builtin id)) (ha : PDA G k N sc (e :: es) tr) (hn : x ≠ "__name__")
    (he : ∀ env, starEach (e :: es) env = (false, eval e env) :: starEach es env := by intro _; rfl) (hpl : ∀ env pos, (backTo pos (starEach es env)).any (·.1) = false := by intro _ _; rfl) : PD G k N sc (.Call (.Name x p) (e :: es) [] pos) (dCall r tr) := fun W X ok tk => by
  obtain ⟨rh, h1, h2⟩ := hc X ok.g ok.room ok.calm
  obtain ⟨g1, g2⟩ := gl_of ok.scp hg
  have hm2 : X.mg x = none := by rw [ok.g] at hm; exact hm
  exact PE.imp (pe_callB h1 g1 hm2 hv (ha W X ok tk) hn g2 (he X.env) (hpl X.env pos)) (dCall.run h2)
theorem pd_callTy {x : Str} {T : String} {r : RC} (hc : CallD G k (.type T) r) (hg : glB sc x = true) (hm : G.mg x = none) (hv : bootBuiltins x = some (.type T)) (ha : PDA G k N sc (e :: es) tr) (hn : x ≠ "__name__")
    (he : ∀ env, starEach (e :: es) env = (false, eval e env) :: starEach es env := by intro _; rfl) (hpl : ∀ env pos, (backTo pos (starEach es env)).any (·.1) = false := by intro _ _; rfl) : PD G k N sc (.Call (.Name x p) (e :: es) [] pos) (dCall r tr) := fun W X ok tk => by
  obtain ⟨rh, h1, h2⟩ := hc X ok.g ok.room ok.calm
  obtain ⟨g1, g2⟩ := gl_of ok.scp hg
  have hm2 : X.mg x = none := by rw [ok.g] at hm; exact hm
  exact PE.imp (pe_callTy h1 g1 hm2 hv (ha W X ok tk) hn g2 (he X.env) (hpl X.env pos)) (dCall.run h2)
theorem reps1 {d : D} {vs : List V} (h : Reps G F [d] vs) : ∃ v, vs = [v] ∧ Rep G F d v := by
  rw [Reps] at h; obtain ⟨v, us, rfl, h1, h2⟩ := h
  rw [Reps] at h2; subst h2; exact ⟨v, rfl, h1⟩
theorem reps2 {d e : D} {vs : List V} (h : Reps G F [d, e] vs) : ∃ v u, vs = [v, u] ∧ Rep G F d v ∧ Rep G F e u := by
  rw [Reps] at h; obtain ⟨v, us, rfl, h1, h2⟩ := h
  obtain ⟨u, rfl, h3⟩ := reps1 h2; exact ⟨v, u, rfl, h1, h3⟩
def rLenD : RC := fun xs M Q => ∃ d, xs = [d] ∧ ((∃ ds, itemsOf M d = some ds ∧ Q (.int ds.length) M) ∨ ∃ s, d = .str s ∧ s.length ≤ 100000 ∧ Q (.int s.length) M)
theorem cd_len : CallD G k (.builtin "len") rLenD := fun X hg hr hc => ⟨_, call_len, fun xs ds F M Φ H Q Qh w rs h np => by
  obtain ⟨d, rfl, h⟩ := h
  obtain ⟨v, rfl, r⟩ := reps1 rs
  have hK : X.K = G.K := by rw [hg]
  rcases h with ⟨ds, h1, q⟩ | ⟨s, rfl, hz, q⟩
  · obtain ⟨p, vs, rfl, hs, rs2⟩ := itemsOf_seq w r h1
    have e := rs2.len
    rcases hs with hs | hs
    · exact ⟨_, vs.length, rfl, .inr ⟨vs, by rw [hK]; exact hs, rfl⟩, np.ret w (by rw [Rep, e]) q⟩
    · exact ⟨_, vs.length, rfl, .inl ⟨vs, by rw [hK]; exact hs, rfl⟩, np.ret w (by rw [Rep, e]) q⟩
  · rw [Rep] at r; subst r
    exact ⟨_, s.length, rfl, ⟨sz_of hz, rfl⟩, np.ret w (by rw [Rep]) q⟩⟩
def rAbsD : RC := fun xs M Q => ∃ i : Int, xs = [.int i] ∧ Q (.int (if i < 0 then -i else i)) M
theorem cd_abs : CallD G k (.builtin "abs") rAbsD := fun X hg hr hc => ⟨_, call_abs, fun xs ds F M Φ H Q Qh w rs h np => by
  obtain ⟨i, rfl, q⟩ := h
  obtain ⟨v, rfl, r⟩ := reps1 rs
  rw [Rep] at r; subst r
  exact ⟨i, rfl, np.ret w (by rw [Rep]) q⟩⟩
def rMaxD2 : RC := fun xs M Q => ∃ i j : Int, xs = [.int i, .int j] ∧ Q (.int (if j > i then j else i)) M
def rMinD2 : RC := fun xs M Q => ∃ i j : Int, xs = [.int i, .int j] ∧ Q (.int (if j < i then j else i)) M
theorem cd_max2 : CallD G k (.builtin "max") rMaxD2 := fun X hg hr hc => ⟨_, call_max2 hc, fun xs ds F M Φ H Q Qh w rs h np => by
  obtain ⟨i, j, rfl, q⟩ := h
  obtain ⟨v, u, rfl, r, r2⟩ := reps2 rs
  simp only [Rep] at r r2; subst r r2
  exact ⟨i, j, rfl, np.ret w (by rw [Rep]) q⟩⟩
theorem cd_min2 : CallD G k (.builtin "min") rMinD2 := fun X hg hr hc => ⟨_, call_min2 hc, fun xs ds F M Φ H Q Qh w rs h np => by
  obtain ⟨i, j, rfl, q⟩ := h
  obtain ⟨v, u, rfl, r, r2⟩ := reps2 rs
  simp only [Rep] at r r2; subst r r2
  exact ⟨i, j, rfl, np.ret w (by rw [Rep]) q⟩⟩
def rIntD1 : RC := fun xs M Q => (∃ i, xs = [.int i] ∧ Q (.int i) M) ∨ ∃ c, xs = [.bl c] ∧ Q (.int (if c then 1 else 0)) M
theorem cd_int1 : CallD G k (.type "int") rIntD1 := fun X hg hr hc => ⟨_, call_int1, fun xs ds F M Φ H Q Qh w rs h np => by
  rcases h with ⟨i, rfl, q⟩ | ⟨i, rfl, q⟩
  · obtain ⟨v, rfl, r⟩ := reps1 rs
    rw [Rep] at r; subst r
    exact .inl ⟨i, rfl, np.ret w (by rw [Rep]) q⟩
  · obtain ⟨v, rfl, r⟩ := reps1 rs
    rw [Rep] at r; subst r
    exact .inr ⟨i, rfl, np.ret w (by rw [Rep]) q⟩⟩
def rListD : RC := fun xs M Q => ∃ d ds, xs = [d] ∧ itemsOf M d = some ds ∧ Q (.lst ds) M
theorem cd_list : CallD G k (.type "list") rListD := fun X hg hr hc => ⟨_, call_list_of, fun xs ds F M Φ H Q Qh w rs h np => by
  obtain ⟨d, ds, rfl, h1, q⟩ := h
  obtain ⟨v, rfl, r⟩ := reps1 rs
  have hK : X.K = G.K := by rw [hg]
  obtain ⟨p, vs, rfl, hs, rs2⟩ := itemsOf_seq w r h1
  exact ⟨p, vs, rfl, by rw [hK]; exact hs.symm, fun n hn => np _ _ _ _ _ (w.newEx hn) (w.new hn) (by rw [Rep]; exact ⟨n, _, rfl, upd_same, rs2.mono (w.newEx hn)⟩) q⟩⟩
def rTupD : RC := fun xs M Q => ∃ ds, xs = [.lst ds] ∧ Q (.tup ds) M
theorem cd_tuple : CallD G k (.type "tuple") rTupD := fun X hg hr hc => ⟨_, call_tuple_of, fun xs ds F M Φ H Q Qh w rs h np => by
  obtain ⟨ds, rfl, q⟩ := h
  obtain ⟨v, rfl, r⟩ := reps1 rs
  rw [Rep] at r
  obtain ⟨p, vs, rfl, h1, rs2⟩ := r
  exact ⟨p, vs, rfl, .inl ⟨SqL.of (w.f _ _ h1), fun n hn => np _ _ _ _ _ (w.newEx hn) (w.new hn) (by rw [Rep]; exact ⟨n, _, rfl, SqT.of upd_same, rs2.mono (w.newEx hn)⟩) q⟩⟩⟩
def intsOf : List D → Option (List Int)
  | [] => some []
  | .int i :: ds => (intsOf ds).map (i :: ·)
  | _ :: _ => none
theorem intsOf_map : ∀ ns : List Int, intsOf (ns.map D.int) = some ns
  | [] => rfl
  | n :: ns => by rw [List.map_cons, intsOf, intsOf_map ns]; rfl
theorem intsOf_eq : ∀ {ds : List D} {ns : List Int}, intsOf ds = some ns → ds = ns.map D.int
  | [], _, h => by cases h; rfl
  | .int i :: ds, ns, h => by
    rw [intsOf] at h
    cases q : intsOf ds with
    | none => rw [q] at h; cases h
    | some ms => rw [q] at h; cases h; rw [intsOf_eq q]; rfl
  | .non :: _, _, h | .bl _ :: _, _, h | .str _ :: _, _, h | .lst _ :: _, _, h | .tup _ :: _, _, h | .ro _ :: _, _, h | .obj _ _ :: _, _, h | .dic _ _ :: _, _, h | .cell _ :: _, _, h => by cases h
def blsOf : List D → Option (List Bool)
  | [] => some []
  | .bl i :: ds => (blsOf ds).map (i :: ·)
  | _ :: _ => none
theorem blsOf_map : ∀ ns : List Bool, blsOf (ns.map D.bl) = some ns
  | [] => rfl
  | n :: ns => by rw [List.map_cons, blsOf, blsOf_map ns]; rfl
theorem blsOf_eq : ∀ {ds : List D} {ns : List Bool}, blsOf ds = some ns → ds = ns.map D.bl
  | [], _, h => by cases h; rfl
  | .bl i :: ds, ns, h => by
    rw [blsOf] at h
    cases q : blsOf ds with
    | none => rw [q] at h; cases h
    | some ms => rw [q] at h; cases h; rw [blsOf_eq q]; rfl
  | .non :: _, _, h | .int _ :: _, _, h | .str _ :: _, _, h | .lst _ :: _, _, h | .tup _ :: _, _, h | .ro _ :: _, _, h | .obj _ _ :: _, _, h | .dic _ _ :: _, _, h | .cell _ :: _, _, h => by cases h
/-- the items of a list (not of a tuple) -/
def listOf (M : MS) : D → Option (List D)
  | .lst ds => some ds
  | .ro ds => some ds
  | .cell a => lstOf (M a)
  | _ => none
theorem listOf_seq {d : D} {ds : List D} {v : V} (w : Wd G F M Φ H) (r : Rep G F d v) (h : listOf M d = some ds) : ∃ p vs, v = .ref p ∧ SqL G.K H p vs ∧ Reps G F ds vs := by
  cases d with
  | lst xs => rw [Rep] at r; obtain ⟨p, vs, rfl, h2, h3⟩ := r; cases h; exact ⟨p, vs, rfl, SqL.of (w.f _ _ h2), h3⟩
  | ro xs => rw [Rep] at r; obtain ⟨p, vs, rfl, h2, h3⟩ := r; cases h; exact ⟨p, vs, rfl, ex_l w.f h2, h3⟩
  | cell a =>
    rw [Rep] at r; subst r
    obtain ⟨_, vs, h1, h2⟩ := w.m a _ (lstOf_some h)
    exact ⟨a, vs, rfl, SqL.of h1, h2⟩
  | _ => cases h
def rSumD : RC := fun xs M Q => ∃ d ds ns, xs = [d] ∧ listOf M d = some ds ∧ intsOf ds = some ns ∧ Q (.int ns.sum) M
theorem cd_sum : CallD G k (.builtin "sum") rSumD := fun X hg hr hc => ⟨_, cr_sum hc, fun xs ds F M Φ H Q Qh w rs h np => by
  obtain ⟨d, ds, ns, rfl, h1, h2, q⟩ := h
  obtain ⟨v, rfl, r⟩ := reps1 rs
  have hK : X.K = G.K := by rw [hg]
  obtain ⟨p, vs, rfl, hs, rs2⟩ := listOf_seq w r h1
  rw [intsOf_eq h2] at rs2
  rw [rs2.ints] at hs
  exact ⟨p, ns, rfl, by rw [hK]; exact hs, np.ret w (by rw [Rep]) q⟩⟩
/-- any, all: of True, False; of whole numbers -/
theorem truth_ints {prog : Program} {w : World} {A : Around} {ns : List Int} {its : List Value} (e : Vals (ns.map V.int) its) :
    PySem.TruthOf prog w A (fun i v => its.toArray[i]? = some v) (fun i => (ns.map fun n => n != 0).getD i false) := fun i v s Q E hv hq => by
  have hv' : its[i]? = some v := by simpa using hv
  have hl := e.length
  have hi : i < ns.length := by
    have := (List.getElem?_eq_some_iff.mp hv').1
    rw [List.length_map] at hl; omega
  obtain ⟨u, h1, h2⟩ := e.get (i := i) (x := V.int ns[i]) (by rw [List.getElem?_map, List.getElem?_eq_getElem hi]; rfl)
  rw [hv'] at h1; cases h1
  obtain ⟨t, rfl⟩ := h2
  have hg : (ns.map fun n => n != 0).getD i false = (ns[i] != 0) := by
    rw [List.getD_eq_getElem?_getD, List.getElem?_map, List.getElem?_eq_getElem hi]; rfl
  have hq' : Q ((ns.map fun n => n != 0).getD i false) s := hq
  rw [hg] at hq'
  exact PySem.P.truthy_int hq'
end HD
namespace HD
open PySem L2
variable {G : Gx} {F F' H H' Φ : Hp} {σ : St} {env : En} {M M' : MS} {k : Nat} {N : List Str} {sc : ScX} {e a b c : Expr} {pos p : Pos} {te ta tb tc : DE} {es : List Expr} {tr : DA}

/-! ## any, all -/
theorem ints_len {ns : List Int} {its : List Value} (h : Vals (ns.map V.int) its) : its.toArray.size = ns.length := by
  rw [List.size_toArray, ← h.length, List.length_map]
theorem hs_anyI {X : Cx} (hc : X.calm = true) : CallR X (.builtin "any") (fun vs H Q => ∃ (a : Addr) (ns : List Int), vs = [V.ref a] ∧ SqL X.K H a (ns.map V.int) ∧ Q (.bl (ns.any fun n => n != 0)) H) := by
  intro pins s σ H vs us Q I r h
  obtain ⟨a, bs, rfl, hs, q⟩ := h
  obtain ⟨its, rv, hl, _⟩ := I.list hs
  rw [Vals.ref1 r]
  refine call_any_walk (iter_any hl.isList fun s₂ e2 st hne => ?_)
  subst e2
  refine ⟨_, _, _, _, _, _, _, rfl, Walks.list (A := X.A.in1) (I.ok.hd hc) _ a hne its.toArray, st, truth_ints rv, fun h' tk hk => ?_⟩
  refine ⟨.bl _, H, I.kept fun b o eo => hk b o (fun hmem => ?_) (Heap.get?_push_of_some _ eo), ?_, q⟩
  · rcases List.mem_cons.mp hmem with e1 | hmem
    · exact absurd (e1 ▸ Heap.lt_size eo) (Nat.lt_irrefl _)
    · cases hmem
  · show Value.bool _ = Value.bool _
    have e1 := any_range (bs.map fun n => n != 0)
    rw [List.length_map, List.any_map] at e1
    rw [ints_len rv, e1]; rfl
def rAnyD : RC := fun xs M Q => ∃ d ds, xs = [d] ∧ listOf M d = some ds ∧ ((∃ ns, intsOf ds = some ns ∧ Q (.bl (ns.any fun n => n != 0)) M) ∨ ∃ bs, blsOf ds = some bs ∧ Q (.bl (bs.any id)) M)
theorem cd_any : CallD G k (.builtin "any") rAnyD := fun X hg hr hc => ⟨_, (CallR.or (hs_anyI hc) (cr_any hc)), fun xs ds F M Φ H Q Qh w rs h np => by
  obtain ⟨d, ds, rfl, h1, h2⟩ := h
  obtain ⟨v, rfl, r⟩ := reps1 rs
  have hK : X.K = G.K := by rw [hg]
  obtain ⟨p, vs, rfl, hs, rs2⟩ := listOf_seq w r h1
  rcases h2 with ⟨ns, h2, q⟩ | ⟨bs, h2, q⟩
  · rw [intsOf_eq h2] at rs2
    rw [rs2.ints] at hs
    exact .inl ⟨p, ns, rfl, by rw [hK]; exact hs, np.ret w (by rw [Rep]) q⟩
  · rw [blsOf_eq h2] at rs2
    rw [rs2.bls] at hs
    exact .inr ⟨p, bs, rfl, by rw [hK]; exact hs, np.ret w (by rw [Rep]) q⟩⟩
def rAllD : RC := fun xs M Q => ∃ d ds bs, xs = [d] ∧ listOf M d = some ds ∧ blsOf ds = some bs ∧ Q (.bl (bs.all id)) M
theorem cd_all : CallD G k (.builtin "all") rAllD := fun X hg hr hc => ⟨_, cr_all hc, fun xs ds F M Φ H Q Qh w rs h np => by
  obtain ⟨d, ds, bs, rfl, h1, h2, q⟩ := h
  obtain ⟨v, rfl, r⟩ := reps1 rs
  have hK : X.K = G.K := by rw [hg]
  obtain ⟨p, vs, rfl, hs, rs2⟩ := listOf_seq w r h1
  rw [blsOf_eq h2] at rs2
  rw [rs2.bls] at hs
  exact ⟨p, bs, rfl, by rw [hK]; exact hs, np.ret w (by rw [Rep]) q⟩⟩

/-! ## targets -/
inductive Tg where
  | nm (i : Nat)
  | tp (is : List Nat)
def setMany (env : En) : List Nat → List D → En
  | i :: is, d :: ds => setMany (env.set i (some d)) is ds
  | _, _ => env
def dTg : Tg → D → En → MS → (En → MS → Prop) → Prop
  | .nm i, d, env, M, Q => Q (env.set i (some d)) M
  | .tp is, d, env, M, Q => ∃ ds, d = .tup ds ∧ ds.length = is.length ∧ Q (setMany env is ds) M
def gMany : List Nat → TGs
  | [] => gNil
  | i :: is => gCons (gName i) (gMany is)
def gTg (K : PySem.W.Frag) : Tg → TG
  | .nm i => gName i
  | .tp is => gTup K is.length (gMany is)
def PGD (G : Gx) (k : Nat) (N : List Str) (sc : ScX) (tg : Expr) (t : Tg) : Prop := ∀ X, XOk G k N sc X → PG X tg (gTg X.K t)
def PGsD (G : Gx) (k : Nat) (N : List Str) (sc : ScX) (ts : List Expr) (is : List Nat) : Prop := ∀ X, XOk G k N sc X → PGs X ts (gMany is) ∧ ts.length = is.length
/-- a name that may be stored: its own, a local or a cell of this very def or block -/
def locB (sc : ScX) (x : Str) : Bool := match sc.s.names.lookup x with
  | some .local => true
  | some .cell => sc.fn x
  | _ => false
theorem loc_of {X : Cx} {x : Str} (ok : XOk G k N sc X) (h : locB sc x = true) : Loc X.env.scope x ∧ (X.fn x = true ∨ X.env.scope.names.lookup x = some .local) := by
  unfold locB at h
  rw [ok.scp, ok.fn]
  split at h
  · rename_i e; exact ⟨.inl e, .inr e⟩
  · rename_i e; exact ⟨.inr e, .inl h⟩
  · cases h
theorem pgd_nm (i : Nat) {x : Str} (hi : N[i]? = some x) (hx : locB sc x = true) : PGD G k N sc (.Name x pos) (.nm i) := fun X ok => by
  obtain ⟨h1, h2⟩ := loc_of ok hx
  exact pg_name ok.nd (by rw [ok.N]; exact hi) h1 h2
theorem pgsd_nil : PGsD G k N sc [] [] := fun X ok => ⟨pgs_nil, rfl⟩
theorem pgsd_cons (i : Nat) {x : Str} {ts : List Expr} {is : List Nat} (hi : N[i]? = some x) (hx : locB sc x = true) (h : PGsD G k N sc ts is) : PGsD G k N sc (.Name x pos :: ts) (i :: is) := fun X ok =>
  ⟨pgs_cons (pgd_nm (G := G) (k := k) (pos := pos) i hi hx X ok) (h X ok).1, by rw [List.length_cons, List.length_cons, (h X ok).2]⟩
theorem pgd_tp {ts : List Expr} {is : List Nat} {j : Nat} (h : PGsD G k N sc ts is) (hs : ts.length = is.length → ∀ X, XOk G k N sc X → PGs X ts (gMany is) → PG X (.Tuple ts j pos) (gTup X.K is.length (gMany is))) : PGD G k N sc (.Tuple ts j pos) (.tp is) := fun X ok =>
  hs (h X ok).2 X ok (h X ok).1
theorem gMany_run {Q : St → Hp → Prop} : ∀ {is : List Nat} {ds : List D} {vs : List V} {σ : St} {env : En} {F H : Hp}, Reps G F ds vs → ds.length = is.length → EnR G F σ env → (∀ σ', EnR G F σ' (setMany env is ds) → Q σ' H) → gMany is vs σ H Q
  | [], [], vs, σ, env, F, H, r, _, hE, q => by rw [Reps] at r; subst r; exact ⟨rfl, q σ hE⟩
  | i :: is, d :: ds, vs, σ, env, F, H, r, hl, hE, q => by
    rw [Reps] at r; obtain ⟨v, us, rfl, h1, h2⟩ := r
    exact ⟨v, us, rfl, gMany_run (is := is) h2 (by simpa using hl) (hE.set h1) q⟩
  | [], _ :: _, _, _, _, _, _, _, hl, _, _ => by simp at hl
  | _ :: _, [], _, _, _, _, _, _, hl, _, _ => by simp at hl
theorem gTg_run {K : PySem.W.Frag} {t : Tg} {d : D} {v : V} {Q : En → MS → Prop} {Qh : St → Hp → Prop} (hK : K = G.K) (w : Wd G F M Φ H) (r : Rep G F d v) (hE : EnR G F σ env) (h : dTg t d env M Q)
    (q : ∀ env' σ', EnR G F σ' env' → Q env' M → Qh σ' H) : gTg K t v σ H Qh := by
  cases t with
  | nm i => exact q _ _ (hE.set r) h
  | tp is =>
    obtain ⟨ds, rfl, hl, h⟩ := h
    rw [Rep] at r
    obtain ⟨a, vs, rfl, h1, h2⟩ := r
    exact ⟨a, vs, rfl, by rw [hK]; exact ex_t w.f h1, by rw [← h2.len, hl], gMany_run h2 hl hE fun σ' hE' => q _ _ hE' h⟩

/-! ## what is walked -/
/-- J tells the items ds, one a turn, whatever happens meanwhile but to what keep asks -/
def Enum (G : Gx) (J : It) (F : Hp) (keep : MS → Prop) (ds : List D) : Prop := ∀ (i : Nat) F1 M1 Φ1 H1, Ex F F1 → Wd G F1 M1 Φ1 H1 → keep M1 →
  (i < ds.length → J.go i H1 ∧ ∀ x H2, J.yld i H1 x H2 → ∃ F2 d, Ex F1 F2 ∧ Wd G F2 M1 Φ1 H2 ∧ ds[i]? = some d ∧ Rep G F2 d x) ∧ (ds.length ≤ i → J.stop i H1)
abbrev DI := En → MS → (List D → (MS → Prop) → MS → Prop) → QE → Prop
def tDI (G : Gx) (W : WX) (t : DI) : TI := fun σ H R => ∃ env F M Φ Q E, EnR G F σ env ∧ Wd G F M Φ H ∧ t env M Q E ∧ (∀ ds keep J F' M' H', Ex F F' → Wd G F' M' Φ H' → Enum G J F' keep ds → Q ds keep M' → R J H') ∧ EPo G F Φ E fun c d H' => W c d σ H'
def PDI (G : Gx) (k : Nat) (N : List Str) (sc : ScX) (tg e : Expr) (t : DI) : Prop := ∀ W X, XOk G k N sc X → Takes X W → PI X tg e (tDI G W t)
theorem PI.imp {X : Cx} {tg e : Expr} {t t' : TI} (h : PI X tg e t) (i : ∀ σ H Q, t' σ H Q → t σ H Q) : PI X tg e t' := ⟨fun pins s σ H Q I q => h.run pins s σ H Q I (i σ H Q q)⟩
abbrev always : MS → Prop := fun _ => True
theorem enum_lst {K : PySem.W.Frag} (hK : K = G.K) {a : Addr} {ds : List D} {keep : MS → Prop} (h : ∀ F1 M1 Φ1 H1, Ex F F1 → Wd G F1 M1 Φ1 H1 → keep M1 → ∃ vs, SqL G.K H1 a vs ∧ Reps G F1 ds vs) : Enum G (Itl K a) F keep ds := fun i F1 M1 Φ1 H1 e w kp => by
  subst hK
  obtain ⟨vs, hs, r⟩ := h F1 M1 Φ1 H1 e w kp
  refine ⟨fun hi => ?_, fun hi => ⟨vs, hs, by rw [← r.len]; exact hi⟩⟩
  obtain ⟨v, h1, h2⟩ := r.get (List.getElem?_eq_getElem hi)
  refine ⟨⟨vs, v, hs, h1⟩, fun x H2 y => ?_⟩
  obtain ⟨rfl, y⟩ := y
  have e1 := y vs hs
  rw [h1] at e1; cases e1
  exact ⟨F1, _, Ex.refl F1, w, List.getElem?_eq_getElem hi, h2⟩
theorem enum_tup {K : PySem.W.Frag} (hK : K = G.K) {a : Addr} {ds : List D} {vs : List V} {keep : MS → Prop} (r : Reps G F ds vs) (h : ∀ F1 M1 Φ1 H1, Ex F F1 → Wd G F1 M1 Φ1 H1 → keep M1 → SqT G.K H1 a vs) : Enum G (Itt K a) F keep ds := fun i F1 M1 Φ1 H1 e w kp => by
  subst hK
  have hs := h F1 M1 Φ1 H1 e w kp
  refine ⟨fun hi => ?_, fun hi => ⟨vs, hs, by rw [← r.len]; exact hi⟩⟩
  obtain ⟨v, h1, h2⟩ := r.get (List.getElem?_eq_getElem hi)
  refine ⟨⟨vs, v, hs, h1⟩, fun x H2 y => ?_⟩
  obtain ⟨rfl, y⟩ := y
  have e1 := y vs hs
  rw [h1] at e1; cases e1
  exact ⟨F1, _, Ex.refl F1, w, List.getElem?_eq_getElem hi, h2.mono e⟩
/-- how a list stands still: a cell's as long as it is not changed -/
def keepOf : D → List D → MS → Prop
  | .cell a, ds => fun M => M a = some (.lst ds)
  | _, _ => always
theorem keepOf_seq {d : D} {ds : List D} {v : V} (w : Wd G F M Φ H) (r : Rep G F d v) (h : listOf M d = some ds) : ∃ p vs, v = .ref p ∧ SqL G.K H p vs ∧ ∀ F1 M1 Φ1 H1, Ex F F1 → Wd G F1 M1 Φ1 H1 → keepOf d ds M1 → ∃ vs, SqL G.K H1 p vs ∧ Reps G F1 ds vs := by
  cases d with
  | lst xs => rw [Rep] at r; obtain ⟨p, vs, rfl, h2, h3⟩ := r; cases h; exact ⟨p, vs, rfl, SqL.of (w.f _ _ h2), fun F1 M1 Φ1 H1 e w1 _ => ⟨vs, SqL.of (w1.f _ _ (e _ _ h2)), h3.mono e⟩⟩
  | ro xs => rw [Rep] at r; obtain ⟨p, vs, rfl, h2, h3⟩ := r; cases h; exact ⟨p, vs, rfl, ex_l w.f h2, fun F1 M1 Φ1 H1 e w1 _ => ⟨vs, ex_l w1.f (ex_l e h2), h3.mono e⟩⟩
  | cell a =>
    have h' := lstOf_some h
    obtain ⟨_, vs, h1, h2⟩ := w.m a _ h'
    rw [Rep] at r; subst r
    refine ⟨a, vs, rfl, SqL.of h1, fun F1 M1 Φ1 H1 e w1 kp => ?_⟩
    obtain ⟨_, us, h3, h4⟩ := w1.m a _ kp
    exact ⟨us, SqL.of h3, h4⟩
  | _ => cases h
def iLst (t : DE) : DI := fun env M R E => t env M (fun d M1 => ∃ ds, listOf M1 d = some ds ∧ R ds (keepOf d ds) M1) E
theorem pdi_lst {tg : Expr} (h : PD G k N sc e te) : PDI G k N sc tg e (iLst te) := fun W X ok tk => PI.imp (pi_list (h W X ok tk)) fun σ H R ⟨env, F, M, Φ, Q, E, hE, w, h, np, ep⟩ =>
  tD.seq hE w h ep fun d v F1 M1 H1 e1 w1 hE1 r1 q1 ep1 => by
    obtain ⟨ds, h1, q⟩ := q1
    have hK : X.K = G.K := by rw [ok.g]
    obtain ⟨p, vs, rfl, hs, kp⟩ := keepOf_seq w1 r1 h1
    exact ⟨p, rfl, ⟨vs, by rw [hK]; exact hs⟩, np _ _ _ _ _ _ e1 w1 (enum_lst hK kp) q⟩
def iTupD (t : DE) : DI := fun env M R E => t env M (fun d M1 => ∃ ds, d = .tup ds ∧ R ds always M1) E
theorem pdi_tup {tg : Expr} (h : PD G k N sc e te) : PDI G k N sc tg e (iTupD te) := fun W X ok tk => PI.imp (pi_tup (h W X ok tk)) fun σ H R ⟨env, F, M, Φ, Q, E, hE, w, h, np, ep⟩ =>
  tD.seq hE w h ep fun d v F1 M1 H1 e1 w1 hE1 r1 q1 ep1 => by
    obtain ⟨ds, rfl, q⟩ := q1
    have hK : X.K = G.K := by rw [ok.g]
    rw [Rep] at r1
    obtain ⟨p, vs, rfl, hs, rs⟩ := r1
    exact ⟨p, rfl, ⟨vs, by rw [hK]; exact ex_t w1.f hs⟩, np _ _ _ _ _ _ e1 w1 (enum_tup hK rs fun F1 M1 Φ1 H1 e w1 _ => ex_t w1.f (ex_t e hs)) q⟩
def upto (lo : Int) (n : Nat) : List D := (List.range n).map fun (i : Nat) => D.int (lo + (i : Int))
theorem upto_len {lo : Int} {n : Nat} : (upto lo n).length = n := by unfold upto; rw [List.length_map, List.length_range]
theorem enum_rng {lo : Int} {n : Nat} : Enum G (Itr lo n) F always (upto lo n) := fun i F1 M1 Φ1 H1 e w _ => by
  refine ⟨fun hi => ?_, fun hi => by rw [upto_len] at hi; exact hi⟩
  rw [upto_len] at hi
  refine ⟨hi, fun x H2 y => ?_⟩
  obtain ⟨rfl, rfl⟩ := y
  refine ⟨F1, .int (lo + (i : Int)), Ex.refl F1, w, ?_, by rw [Rep]⟩
  unfold upto
  rw [List.getElem?_map, List.getElem?_range hi]; rfl
def iRngD1 (t : DA) : DI := fun env M R E => t env M (fun ds M1 => ∃ j : Int, ds = [.int j] ∧ j ≤ 100000 ∧ -100000 ≤ j ∧ R (upto 0 j.toNat) always M1) E
def iRngD2 (t : DA) : DI := fun env M R E => t env M (fun ds M1 => ∃ i j : Int, ds = [.int i, .int j] ∧ (i ≤ 100000 ∧ -100000 ≤ i ∧ j ≤ 100000 ∧ -100000 ≤ j) ∧ R (upto i (j - i).toNat) always M1) E
theorem pdi_rng1 {tg : Expr} (hg : glB sc "range" = true) (hm : G.mg "range" = none) (ha : PDA G k N sc [a] tr) (hs : ∀ env, starEach [a] env = [(false, eval a env)] := by intro _; rfl) : PDI G k N sc tg (.Call (.Name "range" p) [a] [] pos) (iRngD1 tr) := fun W X ok tk => by
  obtain ⟨g1, g2⟩ := gl_of ok.scp hg
  have hm2 : X.mg "range" = none := by rw [ok.g] at hm; exact hm
  exact PI.imp (pi_range1 g1 hm2 (ha W X ok tk) (hs X.env)) fun σ H R ⟨env, F, M, Φ, Q, E, hE, w, h, np, ep⟩ =>
    ⟨env, F, M, Φ, _, E, hE, w, h, fun ds vs F1 M1 H1 e1 w1 rs q => by
      obtain ⟨j, rfl, h1, h2, q⟩ := q
      obtain ⟨v, rfl, r⟩ := reps1 rs
      rw [Rep] at r; subst r
      exact ⟨j, rfl, by omega, by omega, np _ _ _ _ _ _ e1 w1 enum_rng q⟩, ep⟩
theorem pdi_rng2 {tg : Expr} (hg : glB sc "range" = true) (hm : G.mg "range" = none) (ha : PDA G k N sc [a, b] tr) (hs : ∀ env, starEach [a, b] env = [(false, eval a env), (false, eval b env)] := by intro _; rfl) (hs2 : ∀ env, starEach [b] env = [(false, eval b env)] := by intro _; rfl) : PDI G k N sc tg (.Call (.Name "range" p) [a, b] [] pos) (iRngD2 tr) := fun W X ok tk => by
  obtain ⟨g1, g2⟩ := gl_of ok.scp hg
  have hm2 : X.mg "range" = none := by rw [ok.g] at hm; exact hm
  exact PI.imp (pi_range2 g1 hm2 (ha W X ok tk) (hs X.env) (hs2 X.env)) fun σ H R ⟨env, F, M, Φ, Q, E, hE, w, h, np, ep⟩ =>
    ⟨env, F, M, Φ, _, E, hE, w, h, fun ds vs F1 M1 H1 e1 w1 rs q => by
      obtain ⟨i, j, rfl, h1, q⟩ := q
      obtain ⟨v, u, rfl, r, r2⟩ := reps2 rs
      simp only [Rep] at r r2; subst r r2
      exact ⟨i, j, rfl, by omega, np _ _ _ _ _ _ e1 w1 enum_rng q⟩, ep⟩
/-- enumerate -/
def numbered (ds : List D) : List D := (List.range ds.length).zipWith (fun (i : Nat) d => D.tup [.int (i : Int), d]) ds
theorem numbered_len {ds : List D} : (numbered ds).length = ds.length := by unfold numbered; rw [List.length_zipWith, List.length_range, Nat.min_self]
theorem numbered_get {ds : List D} {i : Nat} {d : D} (h : ds[i]? = some d) : (numbered ds)[i]? = some (.tup [.int (i : Int), d]) := by
  unfold numbered
  rw [List.getElem?_zipWith, h, List.getElem?_range (List.getElem?_eq_some_iff.mp h).1]
def iEnumD (t : DA) : DI := fun env M R E => t env M (fun xs M1 => ∃ d ds, xs = [d] ∧ listOf M1 d = some ds ∧ R (numbered ds) (keepOf d ds) M1) E
theorem enum_pair {F1 : Hp} {x y : D} {u v : V} {T : Addr} (w : Wd G F1 M Φ H) (hT : H T = none) (h1 : Rep G F1 x u) (h2 : Rep G F1 y v) : ∃ F2 d, Ex F1 F2 ∧ Wd G F2 M Φ (upd H T (.tup [u, v])) ∧ d = .tup [x, y] ∧ Rep G F2 d (.ref T) :=
  ⟨_, _, w.newEx hT, w.new hT, rfl, by rw [Rep]; exact ⟨T, _, rfl, SqT.of upd_same, .cons (h1.mono (w.newEx hT)) (.cons (h2.mono (w.newEx hT)) .nil)⟩⟩
theorem pdi_enum {elts : List Expr} {kk : Nat} {tpos : Pos} (hg : glB sc "enumerate" = true) (hm : G.mg "enumerate" = none) (ha : PDA G k N sc [e] tr) (hs : ∀ env, starEach [e] env = [(false, eval e env)] := by intro _; rfl) :
    PDI G k N sc (.Tuple elts kk tpos) (.Call (.Name "enumerate" p) [e] [] pos) (iEnumD tr) := fun W X ok tk => by
  obtain ⟨g1, g2⟩ := gl_of ok.scp hg
  have hm2 : X.mg "enumerate" = none := by rw [ok.g] at hm; exact hm
  have hK : X.K = G.K := by rw [ok.g]
  exact PI.imp (pi_enum g1 hm2 (ha W X ok tk) (hs X.env)) fun σ H R ⟨env, F, M, Φ, Q, E, hE, w, h, np, ep⟩ =>
    ⟨env, F, M, Φ, _, E, hE, w, h, fun ds vs F1 M1 H1 e1 w1 rs q => by
      obtain ⟨d, ds, rfl, h1, q⟩ := q
      obtain ⟨v, rfl, r⟩ := reps1 rs
      obtain ⟨p, vs, rfl, hs, kp⟩ := keepOf_seq w1 r h1
      refine ⟨p, vs, rfl, by rw [hK]; exact hs, np _ _ _ _ _ _ e1 w1 (fun i F2 M2 Φ2 H2 e2 w2 k2 => ?_) q⟩
      obtain ⟨vs, hs2, rs2⟩ := kp F2 M2 Φ2 H2 e2 w2 k2
      rw [← hK] at hs2
      refine ⟨fun hi => ?_, fun hi => ⟨vs, hs2, by rw [← rs2.len]; rw [numbered_len] at hi; exact hi⟩⟩
      rw [numbered_len] at hi
      have hg := List.getElem?_eq_getElem hi
      obtain ⟨v, h2, h3⟩ := rs2.get hg
      refine ⟨⟨vs, v, hs2, h2⟩, fun x H3 y => ?_⟩
      obtain ⟨T, z, rfl, hT, rfl, hz⟩ := y
      have ez := hz vs hs2
      rw [h2] at ez; cases ez
      obtain ⟨F3, d3, a1, a2, rfl, a3⟩ := enum_pair (F1 := F2) (x := .int (i : Int)) (u := .int (i : Nat)) w2 hT (by rw [Rep]) h3
      exact ⟨F3, _, a1, a2, numbered_get hg, a3⟩, ep⟩
/-- zip of two lists -/
def paired (xs ys : List D) : List D := xs.zipWith (fun x y => D.tup [x, y]) ys
def iZipD (t : DA) : DI := fun env M R E => t env M (fun zs M1 => ∃ d ds e es, zs = [d, e] ∧ listOf M1 d = some ds ∧ listOf M1 e = some es ∧ R (paired ds es) (fun M2 => keepOf d ds M2 ∧ keepOf e es M2) M1) E
theorem pdi_zip {elts : List Expr} {kk : Nat} {tpos : Pos} {e2 : Expr} (hg : glB sc "zip" = true) (hm : G.mg "zip" = none) (ha : PDA G k N sc [e, e2] tr) (hs : ∀ env, starEach [e, e2] env = (false, eval e env) :: starEach [e2] env := by intro _; rfl) (hpl : ∀ env pos, (backTo pos (starEach [e2] env)).any (·.1) = false := by intro _ _; rfl) :
    PDI G k N sc (.Tuple elts kk tpos) (.Call (.Name "zip" p) [e, e2] [] pos) (iZipD tr) := fun W X ok tk => by
  obtain ⟨g1, g2⟩ := gl_of ok.scp hg
  have hm2 : X.mg "zip" = none := by rw [ok.g] at hm; exact hm
  have hK : X.K = G.K := by rw [ok.g]
  exact PI.imp (pi_zip g1 hm2 (ha W X ok tk) (hs X.env) (hpl X.env pos)) fun σ H R ⟨env, F, M, Φ, Q, E, hE, w, h, np, ep⟩ =>
    ⟨env, F, M, Φ, _, E, hE, w, h, fun ds vs F1 M1 H1 e1 w1 rs q => by
      obtain ⟨d, ds, e, es, rfl, h1, h1', q⟩ := q
      obtain ⟨v, v', rfl, r, r'⟩ := reps2 rs
      obtain ⟨p, vs, rfl, hs, kp⟩ := keepOf_seq w1 r h1
      obtain ⟨p', vs', rfl, hs', kp'⟩ := keepOf_seq w1 r' h1'
      refine ⟨p, p', vs, vs', rfl, by rw [hK]; exact hs, by rw [hK]; exact hs', np _ _ _ _ _ _ e1 w1 (fun i F2 M2 Φ2 H2 e2 w2 k2 => ?_) q⟩
      obtain ⟨vs, hs2, rs2⟩ := kp F2 M2 Φ2 H2 e2 w2 k2.1
      obtain ⟨vs', hs2', rs2'⟩ := kp' F2 M2 Φ2 H2 e2 w2 k2.2
      rw [← hK] at hs2 hs2'
      have hl : (paired ds es).length = min ds.length es.length := by unfold paired; rw [List.length_zipWith]
      refine ⟨fun hi => ?_, fun hi => ⟨vs, vs', hs2, hs2', by rw [← rs2.len, ← rs2'.len]; omega⟩⟩
      rw [hl] at hi
      have hg := List.getElem?_eq_getElem (show i < ds.length by omega)
      have hg' := List.getElem?_eq_getElem (show i < es.length by omega)
      obtain ⟨v, h2, h3⟩ := rs2.get hg
      obtain ⟨v', h2', h3'⟩ := rs2'.get hg'
      refine ⟨⟨vs, vs', v, v', hs2, hs2', h2, h2'⟩, fun x H3 y => ?_⟩
      obtain ⟨T, z, z', rfl, hT, rfl, hz, hz'⟩ := y
      have ez := hz vs hs2
      have ez' := hz' vs' hs2'
      rw [h2] at ez; cases ez
      rw [h2'] at ez'; cases ez'
      obtain ⟨F3, d3, a1, a2, rfl, a3⟩ := enum_pair w2 hT h3 h3'
      refine ⟨F3, _, a1, a2, ?_, a3⟩
      unfold paired
      rw [List.getElem?_zipWith, hg, hg'], ep⟩
end HD
namespace HD
open PySem L2
variable {G : Gx} {F F' H H' Φ : Hp} {σ : St} {env : En} {M M' : MS} {k : Nat} {N : List Str} {sc : ScX} {e a b c : Expr} {pos p : Pos} {te ta tb tc : DE} {es : List Expr} {tr : DA}

/-! ## comprehensions -/
def dTests (t : DT) : DT := t
def PDTs (G : Gx) (k : Nat) (N : List Str) (sc : ScX) (es : List Expr) (t : DT) : Prop := ∀ W X, XOk G k N sc X → Takes X W → PTs X es (tDT G W t)
def dYes : DT := fun _ M Q _ => Q true M
theorem PTs.imp {X : Cx} {es : List Expr} {t t' : TT} (h : PTs X es t) (i : ∀ σ H Q, t' σ H Q → t σ H Q) : PTs X es t' := ⟨fun pins s σ H Q I q => h.run pins s σ H Q I (i σ H Q q)⟩
theorem pdts_nil : PDTs G k N sc [] dYes := fun W X ok tk => PTs.imp pts_nil fun σ H Qh ⟨env, F, M, Φ, Q, E, hE, w, h, np, ep⟩ => np true F M H (Ex.refl F) w h
theorem pdts_one {t : DT} (h : PDT G k N sc c t) : PDTs G k N sc [c] t := fun W X ok tk => pts_one (h W X ok tk)
/-- the turns: what is left, what is made -/
def lcTurns (g : Tg) (tt : DT) (te : DE) (keep : MS → Prop) (env : En) : List D → List D → MS → QD → Prop
  | [], acc, M, Q => keep M ∧ Q (.lst acc) M
  | d :: ds, acc, M, Q => keep M ∧ dTg g d env M fun env' M1 => tt env' M1 (fun b M2 => if b = true then te env' M2 (fun y M3 => lcTurns g tt te keep env ds (acc ++ [y]) M3 Q) E00 else lcTurns g tt te keep env ds acc M2 Q) E00
def dLc (i : DI) (g : Tg) (tt : DT) (te : DE) (vs : List Nat) : DE := fun env M Q E => i env M (fun ds keep M1 => ds.length ≤ 100000 ∧ lcTurns g tt te keep (wipeD env vs) ds [] M1 Q) E
def tgIn (vs : List Nat) : Tg → Bool
  | .nm i => vs.contains i
  | .tp is => is.all fun i => vs.contains i
theorem wipe_set {i : Nat} {v : Option V} : ∀ {vs : List Nat} {σ : St}, i ∈ vs → wipe (σ.set i v) vs = wipe σ vs
  | [], _, h => by cases h
  | j :: vs, σ, h => by
    show (wipe (σ.set i v) vs).set j none = (wipe σ vs).set j none
    by_cases hj : i ∈ vs
    · rw [wipe_set hj]
    · have e : i = j := by rcases List.mem_cons.mp h with h | h; exact h; exact absurd h hj
      subst e
      have q : ∀ {ws : List Nat} {σ : St}, i ∉ ws → wipe (σ.set i v) ws = (wipe σ ws).set i v := fun {ws} => by
        induction ws with
        | nil => intro σ _; rfl
        | cons k ws ih =>
          intro σ hn
          show (wipe (σ.set i v) ws).set k none = ((wipe σ ws).set k none).set i v
          rw [ih (fun z => hn (List.mem_cons_of_mem _ z)), List.set_comm]
          exact fun z => hn (by rw [z]; exact List.mem_cons_self ..)
      rw [q hj, List.set_set]
theorem wipe_wipe : ∀ {vs : List Nat} {σ : St}, wipe (wipe σ vs) vs = wipe σ vs := fun {vs} => by
  have q : ∀ (ws : List Nat) {σ : St}, (∀ i ∈ ws, i ∈ vs) → wipe (wipe σ ws) vs = wipe σ vs := fun ws => by
    induction ws with
    | nil => intro σ _; rfl
    | cons k ws ih =>
      intro σ h
      show wipe ((wipe σ ws).set k none) vs = _
      rw [wipe_set (h k (List.mem_cons_self ..)), ih fun i hi => h i (List.mem_cons_of_mem _ hi)]
  intro σ
  exact q vs fun _ h => h
/-- a target that stores the block's names alone -/
theorem gTg_in {K : PySem.W.Frag} {vs : List Nat} {t : Tg} (ht : tgIn vs t = true) {v : V} {σ : St} {H : Hp} {Q : St → Hp → Prop} (h : gTg K t v σ H Q) : gTg K t v σ H fun σ' H' => wipe σ' vs = wipe σ vs ∧ Q σ' H' := by
  cases t with
  | nm i => exact ⟨wipe_set (by simpa [tgIn] using ht), h⟩
  | tp is =>
    obtain ⟨a, xs, h1, h2, h3, h4⟩ := h
    refine ⟨a, xs, h1, h2, h3, ?_⟩
    have q : ∀ {is : List Nat} {xs : List V} {σ : St}, (∀ i ∈ is, i ∈ vs) → gMany is xs σ H Q → gMany is xs σ H fun σ' H' => wipe σ' vs = wipe σ vs ∧ Q σ' H' := fun {is} => by
      induction is with
      | nil => intro xs σ _ h; exact ⟨h.1, rfl, h.2⟩
      | cons i is ih =>
        intro xs σ hi h
        obtain ⟨v, r, e, h⟩ := h
        refine ⟨v, r, e, ?_⟩
        have h5 := ih (σ := σ.set i (some v)) (fun j hj => hi j (List.mem_cons_of_mem _ hj)) h
        rw [wipe_set (hi i (List.mem_cons_self ..))] at h5
        exact h5
    refine q (fun i hi => ?_) h4
    have z : is.all (fun i => vs.contains i) = true := ht
    have := List.all_eq_true.mp z i hi
    simpa using this
/-- the frame with one more list in the making -/
theorem Wd.hide {o : HO} {p : Addr} (w : Wd G F M Φ H) (h : H p = none) : Wd G F M (upd Φ p o) (upd H p o) where
  f := fun b u e => by
    have hb : b ≠ p := ne_of_none e (w.freeF h)
    rw [upd_ne hb]; exact w.f b u e
  m := fun b u e => by
    have hb : b ≠ p := ne_of_M e (w.freeM h)
    exact ⟨(w.m b u e).1, (w.m b u e).2.mono (Ex.refl F) (upd_ne hb)⟩
  φ := fun b u e => by
    by_cases hb : b = p
    · subst hb; rw [upd_same] at e ⊢; exact ⟨e, w.freeF h, w.freeM h⟩
    · rw [upd_ne hb] at e ⊢; exact w.φ b u e
theorem Wd.hset {o o' : HO} {p : Addr} (w : Wd G F M (upd Φ p o) H) : Wd G F M (upd Φ p o') (upd H p o') where
  f := fun b u e => by
    have z := (w.φ p o upd_same).2.1
    have hb : b ≠ p := ne_of_none e z
    rw [upd_ne hb]; exact w.f b u e
  m := fun b u e => by
    have z := (w.φ p o upd_same).2.2
    have hb : b ≠ p := ne_of_M e z
    exact ⟨(w.m b u e).1, (w.m b u e).2.mono (Ex.refl F) (upd_ne hb)⟩
  φ := fun b u e => by
    by_cases hb : b = p
    · subst hb; rw [upd_same] at e ⊢; exact ⟨e, (w.φ b o upd_same).2⟩
    · rw [upd_ne hb] at e ⊢; exact w.φ b u (by rw [upd_ne hb]; exact e)
theorem Wd.show_ {o : HO} {p : Addr} (hΦ : Φ p = none) (w : Wd G F M (upd Φ p o) H) : Wd G (upd F p o) M Φ H where
  f := fun b u e => by
    by_cases hb : b = p
    · subst hb; rw [upd_same] at e; cases e; exact (w.φ b o upd_same).1
    · rw [upd_ne hb] at e; exact w.f b u e
  m := fun b u e => by
    have z := (w.φ p o upd_same).2
    have hb : b ≠ p := ne_of_M e z.2
    exact ⟨by rw [upd_ne hb]; exact (w.m b u e).1, (w.m b u e).2.mono (Ex.new z.1) rfl⟩
  φ := fun b u e => by
    have hb : b ≠ p := ne_of_none e hΦ
    obtain ⟨h1, h2, h3⟩ := w.φ b u (by rw [upd_ne hb]; exact e)
    exact ⟨h1, by rw [upd_ne hb]; exact h2, h3⟩
theorem lc_run {g : Tg} {tt : DT} {te : DE} {vs : List Nat} {K : PySem.W.Frag} (hK : K = G.K) (hg : tgIn vs g = true) {J : It} {keep : MS → Prop} {ds : List D} {D0 : Addr} {Q : QD} {Qh : VK} {F0 : Hp}
    (hE : EnR G F σ env) (w : Wd G F M Φ H) (en : Enum G J F keep ds) (hl : ds.length ≤ 100000) (h : lcTurns g tt te keep (wipeD env vs) ds [] M Q) (e0 : Ex F0 F) (np : NP G F0 Φ Q Qh) (hD : H D0 = none) :
    ∃ W : Nat → Nat → Hp → Prop, (∃ m, W 0 m (upd H D0 (.lst []))) ∧ ∀ i m H, W i m H →
      (J.stop i H ∧ Qh (.ref D0) H) ∨ (J.go i H ∧ ∃ Nx : Hp → Prop, (∀ H', Nx H' → ∃ m', m' < m ∧ W (i + 1) m' H') ∧ ∀ x H', J.yld i H x H' → gTg K g x (wipe σ vs) H' fun σ2 H2 => wipe σ2 vs = wipe σ vs ∧ tDT G (fun _ _ _ _ => False) tt σ2 H2 fun b H3 =>
        if b = true then tD G (fun _ _ _ _ => False) te σ2 H3 fun y H4 => ∃ acc, H4 D0 = some (.lst acc) ∧ acc.length < sizeLine ∧ Nx (upd H4 D0 (.lst (acc ++ [y]))) else Nx H3) := by
  have hΦ := w.freeΦ hD
  -- the word: how far, what is made
  refine ⟨fun i m H1 => m = ds.length - i ∧ i ≤ ds.length ∧ ∃ F1 M1 acc vacc, Ex F F1 ∧ Reps G F1 acc vacc ∧ Wd G F1 M1 (upd Φ D0 (.lst vacc)) H1 ∧ acc.length ≤ i ∧ lcTurns g tt te keep (wipeD env vs) (ds.drop i) acc M1 Q,
    ⟨ds.length, by simp, Nat.zero_le _, F, M, [], [], Ex.refl F, .nil, w.hide hD, Nat.le_refl _, by simpa using h⟩, ?_⟩
  rintro i m H1 ⟨rfl, hi, F1, M1, acc, vacc, e1, ra, w1, hla, h1⟩
  by_cases hlt : i < ds.length
  · have hdrop : ds.drop i = ds[i] :: ds.drop (i + 1) := List.drop_eq_getElem_cons hlt
    rw [hdrop] at h1
    obtain ⟨kp, h1⟩ := h1
    obtain ⟨go, yl⟩ := (en i F1 M1 _ H1 e1 w1 kp).1 hlt
    obtain ⟨Nx, hNx⟩ : ∃ Nx : Hp → Prop, Nx = fun H2 => i + 1 ≤ ds.length ∧ ∃ F1 M1 acc vacc, Ex F F1 ∧ Reps G F1 acc vacc ∧ Wd G F1 M1 (upd Φ D0 (.lst vacc)) H2 ∧ acc.length ≤ i + 1 ∧ lcTurns g tt te keep (wipeD env vs) (ds.drop (i + 1)) acc M1 Q := ⟨_, rfl⟩
    refine .inr ⟨go, Nx, fun H2 h2 => ⟨ds.length - (i + 1), by omega, rfl, by rw [hNx] at h2; exact h2⟩, fun x H2 y => ?_⟩
    obtain ⟨F2, d, e2, w2, hd, r2⟩ := yl x H2 y
    rw [List.getElem?_eq_getElem hlt] at hd
    cases hd
    have hw : wipe (wipe σ vs) vs = wipe σ vs := wipe_wipe
    have key : gTg K g x (wipe σ vs) H2 (fun σ2 H2 => tDT G (fun _ _ _ _ => False) tt σ2 H2 fun b H3 =>
        if b = true then tD G (fun _ _ _ _ => False) te σ2 H3 fun y H4 => ∃ acc, H4 D0 = some (.lst acc) ∧ acc.length < sizeLine ∧ Nx (upd H4 D0 (.lst (acc ++ [y]))) else Nx H3) := by
      refine gTg_run (σ := wipe σ vs) hK w2 r2 ((hE.mono (e1.trans e2)).wipe vs) h1 fun env' σ' hE' q => ?_
      refine ⟨env', F2, M1, _, _, E00, hE', w2, q, fun b F3 M3 H3 e3 w3 q3 => ?_, EPo.none⟩
      cases b with
      | true =>
        rw [if_pos rfl] at q3 ⊢
        refine ⟨env', F3, M3, _, _, E00, hE'.mono e3, w3, q3, fun y v F4 M4 H4 e4 w4 r4 q4 => ?_, EPo.none⟩
        refine ⟨vacc, (w4.φ D0 _ upd_same).1, by rw [← ra.len]; exact sz_lt (by omega), ?_⟩
        rw [hNx]
        exact ⟨by omega, F4, M4, acc ++ [y], vacc ++ [v], ((e1.trans e2).trans e3).trans e4, ((ra.mono ((e2.trans e3).trans e4))).snoc r4, w4.hset, by rw [List.length_append]; simp; omega, q4⟩
      | false =>
        rw [if_neg Bool.false_ne_true] at q3 ⊢
        rw [hNx]
        exact ⟨by omega, F3, M3, acc, vacc, (e1.trans e2).trans e3, ra.mono (e2.trans e3), w3, by omega, q3⟩
    have k2 := gTg_in (vs := vs) hg key
    rw [hw] at k2
    exact k2
  · have hn : ds.drop i = [] := List.drop_eq_nil_of_le (by omega)
    rw [hn] at h1
    obtain ⟨kp, h1⟩ := h1
    refine .inl ⟨(en i F1 M1 _ H1 e1 w1 kp).2 (by omega), ?_⟩
    have w2 := w1.show_ hΦ
    have z := (w1.φ D0 _ upd_same).2.1
    exact np _ _ _ _ _ (e0.trans (e1.trans (Ex.new z))) w2 (by rw [Rep]; exact ⟨D0, vacc, rfl, upd_same, ra.mono (Ex.new z)⟩) h1
/-- the scope of a block -/
def blkS (sc : ScX) (scope : Scope) : ScX := ⟨relS scope sc.s, fun x => scope.names.lookup x == some .cell⟩
theorem XOk.blk {X : Cx} {scope : Scope} (ok : XOk G k N sc X) (s : Shared) (H : Hp) (C : Addr) (cl : List (Str × Addr)) (fp : List Addr) : XOk G k N (blkS sc scope) (X.blk s H scope (compEnvC scope cl C X.env) fp) where
  g := ok.g
  N := ok.N
  scp := by
    show PySem.relabel scope X.env = relS scope sc.s
    rw [← ok.scp]; rfl
  fn := rfl
  calm := ok.calm
  room := ok.room
  po := PassesOwn.never
  nd := ok.nd
theorem pd_lc {elt tg iter : Expr} {ifs : List Expr} {scope : Scope} {i : DI} {g : Tg} {tt : DT} (own : List (Str × Nat)) (hb : blkC N sc.s scope own = true) (hin : tgIn (own.map (·.2)) g = true) (hi : PDI G k N sc tg iter i) (hg : PGD G k N (blkS sc scope) tg g) (ht : PDTs G k N (blkS sc scope) ifs tt) (he : PD G k N (blkS sc scope) elt te)
    (hs : ∀ env x, foldedSetIterable iter env x = pure x := by intro _ _; rfl) : PD G k N sc (.ListComp elt [⟨tg, iter, ifs, 0⟩] scope pos) (dLc i g tt te (own.map (·.2))) := fun W X ok tk => by
  have hK : X.K = G.K := by rw [ok.g]
  have bo : BlkOk X.N X.env.scope scope own := by rw [ok.N, ok.scp]; exact blkOk_by hb
  refine PE.imp (pe_lc (g := gTg X.K g) ok.calm ok.nd (hi W X ok tk) bo (fun s H C cl fp => hg _ (ok.blk s H C cl fp)) (fun s H C cl fp => ht _ _ (ok.blk s H C cl fp) takes0) (fun s H C cl fp => he _ _ (ok.blk s H C cl fp) takes0) (hs X.env)) fun σ H Qh ⟨env, F, M, Φ, Q, E, hE, w, h, np, ep⟩ => ?_
  exact ⟨env, F, M, Φ, _, E, hE, w, h, fun ds keep J F1 M1 H1 e1 w1 en q D0 hD => lc_run hK hin (hE.mono e1) w1 en q.1 q.2 e1 np hD, ep⟩
/-- name = [..] -/
theorem psd_setLc {elt tg iter : Expr} {ifs : List Expr} {scope : Scope} {it : DI} {g : Tg} {tt : DT} {py spos : Pos} (i : Nat) {y : Str} (own : List (Str × Nat)) (hy : N[i]? = some y) (hyl : sc.s.names.lookup y = some .local) (hfu : sc.s.kind = .function)
    (hln : (py.line == pos.line) = true) (hno : (scope.names.any fun (n, k) => n == y && (k == .local || k == .cell)) = false) (hb : blkC N sc.s scope own = true) (hin : tgIn (own.map (·.2)) g = true) (hi : PDI G k N sc tg iter it) (hg : PGD G k N (blkS sc scope) tg g) (ht : PDTs G k N (blkS sc scope) ifs tt) (he : PD G k N (blkS sc scope) elt te)
    (hs : ∀ env x, foldedSetIterable iter env x = pure x := by intro _ _; rfl) : PDS G k N sc (.Assign [.Name y py] (.ListComp elt [⟨tg, iter, ifs, 0⟩] scope pos) spos) (fun D env M => dLc it g tt te (own.map (·.2)) env M (fun d M1 => D.nx (env.set i (some d)) M1) (D.ex env)) := fun W X ok tk => by
  have hK : X.K = G.K := by rw [ok.g]
  have bo : BlkOk X.N X.env.scope scope own := by rw [ok.N, ok.scp]; exact blkOk_by hb
  refine PS.imp (ps_setLc (i := i) (g := gTg X.K g) ok.calm ok.nd (by rw [ok.N]; exact hy) (by rw [ok.scp]; exact hyl) (sw_true (by rw [ok.scp]; exact hfu) (by rw [ok.scp]; exact hyl) hln hno) (hi W X ok tk) bo (fun s H C cl fp => hg _ (ok.blk s H C cl fp)) (fun s H C cl fp => ht _ _ (ok.blk s H C cl fp) takes0) (fun s H C cl fp => he _ _ (ok.blk s H C cl fp) takes0) (hs X.env)) fun Dh σ H ⟨env, F, M, Φ, D', hE, w, h, eo⟩ => ?_
  refine ⟨env, F, M, Φ, _, _, hE, w, h, fun ds keep J F1 M1 H1 e1 w1 en q D0 hD => lc_run (Qh := fun x H1 => gName i x σ H1 Dh.nx) hK hin (hE.mono e1) w1 en q.1 q.2 e1 (fun d v F2 M2 H2 e2 w2 r2 q2 => ?_) hD, eo.ex env σ F (Ex.refl F) hE⟩
  exact eo.nx _ _ F2 M2 H2 e2 ((hE.mono e2).set r2) w2 q2
end HD
/-! Comprehensions of several clauses, clause by clause. -/
namespace HD
open PySem PySem.Spec L2
open PyProof.Rows hiding St

section
variable {prog : Program} {w : World} {A : Around} {R : Result → Shared → Prop} {s : Shared} {elt t0 i0 : Expr} {ifs0 : List Expr} {gens : List Comprehension} {scope : Scope} {pos : Pos} {it acc : Value} {env : Env} {dep : Nat}
/-- what a turn does behind the tests -/
def behindTests (e elt : Expr) (dep : Nat) (nxt : Option Expr) (acc : Value) (env : Env) : Sem Unit := match nxt with
  | some i1 => do
    let x ← eval i1 env
    standAt i1.pos
    let x ← foldedSetIterable i1 env x
    let _ ← runOwn (.compStart e (dep + 1) (← holding [x] (pyIter x)) acc env) env
  | none => do
    let _ ← call (.builtin "list.append") [acc, ← eval elt env]
/-- the form of a clause's turn -/
def TurnForm (elt : Expr) (gens : List Comprehension) (scope : Scope) (pos : Pos) (dep : Nat) (t0 i0 : Expr) (ifs0 : List Expr) (nxt : Option Expr) : Prop := ∀ it acc env,
  compTurn (.ListComp elt gens scope pos) dep it acc env = (do
      standAt i0.pos
      match ← pyNext it with
      | none => pure (.done .next)
      | some v =>
        letOwnedTupleGo t0 it v
        assign t0 env v
        let mut ok := true
        for c in ifs0 do
          if ok then ok ← isTrue c env (eval c env)
        if ok then behindTests (.ListComp elt gens scope pos) elt dep nxt acc env
        again (.compLoop (.ListComp elt gens scope pos) dep it acc env))
theorem loopForm {nxt : Option Expr} (hT : TurnForm elt gens scope pos dep t0 i0 ifs0 nxt) (I : Nat → Shared → Prop)
    (turn : ∀ n s, I n s → wpAny (model prog w) A (pyNext it) (fun r s1 => match r with
      | none => R (.ok .next) s1
      | some v => wpAny (model prog w) A (letOwnedTupleGo t0 it v) (fun _ s2 => wpAny (model prog w) A (assign t0 env v) (fun _ s3 =>
          wpAny (model prog w) A (forIn ifs0 true fun c r => if r = true then do let ok ← isTrue c env (eval c env); pure (ForInStep.yield ok) else pure (ForInStep.yield r)) (fun ok s4 =>
            if ok = true then wpAny (model prog w) A (behindTests (.ListComp elt gens scope pos) elt dep nxt acc env) (fun _ s5 => ∃ m, m < n ∧ I m s5) (notedBy (model prog w) A env fun e s' => R (.error e) s') s4
            else ∃ m, m < n ∧ I m s4) (notedBy (model prog w) A env fun e s' => R (.error e) s') s3) (notedBy (model prog w) A env fun e s' => R (.error e) s') s2) (notedBy (model prog w) A env fun e s' => R (.error e) s') s1) (notedBy (model prog w) A env fun e s' => R (.error e) s') s)
    (n : Nat) (h : I n s) : codeAny (model prog w) A (.compLoop (.ListComp elt gens scope pos) dep it acc env) R s := by
  refine codeAny_loop rfl I (fun n s hI => ?_) n h
  show wpAny _ A ((compTurn (.ListComp elt gens scope pos) dep it acc env).onRaise (fun x => do noteFrame x env; theTreesLotGoes x)) _ _ s
  refine wpAny_noted ?_
  rw [hT]
  refine wpAny_bind (wpAny_standAt (wpAny_bind (wpAny_mono (turn n s hI) (fun r s1 h1 => ?_) fun _ _ z => z)))
  cases r with
  | none => exact wpAny_pure h1
  | some v =>
    refine wpAny_bind (wpAny_mono h1 (fun _ s2 h2 => wpAny_bind (wpAny_mono h2 (fun _ s3 h3 => wpAny_bind (wpAny_mono h3 (fun ok s4 h4 => ?_) fun _ _ z => z)) fun _ _ z => z)) fun _ _ z => z)
    cases ok with
    | false => exact wpAny_pure ⟨rfl, h4⟩
    | true => exact wpAny_bind (wpAny_mono h4 (fun _ s5 h5 => wpAny_pure ⟨rfl, h5⟩) fun _ _ z => z)
theorem startForm {g : Comprehension} (hg : gens[dep]? = some g) (ha : g.is_async = 0) (h0 : codeAny (model prog w) A (.compLoop (.ListComp elt gens scope pos) dep it acc env) R s)
    (h : wpAny (model prog w) A (pyIter it) (fun it' s' => codeAny (model prog w) A (.compLoop (.ListComp elt gens scope pos) dep it' acc env) R s')
      (notedBy (model prog w) A env fun x s' => R (.error x) s') s) :
    codeAny (model prog w) A (.compStart (.ListComp elt gens scope pos) dep it acc env) R s := by
  refine codeAny_of_tree ?_
  show wpAny _ _ ((compStart (.ListComp elt gens scope pos) dep it acc env).onRaise (fun x => do noteFrame x env; standAt theWindowsPlace)) _ _ s
  refine wpAny_notedAt ?_
  unfold compStart
  have hcl : clausesOf (.ListComp elt gens scope pos) = gens := rfl
  rw [hcl, hg]
  have hz : (Option.elim (some g) false fun x => x.is_async != 0) = false := by
    show (g.is_async != 0) = false
    rw [ha]; rfl
  rw [hz, if_neg Bool.false_ne_true]
  show wpAny _ _ (ask >>= _) _ _ s
  refine wpAny_bind (wpAny_askSetting (wpAny_ite ?_))
  split
  · first
      | exact wpAny_bind (wpAny_pure (wpAny_pure (And.intro rfl h0)))
      | exact wpAny_pure (And.intro rfl h0)
  · refine wpAny_bind (wpAny_rule ?_)
    show wpAny _ _ (standAt g.iter.pos >>= _) _ _ s
    exact wpAny_bind (wpAny_standAt (wpAny_bind (wpAny_mono h (fun it' s' h' => wpAny_pure (And.intro rfl h')) fun _ _ x => x)))
end

/-! ### within the block -/
section
variable {Y : Cx} {elt : Expr} {gens : List Comprehension} {scope : Scope} {pos : Pos} {D0 : Addr}
/-- σ' knows what σ knows outside vs -/
def Knows (vs : List Nat) (σ σ' : St) : Prop := σ.length = σ'.length ∧ ∀ (j : Nat) v, (wipe σ vs)[j]? = some (some v) → σ'[j]? = some (some v)
/-- the part behind the tests, read by T: from σ, H to what is wanted of the heap -/
def BehindOk (Y : Cx) (act : Sem Unit) (gt : List Nat) (T : St → Hp → (Hp → Prop) → Prop) : Prop := ∀ (pins : List (Addr × Obj)) (s : Shared) (σ : St) (H : Hp) (Nx : Hp → Prop), Inv Y.nox pins σ H s → T σ H Nx →
  wpAny (model Y.prog Y.w) Y.A act (fun _ s' => ∃ σ' H', Inv Y.nox pins σ' H' s' ∧ Knows gt σ σ' ∧ Nx H') (fun _ _ => False) s
def tEmit (D0 : Addr) (te : TE) : St → Hp → (Hp → Prop) → Prop := fun σ H Nx => te σ H fun y H' => ∃ acc, H' D0 = some (.lst acc) ∧ acc.length < sizeLine ∧ Nx (upd H' D0 (.lst (acc ++ [y])))
theorem emitOk {te : TE} {e : Expr} {dep : Nat} (he : PE Y.nox elt te) : BehindOk Y (behindTests e elt dep none (.ref D0) Y.env) [] (tEmit D0 te) := fun pins s σ H Nx I h => by
  show wpAny _ _ (do let _ ← call (.builtin "list.append") [.ref D0, ← eval elt Y.env]) _ _ s
  refine wpAny_bind (thnF (he.run pins s σ H _ I h) fun v s1 ⟨y, H1, I1, r1, acc, hD, hz, nx⟩ => ?_)
  refine wpAny_bind (app_ok (X := Y.nox) I1 hD hz r1 fun s2 I2 => wpAny_pure ⟨σ, _, I2, ⟨rfl, fun j v e => e⟩, nx⟩)
/-- the turns of one clause -/
def tTurns (g : TG) (tt : TT) (vs : List Nat) (T : St → Hp → (Hp → Prop) → Prop) (σ : St) (J : It) (H : Hp) (Nx : Hp → Prop) : Prop := ∃ W : Nat → Nat → Hp → Prop, (∃ m, W 0 m H) ∧ ∀ i m H, W i m H →
  (J.stop i H ∧ Nx H) ∨ (J.go i H ∧ ∃ N1 : Hp → Prop, (∀ H', N1 H' → ∃ m', m' < m ∧ W (i + 1) m' H') ∧ ∀ x H', J.yld i H x H' → g x (wipe σ vs) H' fun σ2 H2 => wipe σ2 vs = wipe σ vs ∧ tt σ2 H2 fun b H3 => if b = true then T σ2 H3 N1 else N1 H3)
/-- the loop of a clause whose iterator stands -/
theorem clauseLoop {dep : Nat} {tg iter : Expr} {ifs : List Expr} {nxt : Option Expr} {g : TG} {tt : TT} {vs gt : List Nat} {T : St → Hp → (Hp → Prop) → Prop} {R : Result → Shared → Prop} {pins : List (Addr × Obj)} {s : Shared} {σ : St} {H : Hp} {Nx : Hp → Prop}
    {itr : Addr} {fp : List Addr} {tn : Nat → Heap → Prop} {J : It} (hT : TurnForm elt gens scope pos dep tg iter ifs nxt) (hc : Y.calm = true) (pg : PG Y.nox tg g) (pt : PTs Y.nox ifs tt) (hb : BehindOk Y (behindTests (.ListComp elt gens scope pos) elt dep nxt (.ref D0) Y.env) gt T)
    (hv : ∀ i ∈ gt, i ∈ vs) (I : Inv Y.nox pins σ H s) (turn : Turn Y.prog Y.w Y.K tg J fp itr tn) (st : tn 0 s.heap) (ff : ∀ b ∈ fp, FpOk Y.nox pins H b) (h : tTurns g tt vs T σ J H Nx)
    (fin : ∀ σ' H' s', Inv Y.nox pins σ' H' s' → Knows vs σ σ' → Nx H' → R (.ok .next) s') : codeAny (model Y.prog Y.w) Y.A (.compLoop (.ListComp elt gens scope pos) dep (.ref itr) (.ref D0) Y.env) R s := by
  obtain ⟨W, ⟨m0, w0⟩, step⟩ := h
  refine loopForm hT (fun n s' => ∃ i H', Inv Y.nox pins (wipe σ vs) H' s' ∧ tn i s'.heap ∧ (∀ b ∈ fp, H' b = none) ∧ W i n H') ?_ m0 ⟨0, H, I.weak (wipe_length _ _) (fun j v e => (wipe_some e).1), st, fun b hb => (ff b hb).1, w0⟩
  have stat : ∀ {H' : Hp}, (∀ b ∈ fp, H' b = none) → ∀ b ∈ fp, FpOk Y.nox pins H' b := fun hn b hb => ⟨hn b hb, (ff b hb).2⟩
  rintro n s1 ⟨i, H1, I1, st1, n1, w1⟩
  rcases step i n H1 w1 with ⟨stop, nx⟩ | ⟨go, N1, hN1, step1⟩
  · refine thnF (turn.done Y.nox rfl rfl rfl hc i pins s1 (wipe σ vs) H1 (fun _ _ => False) I1 (stat n1) st1 stop) fun r s2 ⟨hr, I2⟩ => ?_
    subst hr
    exact fin (wipe σ vs) H1 s2 I2 ⟨(wipe_length _ _).symm, fun j v e => e⟩ nx
  · refine thnF (turn.item Y.nox rfl rfl rfl hc i pins s1 (wipe σ vs) H1 (fun _ _ => False) I1 (stat n1) st1 go) fun r s2 ⟨u, hr, h2⟩ => ?_
    subst hr
    refine thnF h2 fun _ s3 ⟨x, H3, I3, r3, y3, st3, n3⟩ => ?_
    have I3' := I3.pinned (stat n3) (turn.obj _ _ st3)
    refine thnF (pg.run _ s3 (wipe σ vs) H3 x u _ I3' r3 (step1 x H3 y3)) fun _ s4 ⟨σ4, H4, I4, hw4, q4⟩ => ?_
    refine thnF (pt.run _ s4 σ4 H4 _ I4 q4) fun b s5 ⟨H5, I5, q5⟩ => ?_
    have done_ : ∀ {σ6 : St} {s' : Shared} {H' : Hp}, Inv Y.nox (pins ++ pinsAt fp s3.heap) σ6 H' s' → Knows vs σ4 σ6 → N1 H' → ∃ m, m < n ∧ ∃ i H', Inv Y.nox pins (wipe σ vs) H' s' ∧ tn i s'.heap ∧ (∀ b ∈ fp, H' b = none) ∧ W i m H' := fun {σ6 s' H'} I' kn nx => by
      obtain ⟨m', hm, w'⟩ := hN1 H' nx
      have pin' : ∀ b ∈ fp, ∀ o, s3.heap.get? b = some o → s'.heap.get? b = some o ∧ H' b = none := fun b hb o e =>
        let z := I'.pin (b, o) (List.mem_append_right _ (List.mem_append_right _ (mem_pinsAt hb e)))
        ⟨z.1, z.2.1⟩
      refine ⟨m', hm, i + 1, H', I'.unpinned.weak (by rw [← kn.1, ← hw4, wipe_length]) (fun j v e => kn.2 j v (by rw [hw4]; exact e)), turn.keep _ _ _ st3 fun b hb o e => (pin' b hb o e).1, fun b hb => ?_, w'⟩
      obtain ⟨o, e, _⟩ := turn.obj _ _ st3 b hb
      exact (pin' b hb o e).2
    have kn0 : Knows vs σ4 σ4 := ⟨rfl, fun j v e => (wipe_some e).1⟩
    cases b with
    | false => rw [if_neg Bool.false_ne_true] at q5 ⊢; exact done_ I5 kn0 q5
    | true =>
      rw [if_pos rfl] at q5 ⊢
      refine thnF (hb _ s5 σ4 H5 N1 I5 q5) fun _ s6 ⟨σ6, H6, I6, kn, nx⟩ => ?_
      refine done_ I6 ⟨kn.1, fun j v e => kn.2 j v ?_⟩ nx
      obtain ⟨e1, e2⟩ := wipe_some e
      rw [wipe_out fun z => e2 (hv j z)]
      exact e1
/-- the next clause as the part behind the tests -/
def tNextC (wi : TI) (g : TG) (tt : TT) (vs : List Nat) (T : St → Hp → (Hp → Prop) → Prop) : St → Hp → (Hp → Prop) → Prop := fun σ H Nx => wi σ H fun J H1 => tTurns g tt vs T σ J H1 Nx
theorem nextOk {dep : Nat} {tg iter : Expr} {ifs : List Expr} {nxt : Option Expr} {wi : TI} {g : TG} {tt : TT} {vs gt : List Nat} {T : St → Hp → (Hp → Prop) → Prop} (hgen : gens[dep + 1]? = some ⟨tg, iter, ifs, 0⟩) (hT : TurnForm elt gens scope pos (dep + 1) tg iter ifs nxt)
    (hc : Y.calm = true) (pi : PI Y.nox tg iter wi) (pg : PG Y.nox tg g) (pt : PTs Y.nox ifs tt) (hb : BehindOk Y (behindTests (.ListComp elt gens scope pos) elt (dep + 1) nxt (.ref D0) Y.env) gt T) (hv : ∀ i ∈ gt, i ∈ vs) (hs : ∀ env x, foldedSetIterable iter env x = pure x) :
    BehindOk Y (behindTests (.ListComp elt gens scope pos) elt dep (some iter) (.ref D0) Y.env) vs (tNextC wi g tt vs T) := fun pins s σ H Nx I h => by
  unfold behindTests
  refine wpAny_bind (thnF (pi.run pins s σ H _ I h) fun xv s1 hx => ?_)
  refine wpAny_bind (wpAny_standAt (wpAny_bind (wpAny_of_eq (hs Y.env xv) (wpAny_bind (wpAny_holding (thnF hx fun itv s2 h2 => ?_))))))
  obtain ⟨itr, fp, tn, J, H2, rfl, I2, turn, st2, ff, q⟩ := h2
  refine wpAny_bind (wpAny_runOwn ?_)
  rw [Around.mark_none]
  have loop : codeAny (model Y.prog Y.w) Y.A (.compLoop (.ListComp elt gens scope pos) (dep + 1) (.ref itr) (.ref D0) Y.env) (fun r s' => match r with
      | .ok _ => ∃ σ' H', Inv Y.nox pins σ' H' s' ∧ Knows vs σ σ' ∧ Nx H'
      | .error _ => False) s2 := clauseLoop hT hc pg pt hb hv I2 turn st2 ff q fun σ' H' s' I' kn nx => ⟨σ', H', I', kn, nx⟩
  refine codeAny_mono (startForm hgen rfl loop (turn.self Y.A 0 _ _ _ st2 loop)) fun r s' hr => ?_
  cases r with
  | ok f =>
    first
      | exact wpAny_pure hr
      | exact wpAny_pure (wpAny_pure hr)
      | exact wpAny_bind (wpAny_pure hr)
  | error e => exact hr.elim
end
end HD
namespace HD
open PySem PySem.Spec L2
open PyProof.Rows hiding St

/-- a whole comprehension: the first clause, T what stands behind its tests -/
def tLcN (wi : TI) (g : TG) (tt : TT) (T : Addr → St → Hp → (Hp → Prop) → Prop) (vs : List Nat) : TE := fun σ H Q => wi σ H fun J H1 => ∀ D, H1 D = none → tTurns g tt vs (T D) (wipe σ vs) J (upd H1 D (.lst [])) fun H' => Q (.ref D) H'
section
variable {X : Cx}
theorem lcN_core {pins : List (Addr × Obj)} {s : Shared} {σ : St} {H : Hp} {Q : VK} {elt tg iter : Expr} {ifs : List Expr} {rest : List Comprehension} {nxt : Option Expr} {scope : Scope} {own : List (Str × Nat)} {gt : List Nat} {pos pos' : Pos} {wi : TI} {g : TG} {tt : TT} {T : Addr → St → Hp → (Hp → Prop) → Prop}
    {use : Option (Value → Sem Unit)} {Qf : Value → Shared → Prop} (hT : TurnForm elt (⟨tg, iter, ifs, 0⟩ :: rest) scope pos 0 tg iter ifs nxt) (hc : X.calm = true) (hN : X.N.Nodup) (I : Inv X pins σ H s) (hi : PI X tg iter wi) (ok : BlkOk X.N X.env.scope scope own) (hv : ∀ i ∈ gt, i ∈ own.map (·.2))
    (hg : ∀ (s : Shared) (H : Hp) (C : Addr) (cl : List (Str × Addr)) (fp : List Addr), PG (X.blk s H scope (compEnvC scope cl C X.env) fp) tg g)
    (ht : ∀ (s : Shared) (H : Hp) (C : Addr) (cl : List (Str × Addr)) (fp : List Addr), PTs (X.blk s H scope (compEnvC scope cl C X.env) fp) ifs tt)
    (hb : ∀ (s : Shared) (H : Hp) (C : Addr) (cl : List (Str × Addr)) (fp : List Addr) (D0 : Addr), BehindOk (X.blk s H scope (compEnvC scope cl C X.env) fp) (behindTests (.ListComp elt (⟨tg, iter, ifs, 0⟩ :: rest) scope pos) elt 0 nxt (.ref D0) (compEnvC scope cl C X.env)) gt (T D0))
    (hs : ∀ x, foldedSetIterable iter X.env x = pure x) (h : tLcN wi g tt T (own.map (·.2)) σ H Q)
    (hRR : ∀ D C s' m H', Inv X pins σ H' s' → Q (.ref D) H' → s'.heap.Ns C m → FpOk X pins H' C → compPost (model X.prog X.w) X.A X.xe use Qf (.ref D) C (.ok .next) s') :
    wpAny (model X.prog X.w) X.A (comprehension (.ListComp elt (⟨tg, iter, ifs, 0⟩ :: rest) scope pos) scope X.env pos' (newList []) false (eval iter X.env) use) Qf X.xe s := by
  have caught : ∀ y ∈ scope.names, y.2 = .free → ∃ c, X.env.cells.lookup y.1 = some c := fun y hy e => (ok.free y hy e).elim (fun k => I.ok.has _ (.inl k)) fun k => I.ok.has _ (.inr k)
  refine wpAny_comprehension_free (use := use) rfl hs (closure_ok caught) ok.kind (fun y hy e => by rw [ok.uniq y hy, e]) (thn (hi.run pins s σ H _ I h) fun xv s1 hx => thn hx fun itv sa ha => ?_)
  obtain ⟨itr, fp, tn, J, Ha, rfl, Ia, turn, sta, fa, q⟩ := ha
  refine wpAny_newObj_type (newEnv_comp ?_) (by show 0 ≤ sizeLine; decide)
  generalize eD : sa.heap.objs.size = D
  have freeD : Ha D = none := Ia.hok.fresh (Nat.le_of_eq eD)
  have turns := q D freeD
  generalize eb : ({ sa with heap := sa.heap.push { cls := .type "list", data := .seq ([] : List Value).toArray } } : Shared) = sb
  have hpb : sb.heap = sa.heap.push { cls := .type "list", data := .seq ([] : List Value).toArray } := by rw [← eb]
  have Ib : Inv X pins σ (upd Ha D (.lst [])) sb := by
    rw [← eb]
    refine Ia.laid (t' := sa.toks) (fun b o e => Heap.get?_push_of_some _ e) (Nat.le_of_eq eD) ⟨Nat.zero_le _, [], 0, .nil, ?_⟩
    rw [← eD]; exact Heap.get?_push_size _ rfl
  have below : ∀ b ∈ fp, b < sa.heap.objs.size := fun b hb => let ⟨o, e, _⟩ := turn.obj _ _ sta b hb; Heap.lt_size e
  have fb : ∀ b ∈ fp, FpOk X pins (upd Ha D (.lst [])) b ∧ b < sb.heap.objs.size := fun b hb => by
    refine ⟨⟨?_, (fa b hb).2⟩, by rw [hpb, Heap.size_push]; exact Nat.lt_succ_of_lt (below b hb)⟩
    rw [upd_ne (by rw [← eD]; exact Nat.ne_of_lt (below b hb))]; exact (fa b hb).1
  have stb : tn 0 sb.heap := turn.keep _ _ _ sta fun b _ o e => by rw [hpb]; exact Heap.get?_push_of_some _ e
  have Ic := block_start Ib ok hN fb
  generalize ecl : cellsFrom (sb.heap.objs.size + 1) scope.names (cloFrom X.env.cells scope.names []) = cl at Ic
  have pg := hg sb (upd Ha D (.lst [])) sb.heap.objs.size cl fp
  have pt := ht sb (upd Ha D (.lst [])) sb.heap.objs.size cl fp
  have pb := hb sb (upd Ha D (.lst [])) sb.heap.objs.size cl fp D
  have free3 : ∀ b ∈ fp, (upd Ha D (.lst [])) b = none := fun b hb => (fb b hb).1.1
  show codeAny _ _ (.compStart (.ListComp elt (⟨tg, iter, ifs, 0⟩ :: rest) scope pos) 0 (.ref itr) (.ref D) (compEnvC scope cl sb.heap.objs.size X.env)) (compPost (model X.prog X.w) X.A X.xe use Qf (.ref D) sb.heap.objs.size)
    { sb with heap := pushCells (sb.heap.push { cls := .type "dict", data := .dict #[] }) scope.names }
  generalize ed : ({ sb with heap := pushCells (sb.heap.push { cls := .type "dict", data := .dict #[] }) scope.names } : Shared) = sd at Ic ⊢
  have std : tn 0 sd.heap := turn.keep _ _ _ stb fun b _ o e => by rw [← ed]; exact pushCells_keeps _ _ _ _ (Heap.get?_push_of_some _ e)
  have ffd : ∀ b ∈ fp, FpOk (X.blk sb (upd Ha D (.lst [])) scope (compEnvC scope cl sb.heap.objs.size X.env) fp).nox [] (upd Ha D (.lst [])) b := fun b hb =>
    ⟨free3 b hb, (Ic.ok.exf b hb).1, Ic.ok.exfs b hb, .inl hb, fun x c e => (Ic.ok.exf b hb).2 x c e, fun p hp => absurd (show p ∈ ([] : List (Addr × Obj)) ++ [] from hp) (by simp)⟩
  have loop : codeAny (model X.prog X.w) X.A (.compLoop (.ListComp elt (⟨tg, iter, ifs, 0⟩ :: rest) scope pos) 0 (.ref itr) (.ref D) (compEnvC scope cl sb.heap.objs.size X.env)) (compPost (model X.prog X.w) X.A X.xe use Qf (.ref D) sb.heap.objs.size) sd :=
    clauseLoop (Y := X.blk sb (upd Ha D (.lst [])) scope (compEnvC scope cl sb.heap.objs.size X.env) fp) (σ := wipe σ (own.map (·.2))) hT hc pg pt pb hv Ic turn std ffd turns fun σ' H' s' I' kn nx => by
      have back : Inv X pins σ H' s' := Ib.call' (ch := fp) I'.os I'.base I'.hok I'.bare fun b hb => ⟨(fb b hb).1.2.2.2.1, (fb b hb).1.2.1, (fb b hb).1.2.2.2.2.1, (fb b hb).1.2.2.2.2.2⟩
      have nC : H' sb.heap.objs.size = none := I'.free
      obtain ⟨m, hn, _⟩ := I'.loc
      exact hRR D sb.heap.objs.size s' m H' back nx hn (Ib.fpOk (Nat.le_refl _) nC)
  exact codeAny_compStart_list loop (turn.self X.A 0 _ _ _ std loop)
theorem pe_lcN {elt tg iter : Expr} {ifs : List Expr} {rest : List Comprehension} {nxt : Option Expr} {scope : Scope} {own : List (Str × Nat)} {gt : List Nat} {pos : Pos} {wi : TI} {g : TG} {tt : TT} {T : Addr → St → Hp → (Hp → Prop) → Prop}
    (hT : TurnForm elt (⟨tg, iter, ifs, 0⟩ :: rest) scope pos 0 tg iter ifs nxt) (hc : X.calm = true) (hN : X.N.Nodup) (hi : PI X tg iter wi) (ok : BlkOk X.N X.env.scope scope own) (hv : ∀ i ∈ gt, i ∈ own.map (·.2))
    (hg : ∀ (s : Shared) (H : Hp) (C : Addr) (cl : List (Str × Addr)) (fp : List Addr), PG (X.blk s H scope (compEnvC scope cl C X.env) fp) tg g)
    (ht : ∀ (s : Shared) (H : Hp) (C : Addr) (cl : List (Str × Addr)) (fp : List Addr), PTs (X.blk s H scope (compEnvC scope cl C X.env) fp) ifs tt)
    (hb : ∀ (s : Shared) (H : Hp) (C : Addr) (cl : List (Str × Addr)) (fp : List Addr) (D0 : Addr), BehindOk (X.blk s H scope (compEnvC scope cl C X.env) fp) (behindTests (.ListComp elt (⟨tg, iter, ifs, 0⟩ :: rest) scope pos) elt 0 nxt (.ref D0) (compEnvC scope cl C X.env)) gt (T D0))
    (hs : ∀ x, foldedSetIterable iter X.env x = pure x) : PE X (.ListComp elt (⟨tg, iter, ifs, 0⟩ :: rest) scope pos) (tLcN wi g tt T (own.map (·.2))) := by
  refine ⟨fun pins s σ H Q I h => ?_⟩
  rw [eval_ListComp]
  refine lcN_core hT hc hN I hi ok hv hg ht hb hs h fun D C s' m H' I' q hn f => ⟨m, hn, fun h2 sb => ?_⟩
  obtain ⟨f0, f1, f2, f3, f4, f5⟩ := f
  exact ⟨.ref D, H', I'.turned (t' := s'.toks) (fun b o hb e => (sb.2 b hb).trans e) f0 f1 f3 f4 f5, rfl, q⟩
theorem ps_setLcN {i : Nat} {y : Str} {py spos : Pos} {elt tg iter : Expr} {ifs : List Expr} {rest : List Comprehension} {nxt : Option Expr} {scope : Scope} {own : List (Str × Nat)} {gt : List Nat} {pos : Pos} {wi : TI} {g : TG} {tt : TT} {T : Addr → St → Hp → (Hp → Prop) → Prop}
    (hy : X.N[i]? = some y) (hyl : X.env.scope.names.lookup y = some .local) (hsw : swapsWith (.ListComp elt (⟨tg, iter, ifs, 0⟩ :: rest) scope pos) (some (.Name y py)) spos.line X.env = pure true)
    (hT : TurnForm elt (⟨tg, iter, ifs, 0⟩ :: rest) scope pos 0 tg iter ifs nxt) (hc : X.calm = true) (hN : X.N.Nodup) (hi : PI X tg iter wi) (ok : BlkOk X.N X.env.scope scope own) (hv : ∀ i ∈ gt, i ∈ own.map (·.2))
    (hg : ∀ (s : Shared) (H : Hp) (C : Addr) (cl : List (Str × Addr)) (fp : List Addr), PG (X.blk s H scope (compEnvC scope cl C X.env) fp) tg g)
    (ht : ∀ (s : Shared) (H : Hp) (C : Addr) (cl : List (Str × Addr)) (fp : List Addr), PTs (X.blk s H scope (compEnvC scope cl C X.env) fp) ifs tt)
    (hb : ∀ (s : Shared) (H : Hp) (C : Addr) (cl : List (Str × Addr)) (fp : List Addr) (D0 : Addr), BehindOk (X.blk s H scope (compEnvC scope cl C X.env) fp) (behindTests (.ListComp elt (⟨tg, iter, ifs, 0⟩ :: rest) scope pos) elt 0 nxt (.ref D0) (compEnvC scope cl C X.env)) gt (T D0))
    (hs : ∀ x, foldedSetIterable iter X.env x = pure x) : PS X (.Assign [.Name y py] (.ListComp elt (⟨tg, iter, ifs, 0⟩ :: rest) scope pos) spos) (tAsg (tLcN wi g tt T (own.map (·.2))) (gName i)) := by
  refine ⟨fun pins s σ H D I h => ?_⟩
  rw [exec_Assign_Name_used _ _ _ _ hsw]
  refine wpAny_bind (wpAny_standAt (wpAny_bind ?_))
  show wpAny _ X.A (do let _ ← comprehension (.ListComp elt (⟨tg, iter, ifs, 0⟩ :: rest) scope pos) scope X.env (firstIterPos (⟨tg, iter, ifs, 0⟩ :: rest) pos) (newList []) false (eval iter X.env) (some (assign (.Name y py) X.env))) _ _ s
  have h : tLcN wi g tt T (own.map (·.2)) σ H (fun x H1 => gName i x σ H1 D.nx) := h
  refine wpAny_bind (thn (lcN_core (Qf := fun _ s' => SP X pins D .next s') hT hc hN I hi ok hv hg ht hb hs h fun L C s' m H' I' q hn f => ?_) fun _ s' hq => wpAny_pure (wpAny_pure hq))
  show wpAny _ _ (assign (.Name y py) X.env (.ref L)) _ _ _
  refine wpAny_assign_Name (store_ok2 (v := V.ref L) I' hN hy (.inl hyl) rfl (fun s2 I2 ⟨a, sb, ha⟩ => ?_) (.inr hyl))
  obtain ⟨f0, f1, f2, f3, f4, f5⟩ := f
  have haC : C ≠ a := ha.elim (fun z => by rw [z]; exact f1) fun z e => f4 y a z e.symm
  refine ⟨m, hn.sameBut sb haC, fun h3 sb3 => ?_⟩
  exact ⟨_, H', I2.turned (t' := s2.toks) (fun b o hb e => (sb3.2 b hb).trans e) f0 f1 f3 f4 f5, q⟩
end
end HD
namespace HD
open PySem L2
variable {G : Gx} {F F' H H' Φ : Hp} {σ : St} {env : En} {M M' : MS} {k : Nat} {N : List Str} {sc : ScX} {e a b c : Expr} {pos p : Pos} {te ta tb tc : DE} {es : List Expr} {tr : DA}

/-! ## comprehensions of several clauses, over data -/
abbrev KD := List D → MS → Prop
abbrev BD := En → List D → MS → KD → Prop
def emitD (te : DE) : BD := fun env acc M K => acc.length < 100000 ∧ te env M (fun y M' => K (acc ++ [y]) M') E00
def turnsD (g : Tg) (tt : DT) (body : BD) (keep : MS → Prop) (env : En) : List D → List D → MS → KD → Prop
  | [], acc, M, K => keep M ∧ K acc M
  | d :: ds, acc, M, K => keep M ∧ dTg g d env M fun env' M1 => tt env' M1 (fun b M2 => if b = true then body env' acc M2 (fun acc' M3 => turnsD g tt body keep env ds acc' M3 K) else turnsD g tt body keep env ds acc M2 K) E00
def nextD (i : DI) (g : Tg) (tt : DT) (vs : List Nat) (body : BD) : BD := fun env acc M K => i env M (fun ds keep M1 => turnsD g tt body keep (wipeD env vs) ds acc M1 K) E00
def dLcN (i : DI) (g : Tg) (tt : DT) (vs : List Nat) (body : BD) : DE := fun env M Q E => i env M (fun ds keep M1 => turnsD g tt body keep (wipeD env vs) ds [] M1 fun acc M2 => Q (.lst acc) M2) E
theorem wipeD_set {i : Nat} {v : Option D} : ∀ {vs : List Nat} {env : En}, i ∈ vs → wipeD (env.set i v) vs = wipeD env vs
  | [], _, h => by cases h
  | j :: vs, env, h => by
    show (wipeD (env.set i v) vs).set j none = (wipeD env vs).set j none
    by_cases hj : i ∈ vs
    · rw [wipeD_set hj]
    · have e : i = j := by rcases List.mem_cons.mp h with h | h; exact h; exact absurd h hj
      subst e
      have q : ∀ {ws : List Nat} {env : En}, i ∉ ws → wipeD (env.set i v) ws = (wipeD env ws).set i v := fun {ws} => by
        induction ws with
        | nil => intro _ _; rfl
        | cons k ws ih =>
          intro env hn
          show (wipeD (env.set i v) ws).set k none = ((wipeD env ws).set k none).set i v
          rw [ih (fun z => hn (List.mem_cons_of_mem _ z)), List.set_comm]
          exact fun z => hn (by rw [z]; exact List.mem_cons_self ..)
      rw [q hj, List.set_set]
theorem wipeD_wipeD : ∀ {vs : List Nat} {env : En}, wipeD (wipeD env vs) vs = wipeD env vs := fun {vs} => by
  have q : ∀ (ws : List Nat) {env : En}, (∀ i ∈ ws, i ∈ vs) → wipeD (wipeD env ws) vs = wipeD env vs := fun ws => by
    induction ws with
    | nil => intro _ _; rfl
    | cons k ws ih =>
      intro env h
      show wipeD ((wipeD env ws).set k none) vs = _
      rw [wipeD_set (h k (List.mem_cons_self ..)), ih fun i hi => h i (List.mem_cons_of_mem _ hi)]
  intro env
  exact q vs fun _ h => h
abbrev W0 : WX := fun _ _ _ _ => False
/-- the body over data is the layer's -/
def BodyOk (G : Gx) (body : BD) (T : Addr → St → Hp → (Hp → Prop) → Prop) : Prop := ∀ (D0 : Addr) σ env F M Φ H acc vacc (K : KD) (Nx : Hp → Prop), EnR G F σ env → Reps G F acc vacc → Wd G F M (upd Φ D0 (.lst vacc)) H → body env acc M K →
  (∀ F' M' H' acc' vacc', Ex F F' → Reps G F' acc' vacc' → Wd G F' M' (upd Φ D0 (.lst vacc')) H' → K acc' M' → Nx H') → T D0 σ H Nx
theorem emit_body : BodyOk G (emitD te) (fun D0 => tEmit D0 (tD G W0 te)) := fun D0 σ env F M Φ H acc vacc K Nx hE ra w h nx =>
  ⟨env, F, M, _, _, E00, hE, w, h.2, fun y v F1 M1 H1 e1 w1 r1 q1 => ⟨vacc, (w1.φ D0 _ upd_same).1, by rw [← ra.len]; exact sz_lt h.1, nx F1 M1 _ _ _ e1 ((ra.mono e1).snoc r1) w1.hset q1⟩, EPo.none⟩
theorem turns_body {g : Tg} {tt : DT} {body : BD} {T : Addr → St → Hp → (Hp → Prop) → Prop} {vs : List Nat} {K0 : PySem.W.Frag} (hK : K0 = G.K) (hg : tgIn vs g = true) (hb : BodyOk G body T) {J : It} {keep : MS → Prop} {ds acc : List D} {vacc : List V} {D0 : Addr} {K : KD} {Nx : Hp → Prop}
    (hE : EnR G F σ env) (ra : Reps G F acc vacc) (w : Wd G F M (upd Φ D0 (.lst vacc)) H) (en : Enum G J F keep ds) (h : turnsD g tt body keep (wipeD env vs) ds acc M K)
    (nx : ∀ F' M' H' acc' vacc', Ex F F' → Reps G F' acc' vacc' → Wd G F' M' (upd Φ D0 (.lst vacc')) H' → K acc' M' → Nx H') : tTurns (gTg K0 g) (tDT G W0 tt) vs (T D0) σ J H Nx := by
  refine ⟨fun i m H1 => m = ds.length - i ∧ i ≤ ds.length ∧ ∃ F1 M1 acc vacc, Ex F F1 ∧ Reps G F1 acc vacc ∧ Wd G F1 M1 (upd Φ D0 (.lst vacc)) H1 ∧ turnsD g tt body keep (wipeD env vs) (ds.drop i) acc M1 K,
    ⟨ds.length, by simp, Nat.zero_le _, F, M, acc, vacc, Ex.refl F, ra, w, by simpa using h⟩, ?_⟩
  rintro i m H1 ⟨rfl, hi, F1, M1, acc, vacc, e1, ra, w1, h1⟩
  by_cases hlt : i < ds.length
  · have hdrop : ds.drop i = ds[i] :: ds.drop (i + 1) := List.drop_eq_getElem_cons hlt
    rw [hdrop] at h1
    obtain ⟨kp, h1⟩ := h1
    obtain ⟨go, yl⟩ := (en i F1 M1 _ H1 e1 w1 kp).1 hlt
    obtain ⟨N1, hN1⟩ : ∃ N1 : Hp → Prop, N1 = fun H2 => i + 1 ≤ ds.length ∧ ∃ F1 M1 acc vacc, Ex F F1 ∧ Reps G F1 acc vacc ∧ Wd G F1 M1 (upd Φ D0 (.lst vacc)) H2 ∧ turnsD g tt body keep (wipeD env vs) (ds.drop (i + 1)) acc M1 K := ⟨_, rfl⟩
    refine .inr ⟨go, N1, fun H2 h2 => ⟨ds.length - (i + 1), by omega, rfl, by rw [hN1] at h2; exact h2⟩, fun x H2 y => ?_⟩
    obtain ⟨F2, d, e2, w2, hd, r2⟩ := yl x H2 y
    rw [List.getElem?_eq_getElem hlt] at hd
    cases hd
    have hw : wipe (wipe σ vs) vs = wipe σ vs := wipe_wipe
    have key : gTg K0 g x (wipe σ vs) H2 (fun σ2 H2 => tDT G W0 tt σ2 H2 fun b H3 => if b = true then T D0 σ2 H3 N1 else N1 H3) := by
      refine gTg_run (σ := wipe σ vs) hK w2 r2 ((hE.mono (e1.trans e2)).wipe vs) h1 fun env' σ' hE' q => ?_
      refine ⟨env', F2, M1, _, _, E00, hE', w2, q, fun b F3 M3 H3 e3 w3 q3 => ?_, EPo.none⟩
      cases b with
      | true =>
        rw [if_pos rfl] at q3 ⊢
        refine hb D0 σ' env' F3 M3 Φ H3 acc vacc _ N1 (hE'.mono e3) (ra.mono (e2.trans e3)) w3 q3 fun F4 M4 H4 acc4 vacc4 e4 ra4 w4 q4 => ?_
        rw [hN1]
        exact ⟨by omega, F4, M4, acc4, vacc4, ((e1.trans e2).trans e3).trans e4, ra4, w4, q4⟩
      | false =>
        rw [if_neg Bool.false_ne_true] at q3 ⊢
        rw [hN1]
        exact ⟨by omega, F3, M3, acc, vacc, (e1.trans e2).trans e3, ra.mono (e2.trans e3), w3, q3⟩
    have k2 := gTg_in (vs := vs) hg key
    rw [hw] at k2
    exact k2
  · have hn : ds.drop i = [] := List.drop_eq_nil_of_le (by omega)
    rw [hn] at h1
    obtain ⟨kp, h1⟩ := h1
    exact .inl ⟨(en i F1 M1 _ H1 e1 w1 kp).2 (by omega), nx F1 M1 H1 acc vacc e1 ra w1 h1⟩
theorem next_body {i : DI} {g : Tg} {tt : DT} {vs : List Nat} {body : BD} {T : Addr → St → Hp → (Hp → Prop) → Prop} (hg : tgIn vs g = true) (hb : BodyOk G body T) : BodyOk G (nextD i g tt vs body) (fun D0 => tNextC (tDI G W0 i) (gTg G.K g) (tDT G W0 tt) vs (T D0)) :=
  fun D0 σ env F M Φ H acc vacc K Nx hE ra w h nx => ⟨env, F, M, _, _, E00, hE, w, h, fun ds keep J F1 M1 H1 e1 w1 en q =>
    turns_body rfl hg hb (hE.mono e1) (ra.mono e1) w1 en q fun F2 M2 H2 acc2 vacc2 e2 => nx F2 M2 H2 acc2 vacc2 (e1.trans e2), EPo.none⟩

/-- the part of a comprehension behind the tests of its clause dep -/
def PDB (G : Gx) (k : Nat) (N : List Str) (sc : ScX) (elt : Expr) (gens : List Comprehension) (scope : Scope) (pos : Pos) (dep : Nat) (nxt : Option Expr) (gt : List Nat) (body : BD) : Prop :=
  ∃ T, (∀ Y, XOk G k N sc Y → ∀ D0, BehindOk Y (behindTests (.ListComp elt gens scope pos) elt dep nxt (.ref D0) Y.env) gt (T D0)) ∧ BodyOk G body T
theorem XOk.nox {X : Cx} (ok : XOk G k N sc X) : XOk G k N sc X.nox := ⟨ok.g, ok.N, ok.scp, ok.fn, ok.calm, ok.room, PassesOwn.never, ok.nd⟩
variable {elt : Expr} {gens : List Comprehension} {scope : Scope} {dep : Nat}
theorem pdb_emit (he : PD G k N sc elt te) : PDB G k N sc elt gens scope pos dep none [] (emitD te) :=
  ⟨_, fun Y ok D0 => emitOk (he W0 Y.nox ok.nox takes0), emit_body⟩
theorem pdb_next {tg iter : Expr} {ifs : List Expr} {nxt : Option Expr} {i : DI} {g : Tg} {tt : DT} {gt : List Nat} {body : BD} (vs : List Nat) (hgen : gens[dep + 1]? = some ⟨tg, iter, ifs, 0⟩) (hT : TurnForm elt gens scope pos (dep + 1) tg iter ifs nxt)
    (hv : (gt.all fun i => vs.contains i) = true) (hin : tgIn vs g = true) (hi : PDI G k N sc tg iter i) (hg : PGD G k N sc tg g) (ht : PDTs G k N sc ifs tt) (hb : PDB G k N sc elt gens scope pos (dep + 1) nxt gt body) (hs : ∀ env x, foldedSetIterable iter env x = pure x := by intro _ _; rfl) :
    PDB G k N sc elt gens scope pos dep (some iter) vs (nextD i g tt vs body) := by
  obtain ⟨T, h1, h2⟩ := hb
  refine ⟨_, fun Y ok D0 => ?_, next_body hin h2⟩
  have hK : Y.nox.K = G.K := by rw [ok.g]
  have pg := hg Y.nox ok.nox
  rw [hK] at pg
  exact nextOk hgen hT ok.calm (hi W0 Y.nox ok.nox takes0) pg (ht W0 Y.nox ok.nox takes0) (h1 Y ok D0) (fun i hi => by simpa using List.all_eq_true.mp hv i hi) hs
theorem pd_lcN {tg iter : Expr} {ifs : List Expr} {rest : List Comprehension} {nxt : Option Expr} {i : DI} {g : Tg} {tt : DT} {gt : List Nat} {body : BD} (own : List (Str × Nat)) (hT : TurnForm elt (⟨tg, iter, ifs, 0⟩ :: rest) scope pos 0 tg iter ifs nxt) (hbl : blkC N sc.s scope own = true)
    (hv : (gt.all fun i => (own.map (·.2)).contains i) = true) (hin : tgIn (own.map (·.2)) g = true) (hi : PDI G k N sc tg iter i) (hg : PGD G k N (blkS sc scope) tg g) (ht : PDTs G k N (blkS sc scope) ifs tt) (hb : PDB G k N (blkS sc scope) elt (⟨tg, iter, ifs, 0⟩ :: rest) scope pos 0 nxt gt body)
    (hs : ∀ env x, foldedSetIterable iter env x = pure x := by intro _ _; rfl) : PD G k N sc (.ListComp elt (⟨tg, iter, ifs, 0⟩ :: rest) scope pos) (dLcN i g tt (own.map (·.2)) body) := fun W X ok tk => by
  obtain ⟨T, h1, h2⟩ := hb
  have hK : X.K = G.K := by rw [ok.g]
  have bo : BlkOk X.N X.env.scope scope own := by rw [ok.N, ok.scp]; exact blkOk_by hbl
  refine PE.imp (pe_lcN (g := gTg X.K g) hT ok.calm ok.nd (hi W X ok tk) bo (fun i hi => by simpa using List.all_eq_true.mp hv i hi) (fun s H C cl fp => hg _ (ok.blk s H C cl fp)) (fun s H C cl fp => ht W0 _ (ok.blk s H C cl fp) takes0) (fun s H C cl fp D0 => h1 _ (ok.blk s H C cl fp) D0) (hs X.env)) fun σ H Qh ⟨env, F, M, Φ, Q, E, hE, w, h, np, ep⟩ => ?_
  refine ⟨env, F, M, Φ, _, E, hE, w, h, fun ds keep J F1 M1 H1 e1 w1 en q D0 hD => ?_, ep⟩
  have w2 : Wd G F1 M1 (upd Φ D0 (.lst [])) (upd H1 D0 (.lst [])) := w1.hide hD
  have hww : wipeD (wipeD env (own.map (·.2))) (own.map (·.2)) = wipeD env (own.map (·.2)) := wipeD_wipeD
  refine turns_body hK hin h2 ((hE.mono e1).wipe _) .nil w2 en (by rw [hww]; exact q) fun F2 M2 H2 acc vacc e2 ra w3 q3 => ?_
  have z := (w3.φ D0 _ upd_same).2.1
  exact np _ _ _ _ _ (e1.trans (e2.trans (Ex.new z))) (w3.show_ (w1.freeΦ hD)) (by rw [Rep]; exact ⟨D0, vacc, rfl, upd_same, ra.mono (Ex.new z)⟩) q3
theorem psd_setLcN {tg iter : Expr} {ifs : List Expr} {rest : List Comprehension} {nxt : Option Expr} {it : DI} {g : Tg} {tt : DT} {gt : List Nat} {body : BD} {py spos : Pos} (i : Nat) {y : Str} (own : List (Str × Nat)) (hy : N[i]? = some y) (hyl : sc.s.names.lookup y = some .local) (hfu : sc.s.kind = .function)
    (hln : (py.line == pos.line) = true) (hno : (scope.names.any fun (n, k) => n == y && (k == .local || k == .cell)) = false) (hT : TurnForm elt (⟨tg, iter, ifs, 0⟩ :: rest) scope pos 0 tg iter ifs nxt) (hbl : blkC N sc.s scope own = true)
    (hv : (gt.all fun i => (own.map (·.2)).contains i) = true) (hin : tgIn (own.map (·.2)) g = true) (hi : PDI G k N sc tg iter it) (hg : PGD G k N (blkS sc scope) tg g) (ht : PDTs G k N (blkS sc scope) ifs tt) (hb : PDB G k N (blkS sc scope) elt (⟨tg, iter, ifs, 0⟩ :: rest) scope pos 0 nxt gt body)
    (hs : ∀ env x, foldedSetIterable iter env x = pure x := by intro _ _; rfl) : PDS G k N sc (.Assign [.Name y py] (.ListComp elt (⟨tg, iter, ifs, 0⟩ :: rest) scope pos) spos) (fun D env M => dLcN it g tt (own.map (·.2)) body env M (fun d M1 => D.nx (env.set i (some d)) M1) (D.ex env)) := fun W X ok tk => by
  obtain ⟨T, h1, h2⟩ := hb
  have hK : X.K = G.K := by rw [ok.g]
  have bo : BlkOk X.N X.env.scope scope own := by rw [ok.N, ok.scp]; exact blkOk_by hbl
  refine PS.imp (ps_setLcN (i := i) (g := gTg X.K g) (by rw [ok.N]; exact hy) (by rw [ok.scp]; exact hyl) (sw_true (by rw [ok.scp]; exact hfu) (by rw [ok.scp]; exact hyl) hln hno) hT ok.calm ok.nd (hi W X ok tk) bo (fun i hi => by simpa using List.all_eq_true.mp hv i hi) (fun s H C cl fp => hg _ (ok.blk s H C cl fp)) (fun s H C cl fp => ht W0 _ (ok.blk s H C cl fp) takes0) (fun s H C cl fp D0 => h1 _ (ok.blk s H C cl fp) D0) (hs X.env)) fun Dh σ H ⟨env, F, M, Φ, D', hE, w, h, eo⟩ => ?_
  refine ⟨env, F, M, Φ, _, _, hE, w, h, fun ds keep J F1 M1 H1 e1 w1 en q D0 hD => ?_, eo.ex env σ F (Ex.refl F) hE⟩
  have w2 : Wd G F1 M1 (upd Φ D0 (.lst [])) (upd H1 D0 (.lst [])) := w1.hide hD
  have hww : wipeD (wipeD env (own.map (·.2))) (own.map (·.2)) = wipeD env (own.map (·.2)) := wipeD_wipeD
  refine turns_body hK hin h2 ((hE.mono e1).wipe _) .nil w2 en (by rw [hww]; exact q) fun F2 M2 H2 acc vacc e2 ra w3 q3 => ?_
  have z := (w3.φ D0 _ upd_same).2.1
  have ez := e1.trans (e2.trans (Ex.new (o := HO.lst vacc) z))
  exact eo.nx _ _ _ M2 H2 ez ((hE.mono ez).set (v := .ref D0) (by rw [Rep]; exact ⟨D0, vacc, rfl, upd_same, ra.mono (Ex.new z)⟩)) (w3.show_ (w1.freeΦ hD)) q3
end HD
namespace HD
open PySem L2
variable {G : Gx} {F F' H H' Φ : Hp} {σ : St} {env : En} {M M' : MS} {k : Nat} {N : List Str} {sc : ScX} {e a b c : Expr} {pos p : Pos} {te ta tb tc : DE} {es : List Expr} {tr : DA}

/-! ## statements -/
def sNext : DS := fun D env M => D.nx env M
def sSeq (t u : DS) : DS := fun D env M => t { D with nx := u D } env M
variable {st : Stmt} {rest : List Stmt} {t u : DS}
theorem pdss_nil : PDs G k N sc [] sNext := fun W X ok tk => PSs.imp pss_nil fun Dh σ H ⟨env, F, M, Φ, D', hE, w, h, eo⟩ => eo.nx env σ F M H (Ex.refl F) hE w h
theorem pdss_cons (h1 : PDS G k N sc st t) (h2 : PDs G k N sc rest u) : PDs G k N sc (st :: rest) (sSeq t u) := fun W X ok tk => PSs.imp (pss_cons (h1 W X ok tk) (h2 W X ok tk)) fun Dh σ H ⟨env, F, M, Φ, D', hE, w, h, eo⟩ =>
  ⟨env, F, M, Φ, { D' with nx := u D' }, hE, w, h, ⟨fun env2 σ2 F2 M2 H2 e2 hE2 w2 q2 => ⟨env2, F2, M2, Φ, D', hE2, w2, q2, eo.mono e2⟩, eo.rt, eo.bk, eo.ct, eo.ex⟩⟩
theorem pdss_one (h1 : PDS G k N sc st t) : PDs G k N sc [st] t := fun W X ok tk => pss_one (h1 W X ok tk)
theorem psd_pass : PDS G k N sc (.Pass pos) sNext := fun W X ok tk => PS.imp ps_pass fun Dh σ H ⟨env, F, M, Φ, D', hE, w, h, eo⟩ => eo.nx env σ F M H (Ex.refl F) hE w h
theorem psd_break : PDS G k N sc (.Break pos) (fun D env M => D.bk env M) := fun W X ok tk => PS.imp ps_break fun Dh σ H ⟨env, F, M, Φ, D', hE, w, h, eo⟩ => eo.bk env σ F M H (Ex.refl F) hE w h
theorem psd_continue : PDS G k N sc (.Continue pos) (fun D env M => D.ct env M) := fun W X ok tk => PS.imp ps_continue fun Dh σ H ⟨env, F, M, Φ, D', hE, w, h, eo⟩ => eo.ct env σ F M H (Ex.refl F) hE w h
def sDrop (te : DE) : DS := fun D env M => te env M (fun _ M1 => D.nx env M1) (D.ex env)
theorem psd_expr (he : PD G k N sc e te) (hs : ∀ env, swapsWith e none pos.line env = pure false := by intro _; rfl) : PDS G k N sc (.Expr e pos) (sDrop te) := fun W X ok tk => PS.imp (ps_expr (he W X ok tk) (hs X.env)) fun Dh σ H ⟨env, F, M, Φ, D', hE, w, h, eo⟩ =>
  tD.seq hE w h (eo.ex env σ F (Ex.refl F) hE) fun d v F1 M1 H1 e1 w1 hE1 r1 q1 ep1 => eo.nx env σ F1 M1 H1 e1 hE1 w1 q1
def sRet (te : DE) : DS := fun D env M => te env M D.rt (D.ex env)
theorem psd_ret (he : PD G k N sc e te) : PDS G k N sc (.Return (some e) pos) (sRet te) := fun W X ok tk => PS.imp (ps_ret (he W X ok tk)) fun Dh σ H ⟨env, F, M, Φ, D', hE, w, h, eo⟩ =>
  ⟨env, F, M, Φ, _, _, hE, w, h, eo.rt, eo.ex env σ F (Ex.refl F) hE⟩
theorem psd_retN : PDS G k N sc (.Return none pos) (fun D _ M => D.rt .non M) := fun W X ok tk => PS.imp ps_retN fun Dh σ H ⟨env, F, M, Φ, D', hE, w, h, eo⟩ => eo.rt.ret w (by rw [Rep]) h
def sIf (c : DT) (t u : DS) : DS := fun D env M => c env M (fun b M1 => if b = true then t D env M1 else u D env M1) (D.ex env)
theorem psd_if {c : Expr} {x y : List Stmt} {tc : DT} (hc : PDT G k N sc c tc) (ha : PDs G k N sc x t) (hb : PDs G k N sc y u) : PDS G k N sc (.If c x y pos) (sIf tc t u) := fun W X ok tk => PS.imp (ps_if (hc W X ok tk) (ha W X ok tk) (hb W X ok tk)) fun Dh σ H ⟨env, F, M, Φ, D', hE, w, h, eo⟩ =>
  ⟨env, F, M, Φ, _, _, hE, w, h, fun b F1 M1 H1 e1 w1 q1 => by
    cases b with
    | true => rw [if_pos rfl] at q1 ⊢; exact ⟨env, F1, M1, Φ, D', hE.mono e1, w1, q1, eo.mono e1⟩
    | false => rw [if_neg Bool.false_ne_true] at q1 ⊢; exact ⟨env, F1, M1, Φ, D', hE.mono e1, w1, q1, eo.mono e1⟩, eo.ex env σ F (Ex.refl F) hE⟩
def sNever : DS := fun _ _ _ => False
theorem psd_never : PDS G k N sc st sNever := fun W X ok tk => PS.imp ps_never fun Dh σ H ⟨env, F, M, Φ, D', hE, w, h, eo⟩ => h
/-- target = e -/
def sAsg (te : DE) (g : Tg) : DS := fun D env M => te env M (fun d M1 => dTg g d env M1 D.nx) (D.ex env)
theorem psd_asg {tg : Expr} {g : Tg} (he : PD G k N sc e te) (hg : PGD G k N sc tg g) (hs : ∀ env : Env, env.scope = sc.s → swapsWithSole [tg] e pos.line env = pure false := by intro env h; cases env; cases h; rfl)
    (hw : ∀ env : Env, env.scope = sc.s → swappedStores [tg] e env = pure none := by intro env h; cases env; cases h; rfl) (h1 : ∀ env, (assignEach [tg] env).map (·.2) = [assign tg env] := by intro _; rfl) : PDS G k N sc (.Assign [tg] e pos) (sAsg te g) := fun W X ok tk => by
  have hK : X.K = G.K := by rw [ok.g]
  refine PS.imp (ps_asg (he W X ok tk) (hg X ok) (hs X.env ok.scp) (hw X.env ok.scp) (h1 X.env)) fun Dh σ H ⟨env, F, M, Φ, D', hE, w, h, eo⟩ => ?_
  exact tD.seq hE w h (eo.ex env σ F (Ex.refl F) hE) fun d v F1 M1 H1 e1 w1 hE1 r1 q1 ep1 => gTg_run hK w1 r1 hE1 q1 fun env' σ' hE' q => eo.nx env' σ' F1 M1 H1 e1 hE' w1 q
/-- a, b = x, y -/
def sPar (is : List Nat) (t : DA) : DS := fun D env M => t env M (fun ds M1 => ds.length = is.length ∧ D.nx (setMany env is ds) M1) (D.ex env)
theorem psd_par {i j : Nat} {x y : Str} {e1 e2 : Expr} {px py pt : Pos} {kt k2 pt2} (hi : N[i]? = some x) (hj : N[j]? = some y) (hij : i ≠ j) (hx : sc.s.names.lookup x = some .local) (hy : sc.s.names.lookup y = some .local) (ha : PDA G k N sc [e1, e2] tr)
    (hw : ∀ env : Env, env.scope = sc.s → swappedStores [.Tuple [.Name x px, .Name y py] kt pt] (.Tuple [e1, e2] k2 pt2) env = pure (some [x, y]) := by intro env h; cases env; cases h; rfl)
    (hs : ∀ env : Env, swapsWithSole [.Tuple [.Name x px, .Name y py] kt pt] (.Tuple [e1, e2] k2 pt2) pos.line env = pure false := by intro _; rfl) : PDS G k N sc (.Assign [.Tuple [.Name x px, .Name y py] kt pt] (.Tuple [e1, e2] k2 pt2) pos) (sPar [i, j] tr) := fun W X ok tk => by
  refine PS.imp (ps_par ok.calm ok.nd (by rw [ok.N]; exact hi) (by rw [ok.N]; exact hj) hij (by rw [ok.scp]; exact hx) (by rw [ok.scp]; exact hy) (ha W X ok tk) (hw X.env ok.scp) (hs X.env)) fun Dh σ H ⟨env, F, M, Φ, D', hE, w, h, eo⟩ => ?_
  refine ⟨env, F, M, Φ, _, _, hE, w, h, fun ds vs F1 M1 H1 e1 w1 rs q1 => ?_, eo.ex env σ F (Ex.refl F) hE⟩
  obtain ⟨hl, q⟩ := q1
  match ds, hl, rs, q with
  | [d1, d2], _, rs, q =>
    obtain ⟨v1, v2, rfl, r1, r2⟩ := reps2 rs
    exact ⟨v1, v2, rfl, eo.nx _ _ F1 M1 H1 e1 (((hE.mono e1).set r1).set r2) w1 q⟩
theorem reps3 {d e f : D} {vs : List V} (h : Reps G F [d, e, f] vs) : ∃ v u z, vs = [v, u, z] ∧ Rep G F d v ∧ Rep G F e u ∧ Rep G F f z := by
  rw [Reps] at h; obtain ⟨v, us, rfl, h1, h2⟩ := h
  obtain ⟨u, z, rfl, h3, h4⟩ := reps2 h2; exact ⟨v, u, z, rfl, h1, h3, h4⟩
theorem psd_par3 {i j l : Nat} {x y z : Str} {e1 e2 e3 : Expr} {px py pz pt : Pos} {kt k2 pt2} (hi : N[i]? = some x) (hj : N[j]? = some y) (hl : N[l]? = some z) (hij : i ≠ j) (hil : i ≠ l) (hjl : j ≠ l) (hx : sc.s.names.lookup x = some .local) (hy : sc.s.names.lookup y = some .local) (hz : sc.s.names.lookup z = some .local) (ha : PDA G k N sc [e1, e2, e3] tr)
    (hw : ∀ env : Env, env.scope = sc.s → swappedStores [.Tuple [.Name x px, .Name y py, .Name z pz] kt pt] (.Tuple [e1, e2, e3] k2 pt2) env = pure (some [x, y, z]) := by intro env h; cases env; cases h; rfl)
    (hs : ∀ env : Env, swapsWithSole [.Tuple [.Name x px, .Name y py, .Name z pz] kt pt] (.Tuple [e1, e2, e3] k2 pt2) pos.line env = pure false := by intro _; rfl) : PDS G k N sc (.Assign [.Tuple [.Name x px, .Name y py, .Name z pz] kt pt] (.Tuple [e1, e2, e3] k2 pt2) pos) (sPar [i, j, l] tr) := fun W X ok tk => by
  refine PS.imp (ps_par3 ok.calm ok.nd (by rw [ok.N]; exact hi) (by rw [ok.N]; exact hj) (by rw [ok.N]; exact hl) hij hil hjl (by rw [ok.scp]; exact hx) (by rw [ok.scp]; exact hy) (by rw [ok.scp]; exact hz) (ha W X ok tk) (hw X.env ok.scp) (hs X.env)) fun Dh σ H ⟨env, F, M, Φ, D', hE, w, h, eo⟩ => ?_
  refine ⟨env, F, M, Φ, _, _, hE, w, h, fun ds vs F1 M1 H1 e1 w1 rs q1 => ?_, eo.ex env σ F (Ex.refl F) hE⟩
  obtain ⟨hl, q⟩ := q1
  match ds, hl, rs, q with
  | [d1, d2, d3], _, rs, q =>
    obtain ⟨v1, v2, v3, rfl, r1, r2, r3⟩ := reps3 rs
    exact ⟨v1, v2, v3, rfl, eo.nx _ _ F1 M1 H1 e1 ((((hE.mono e1).set r1).set r2).set r3) w1 q⟩
/-- x += e, x -= e -/
def sAug (i : Nat) (f : Int → Int → Int) (te : DE) : DS := fun D env M => ∃ z, env[i]? = some (some (.int z)) ∧ te env M (fun d M1 => ∃ y, d = .int y ∧ D.nx (env.set i (some (.int (f z y)))) M1) (D.ex env)
theorem psd_aug {i : Nat} {x : Str} {op : Operator} {f : Int → Int → Int} {px : Pos} (hip : ∀ X, PIp X op (ipI f)) (hi : N[i]? = some x) (hx : locB sc x = true) (he : PD G k N sc e te) : PDS G k N sc (.AugAssign (.Name x px) op e pos) (sAug i f te) := fun W X ok tk => by
  obtain ⟨h1, h2⟩ := loc_of ok hx
  refine PS.imp (ps_aug ok.nd (by rw [ok.N]; exact hi) h1 (he W X ok tk) (hip X) h2) fun Dh σ H ⟨env, F, M, Φ, D', hE, w, h, eo⟩ => ?_
  obtain ⟨z, ez, h⟩ := h
  obtain ⟨v, ev, rv⟩ := hE.at_ i _ ez
  rw [Rep] at rv; subst rv
  refine ⟨_, ev, tD.seq hE w h (eo.ex env σ F (Ex.refl F) hE) fun d v F1 M1 H1 e1 w1 hE1 r1 q1 ep1 => ?_⟩
  obtain ⟨y, rfl, q⟩ := q1
  rw [Rep] at r1; subst r1
  exact ⟨z, y, rfl, rfl, eo.nx _ _ F1 M1 H1 e1 (hE1.set (by rw [Rep])) w1 q⟩
/-- while -/
def sWhile (c : DT) (body : DS) : DS := fun D env M => ∃ W : Nat → En → MS → Prop, (∃ m, W m env M) ∧ ∀ m env M, W m env M →
  c env M (fun b M1 => if b = true then body { D with nx := fun e' M' => ∃ m', m' < m ∧ W m' e' M', ct := fun e' M' => ∃ m', m' < m ∧ W m' e' M', bk := D.nx } env M1 else D.nx env M1) (D.ex env)
theorem psd_while {c : Expr} {body : List Stmt} {tc : DT} (hc : PDT G k N sc c tc) (hb : PDs G k N sc body t) : PDS G k N sc (.While c body [] pos) (sWhile tc t) := fun W X ok tk => PS.imp (ps_while ok.po (hc W X ok tk) (hb W X ok tk)) fun Dh σ H ⟨env, F, M, Φ, D', hE, w, h, eo⟩ => by
  obtain ⟨Wd', ⟨m0, w0⟩, step⟩ := h
  refine ⟨fun m σ H => ∃ env F1 M, Ex F F1 ∧ EnR G F1 σ env ∧ Wd G F1 M Φ H ∧ Wd' m env M, ⟨m0, env, F, M, Ex.refl F, hE, w, w0⟩, ?_⟩
  rintro m σ1 H1 ⟨env1, F1, M1, e1, hE1, w1, q1⟩
  refine ⟨env1, F1, M1, Φ, _, _, hE1, w1, step m env1 M1 q1, fun b F2 M2 H2 e2 w2 q2 => ?_, (eo.mono e1).ex env1 σ1 F1 (Ex.refl F1) hE1⟩
  cases b with
  | true =>
    rw [if_pos rfl] at q2 ⊢
    refine ⟨fun σ' H' => ∃ env F3 M, Ex F F3 ∧ EnR G F3 σ' env ∧ Wd G F3 M Φ H' ∧ ∃ m', m' < m ∧ Wd' m' env M, fun σ' H' ⟨env3, F3, M3, e3, hE3, w3, m', hm, q3⟩ => ⟨m', hm, env3, F3, M3, e3, hE3, w3, q3⟩, ?_⟩
    refine ⟨env1, F2, M2, Φ, _, hE1.mono e2, w2, q2, ⟨fun env3 σ3 F3 M3 H3 e3 hE3 w3 q3 => ⟨env3, F3, M3, (e1.trans e2).trans e3, hE3, w3, q3⟩, fun d v F3 M3 H3 e3 => eo.rt d v F3 M3 H3 ((e1.trans e2).trans e3), fun env3 σ3 F3 M3 H3 e3 => eo.nx env3 σ3 F3 M3 H3 ((e1.trans e2).trans e3),
      fun env3 σ3 F3 M3 H3 e3 hE3 w3 q3 => ⟨env3, F3, M3, (e1.trans e2).trans e3, hE3, w3, q3⟩, fun env3 σ3 F3 e3 => eo.ex env3 σ3 F3 ((e1.trans e2).trans e3)⟩⟩
  | false =>
    rw [if_neg Bool.false_ne_true] at q2 ⊢
    exact eo.nx env1 σ1 F2 M2 H2 (e1.trans e2) (hE1.mono e2) w2 q2
/-- for -/
def forTurns (g : Tg) (body : DS) (D' : EndD) (keep : MS → Prop) : List D → En → MS → Prop
  | [], env, M => keep M ∧ D'.nx env M
  | d :: ds, env, M => keep M ∧ dTg g d env M fun env' M1 => body { D' with nx := forTurns g body D' keep ds, ct := forTurns g body D' keep ds, bk := D'.nx } env' M1
def sFor (i : DI) (g : Tg) (body : DS) : DS := fun D env M => i env M (fun ds keep M1 => forTurns g body D keep ds env M1) (D.ex env)
theorem psd_for {tg iter : Expr} {body : List Stmt} {i : DI} {g : Tg} (hi : PDI G k N sc tg iter i) (hg : PGD G k N sc tg g) (hb : PDs G k N sc body t) (hs : ∀ env x, foldedSetIterable iter env x = pure x := by intro _ _; rfl) : PDS G k N sc (.For tg iter body [] pos) (sFor i g t) := fun W X ok tk => by
  have hK : X.K = G.K := by rw [ok.g]
  refine PS.imp (ps_for ok.po ok.calm (hi W X ok tk) (hg X ok) (hb W X ok tk) (hs X.env)) fun Dh σ H ⟨env, F, M, Φ, D', hE, w, h, eo⟩ => ?_
  refine ⟨env, F, M, Φ, _, _, hE, w, h, fun ds keep J F0 M0 H0 e0 w0 en h0 => ?_, eo.ex env σ F (Ex.refl F) hE⟩
  refine ⟨fun i m σ1 H1 => m = ds.length - i ∧ i ≤ ds.length ∧ ∃ env1 F1 M1, Ex F0 F1 ∧ EnR G F1 σ1 env1 ∧ Wd G F1 M1 Φ H1 ∧ forTurns g t D' keep (ds.drop i) env1 M1,
    ⟨ds.length, by simp, Nat.zero_le _, env, F0, M0, Ex.refl F0, hE.mono e0, w0, by simpa using h0⟩, ?_⟩
  rintro i m σ1 H1 ⟨rfl, hi, env1, F1, M1, e1, hE1, w1, h1⟩
  by_cases hlt : i < ds.length
  · have hdrop : ds.drop i = ds[i] :: ds.drop (i + 1) := List.drop_eq_getElem_cons hlt
    rw [hdrop] at h1
    obtain ⟨kp, h1⟩ := h1
    obtain ⟨go, yl⟩ := (en i F1 M1 _ H1 e1 w1 kp).1 hlt
    refine .inr ⟨go, fun σ2 H2 => i + 1 ≤ ds.length ∧ ∃ env1 F1 M1, Ex F0 F1 ∧ EnR G F1 σ2 env1 ∧ Wd G F1 M1 Φ H2 ∧ forTurns g t D' keep (ds.drop (i + 1)) env1 M1, fun σ2 H2 h2 => ⟨ds.length - (i + 1), by omega, rfl, h2⟩, fun x H2 y => ?_⟩
    obtain ⟨F2, d, e2, w2, hd, r2⟩ := yl x H2 y
    rw [List.getElem?_eq_getElem hlt] at hd
    cases hd
    refine gTg_run hK w2 r2 (hE1.mono e2) h1 fun env' σ' hE' q => ?_
    have e02 := (e0.trans e1).trans e2
    exact ⟨env', F2, M1, Φ, _, hE', w2, q, ⟨fun env3 σ3 F3 M3 H3 e3 hE3 w3 q3 => ⟨by omega, env3, F3, M3, (e1.trans e2).trans e3, hE3, w3, q3⟩, fun d v F3 M3 H3 e3 => eo.rt d v F3 M3 H3 (e02.trans e3), fun env3 σ3 F3 M3 H3 e3 => eo.nx env3 σ3 F3 M3 H3 (e02.trans e3),
      fun env3 σ3 F3 M3 H3 e3 hE3 w3 q3 => ⟨by omega, env3, F3, M3, (e1.trans e2).trans e3, hE3, w3, q3⟩, fun env3 σ3 F3 e3 => eo.ex env3 σ3 F3 (e02.trans e3)⟩⟩
  · have hn : ds.drop i = [] := List.drop_eq_nil_of_le (by omega)
    rw [hn] at h1
    obtain ⟨kp, h1⟩ := h1
    exact .inl ⟨(en i F1 M1 _ H1 e1 w1 kp).2 (by omega), eo.nx env1 σ1 F1 M1 H1 (e0.trans e1) hE1 w1 h1⟩

/-! ## lists that change -/
/-- o[i] = e -/
def sSub (te to ti : DE) : DS := fun D env M => te env M (fun d M1 => to env M1 (fun x M2 => ti env M2 (fun y M3 => ∃ a ds i j, x = .cell a ∧ y = .int i ∧ M3 a = some (.lst ds) ∧ ixN ds.length i = some j ∧ D.nx env (M3.put a (.lst (ds.set j d)))) (D.ex env)) (D.ex env)) (D.ex env)
theorem psd_sub {o i : Expr} {to ti : DE} {tpos : Pos} (he : PD G k N sc e te) (ho : PD G k N sc o to) (hi : PD G k N sc i ti) (hsub : ∀ X : Cx, XOk G k N sc X → ∀ {ta tb : TE}, PE X o ta → PE X i tb → PG X (.Subscript o i tpos) (gSub ta tb rSetL))
    (hs : ∀ env : Env, swapsWithSole [.Subscript o i tpos] e pos.line env = pure false := by intro _; rfl) (hw : ∀ env : Env, swappedStores [.Subscript o i tpos] e env = pure none := by intro _; rfl) (h1 : ∀ env, (assignEach [.Subscript o i tpos] env).map (·.2) = [assign (.Subscript o i tpos) env] := by intro _; rfl) :
    PDS G k N sc (.Assign [.Subscript o i tpos] e pos) (sSub te to ti) := fun W X ok tk => by
  refine PS.imp (ps_asg (he W X ok tk) (hsub X ok (ho W X ok tk) (hi W X ok tk)) (hs X.env) (hw X.env) (h1 X.env)) fun Dh σ H ⟨env, F, M, Φ, D', hE, w, h, eo⟩ => ?_
  refine tD.seq hE w h (eo.ex env σ F (Ex.refl F) hE) fun d v F1 M1 H1 e1 w1 hE1 r1 q1 ep1 => ?_
  refine tD.seq hE1 w1 q1 ep1 fun x vx F2 M2 H2 e2 w2 hE2 r2 q2 ep2 => ?_
  refine tD.seq hE2 w2 q2 ep2 fun y vy F3 M3 H3 e3 w3 hE3 r3 q3 ep3 => ?_
  obtain ⟨a, ds, i, j, rfl, rfl, hM, hj, q⟩ := q3
  simp only [Rep] at r2 r3
  subst r2 r3
  obtain ⟨hF, vs, hH, rs⟩ := w3.m a _ hM
  refine ⟨a, vs, i, j, rfl, rfl, hH, by rw [← rs.len]; exact hj, ?_⟩
  exact eo.nx _ _ F3 _ _ ((e1.trans e2).trans e3) hE3 (w3.mset (mo' := .lst (ds.set j d)) hM ⟨_, upd_same, rs.set j ((r1.mono e2).mono e3)⟩) q
/-- methods of a list that change it -/
abbrev RMt := D → List D → MS → QD → Prop
def dMt (r : RMt) (to : DE) (t : DA) : DE := fun env M Q E => to env M (fun x M1 => (∃ ds, listOf M1 x = some ds) ∧ t env M1 (fun ds M2 => r x ds M2 Q) E) E
def MtD (G : Gx) (id : String) (r : RMt) : Prop := ∀ X : Cx, G = ⟨X.prog, X.w, X.K, X.mg, X.base⟩ → ∃ rh, MtR X id rh ∧ ∀ x d vs ds F M Φ H Q Qh, Wd G F M Φ H → Rep G F d x → Reps G F ds vs → r d ds M Q → NP G F Φ Q Qh → rh x vs H Qh
theorem ty_list {d : D} {ds : List D} {v : V} (w : Wd G F M Φ H) (r : Rep G F d v) (h : listOf M d = some ds) : tyV G.K "list" v H := by
  obtain ⟨p, vs, rfl, hs, _⟩ := listOf_seq w r h
  exact .inl ⟨rfl, vs, hs⟩
theorem pd_mt {o : Expr} {to : DE} {name : Str} {id : String} {r : RMt} {apos : Pos} (pa : PlainAttrs "list") (slot : Slot "list" name id) (hty : typeOf (.builtin id) = pure (.type "method_descriptor")) (hm : MtD G id r) (ho : PD G k N sc o to) (ha : PDA G k N sc (e :: es) tr)
    (hbase : ∀ env, attributeBase o name env (eval o env) = eval o env := by intro _; rfl)
    (hfew : ∀ env, ((backTo pos (starEach (e :: es) env)).all (fun x => !x.1) && (backToKw pos (keywordEach [] env)).all (fun x => x.1.isSome) && decide ((e :: es).length + ([] : List Keyword).length + (if ([] : List Keyword).isEmpty then 0 else 1) < 30)) = true := by intro _; rfl)
    (hline : (apos.endLine == pos.line) = true := by rfl) (hs : ∀ env, starEach (e :: es) env = (false, eval e env) :: starEach es env := by intro _; rfl) (hpl : ∀ env, (backTo pos (starEach es env)).any (·.1) = false := by intro _; rfl) :
    PD G k N sc (.Call (.Attribute o name apos) (e :: es) [] pos) (dMt r to tr) := fun W X ok tk => by
  obtain ⟨rh, h1, h2⟩ := hm X ok.g
  have hK : X.K = G.K := by rw [ok.g]
  refine PE.imp (pe_bm pa slot hty h1 (ho W X ok tk) (ha W X ok tk) (hbase X.env) (hfew X.env) hline (hs X.env) (hpl X.env)) fun σ H Qh ⟨env, F, M, Φ, Q, E, hE, w, h, np, ep⟩ => ?_
  refine tD.seq hE w h ep fun d v F1 M1 H1 e1 w1 hE1 r1 q1 ep1 => ?_
  obtain ⟨⟨ds, hl⟩, q⟩ := q1
  refine ⟨by rw [hK]; exact ty_list w1 r1 hl, env, F1, M1, Φ, _, E, hE1, w1, q, fun es vs F2 M2 H2 e2 w2 rs q2 => ?_, ep1⟩
  exact h2 v d vs es F2 M2 Φ H2 Q Qh w2 (r1.mono e2) rs q2 (np.mono (e1.trans e2))
theorem pd_mt0 {o : Expr} {to : DE} {name : Str} {id : String} {r : RMt} {apos : Pos} (pa : PlainAttrs "list") (slot : Slot "list" name id) (hty : typeOf (.builtin id) = pure (.type "method_descriptor")) (hm : MtD G id r) (ho : PD G k N sc o to)
    (hbase : ∀ env, attributeBase o name env (eval o env) = eval o env := by intro _; rfl) (hline : (apos.endLine == pos.line) = true := by rfl) : PD G k N sc (.Call (.Attribute o name apos) [] [] pos) (dMt r to dNil) := fun W X ok tk => by
  obtain ⟨rh, h1, h2⟩ := hm X ok.g
  have hK : X.K = G.K := by rw [ok.g]
  refine PE.imp (pe_bm0 pa slot hty h1 (ho W X ok tk) (hbase X.env) hline) fun σ H Qh ⟨env, F, M, Φ, Q, E, hE, w, h, np, ep⟩ => ?_
  refine tD.seq hE w h ep fun d v F1 M1 H1 e1 w1 hE1 r1 q1 ep1 => ?_
  obtain ⟨⟨ds, hl⟩, q⟩ := q1
  exact ⟨by rw [hK]; exact ty_list w1 r1 hl, h2 v d [] [] F1 M1 Φ H1 Q Qh w1 r1 .nil q (np.mono e1)⟩
def rAppD : RMt := fun x ys M Q => ∃ a ds y, x = .cell a ∧ ys = [y] ∧ M a = some (.lst ds) ∧ ds.length < 100000 ∧ Q .non (M.put a (.lst (ds ++ [y])))
theorem md_append : MtD G "list.append" rAppD := fun X hg => ⟨rAppend, mt_append, fun x d vs ds F M Φ H Q Qh w rx rs h np => by
  obtain ⟨a, xs, y, rfl, rfl, hM, hz, q⟩ := h
  obtain ⟨v, rfl, r⟩ := reps1 rs
  rw [Rep] at rx; subst rx
  obtain ⟨hF, us, hH, ru⟩ := w.m a _ hM
  exact ⟨a, us, v, rfl, rfl, hH, by rw [← ru.len]; exact sz_lt hz, np _ _ F _ _ (Ex.refl F) (w.mset (mo' := .lst (xs ++ [y])) hM ⟨_, upd_same, ru.snoc r⟩) (by rw [Rep]) q⟩⟩
def rPopD : RMt := fun x ys M Q => ∃ a ds y, x = .cell a ∧ ys = [] ∧ M a = some (.lst ds) ∧ ds[ds.length - 1]? = some y ∧ Q y (M.put a (.lst ds.dropLast))
theorem Reps.dropLast {ds : List D} {vs : List V} (r : Reps G F ds vs) : Reps G F ds.dropLast vs.dropLast := by
  rw [List.dropLast_eq_take, List.dropLast_eq_take, ← r.len]; exact r.take _
theorem md_pop : MtD G "list.pop" rPopD := fun X hg => ⟨rPop, mt_pop, fun x d vs ds F M Φ H Q Qh w rx rs h np => by
  obtain ⟨a, xs, y, rfl, rfl, hM, hy, q⟩ := h
  rw [Reps] at rs; subst rs
  rw [Rep] at rx; subst rx
  obtain ⟨hF, us, hH, ru⟩ := w.m a _ hM
  obtain ⟨v, hv, rv⟩ := ru.get hy
  exact ⟨a, us, v, rfl, rfl, hH, by rw [← ru.len]; exact hv, np _ _ F _ _ (Ex.refl F) (w.mset (mo' := .lst xs.dropLast) hM ⟨_, upd_same, ru.dropLast⟩) rv q⟩⟩
def rExtD : RMt := fun x ys M Q => ∃ a ds es, x = .cell a ∧ ys = [.lst es] ∧ M a = some (.lst ds) ∧ ds.length + es.length ≤ 100000 ∧ Q .non (M.put a (.lst (ds ++ es)))
theorem md_extend : MtD G "list.extend" rExtD := fun X hg => ⟨rExtend, mt_extend, fun x d vs ds F M Φ H Q Qh w rx rs h np => by
  obtain ⟨a, xs, es, rfl, rfl, hM, hz, q⟩ := h
  obtain ⟨v, rfl, r⟩ := reps1 rs
  simp only [Rep] at rx r; subst rx
  obtain ⟨b, us2, rfl, hb, r2⟩ := r
  obtain ⟨hF, us, hH, ru⟩ := w.m a _ hM
  exact ⟨a, b, us, us2, rfl, rfl, hH, w.f _ _ hb, by rw [← ru.len, ← r2.len]; exact sz_of hz, np _ _ F _ _ (Ex.refl F) (w.mset (mo' := .lst (xs ++ es)) hM ⟨_, upd_same, ru.append r2⟩) (by rw [Rep]) q⟩⟩
end HD
namespace HD
open PySem PySem.Spec L2
open PyProof.Rows hiding St

/-! ## calls whose exceptions are wished for at the caller's slots -/
section
variable {X : Cx} {CX : CXT} {k : Nat} {f C : Addr} {fd : FuncData} {ps : List Str} {sp : Sp} {E : St → XK} {x m : Str} {p pos apos : Pos} {e o : Expr} {es : List Expr} {ta : TE} {t : TA}
theorem valsRef {a : Addr} {vs : List V} {us : List Value} (r : Vals vs us) : Vals (V.ref a :: vs) (Value.ref a :: us) := .cons rfl r
def tMethS (C : Addr) (m : Str) (sp : Sp) (E : St → XK) (ta : TE) (t : TA) : TE := fun σ H Q => ta σ H fun x H1 => ∃ a dx fs, x = .ref a ∧ H1 a = some (.ins C dx fs) ∧ fs.lookup m = none ∧ t σ H1 fun vs H2 => sp (x :: vs) H2 Q (E σ)
/-- the form of o.m(..) -/
def MethForm (o : Expr) (m : Str) (es : List Expr) (apos pos : Pos) (env : Env) : Prop := ∃ pl : Sem Bool, eval (.Call (.Attribute o m apos) es [] pos) env = (do
      let ov ← eval o env
      standAt apos.atName
      let (f, first) ← holding [ov] (getMethod ov m pl)
      callWith pos f first (backTo pos (starEach es env)) (backToKw pos (keywordEach [] env)))
theorem pe_methE (he : PE X o ta) (c : Cls X.K C) (hm : Meth X.K C m f) (F : FnOk X.prog X.w X.K X.mg X.base CX k f fd ps sp) (hr : Room k X.A) (hb : Binds X.K fd ps []) (hx : ∀ σ, PassesAt CX X σ (E σ)) (ha : PA X (e :: es) t)
    (h1 : starEach (e :: es) X.env = (false, eval e X.env) :: starEach es X.env) (h2 : (backTo pos (starEach es X.env)).any (·.1) = false) (hf : MethForm o m (e :: es) apos pos X.env) : PE X (.Call (.Attribute o m apos) (e :: es) [] pos) (tMethS C m sp E ta t) := by
  obtain ⟨pl, hf⟩ := hf
  refine ⟨fun pins s0 σ H Q I0 h => PySem.W.methodCall_KW (pl := pl) (thn (he.run pins s0 σ H _ I0 h) fun z s1 hz => ?_) hf⟩
  obtain ⟨x1, H1, I1, rz, a, dx, fs, rfl, ea, hl, q⟩ := hz
  obtain rfl : z = Value.ref a := rz
  exact getmeth_ok I1 ea c hm hl (PySem.W.callWith_K (first := [.ref a]) (h₀ := X.base) I1.ok.mod.kin hm.kp (thn (ha.run pos pins s1 σ H1 _ I1 q) fun us s2 ⟨vs, H2, I2, r, q2⟩ => ⟨I2.kIn, run_fnS F hr hb (hx σ) I2 (valsRef r) q2⟩) h1 h2)
theorem pe_methE0 (he : PE X o ta) (c : Cls X.K C) (hm : Meth X.K C m f) (F : FnOk X.prog X.w X.K X.mg X.base CX k f fd ps sp) (hr : Room k X.A) (hb : Binds X.K fd ps []) (hx : ∀ σ, PassesAt CX X σ (E σ))
    (hf : MethForm o m [] apos pos X.env) : PE X (.Call (.Attribute o m apos) [] [] pos) (tMethS C m sp E ta tNil) := by
  obtain ⟨pl, hf⟩ := hf
  refine ⟨fun pins s0 σ H Q I0 h => PySem.W.methodCall_KW (pl := pl) (thn (he.run pins s0 σ H _ I0 h) fun z s1 hz => ?_) hf⟩
  obtain ⟨x1, H1, I1, rz, a, dx, fs, rfl, ea, hl, q⟩ := hz
  obtain rfl : z = Value.ref a := rz
  exact getmeth_ok I1 ea c hm hl (PySem.W.callWith_K0 (first := [.ref a]) I1.kIn hm.kp (run_fnS F hr hb (hx σ) I1 (valsRef .nil) q))
theorem pe_callE0 (F : FnOk X.prog X.w X.K X.mg X.base CX k f fd ps sp) (hr : Room k X.A) (hg : Gl X x) (hm : X.mg x = some (.ref f)) (hk : PySem.W.keepIn X.K (.ref f) = true) (hb : Binds X.K fd ps []) (hx : ∀ σ, PassesAt CX X σ (E σ)) (hdb : (x == ("__debug__" : Str)) = false) :
    PE X (.Call (.Name x p) [] [] pos) (tCallS sp E tNil) :=
  ⟨fun pins s0 σ H Q I0 h => wpAny_Call_Name_kw (ld_glob I0 hg hm (PySem.W.callWith_K0 I0.kIn hk (run_fnS (us := []) F hr hb (hx σ) I0 .nil h)) hdb)⟩
def tMakeS (C : Addr) (sp : Sp) (E : St → XK) (t : TA) : TE := fun σ H Q => t σ H fun vs H1 => ∀ x dx, H1 x = none → H1 dx = none → dx ≠ x → sp (.ref x :: vs) (upd (upd H1 dx (.own x)) x (.ins C dx [])) (fun v H2 => v = .non ∧ Q (.ref x) H2) (E σ)
theorem run_makeS {pins : List (Addr × Obj)} {σ : St} {H : Hp} {s : Shared} {Q : VK} {us : List Value} {vs : List V} (M : Mk X.K C f) (F : FnOk X.prog X.w X.K X.mg X.base CX k f fd ps sp) (hr : Room (k + 1) X.A) (hb : Binds X.K fd ps []) (hx : PassesAt CX X σ (E σ)) (I : Inv X pins σ H s) (rv : Vals vs us)
    (h : ∀ x dx, H x = none → H dx = none → dx ≠ x → sp (.ref x :: vs) (upd (upd H dx (.own x)) x (.ins C dx [])) (fun v H2 => v = .non ∧ Q (.ref x) H2) (E σ)) : wpAny (model X.prog X.w) X.A (call (.ref C) us) (EP X pins σ Q) X.xe s := by
  have q := h (s.heap.objs.size + 1) s.heap.objs.size (I.hok.fresh (Nat.le_succ _)) (I.hok.fresh (Nat.le_refl _)) (Nat.ne_of_lt (Nat.lt_succ_self _))
  have J := Inv.made (C := C) I
  have rr : Vals (V.ref (s.heap.objs.size + 1) :: vs) (Value.ref (s.heap.objs.size + 1) :: us) := .cons rfl rv
  have ln : ((Value.ref (s.heap.objs.size + 1) :: us) ++ []).length = ps.length := by rw [List.append_nil, ← rr.length]; exact F.len _ _ _ _ q
  have bd := hb _ (Value.ref (s.heap.objs.size + 1) :: us) J.kIn ln
  rw [List.append_nil] at bd
  refine wpAny_call (make_map (f := f) I.kIn M.makes M.init (beq_iff_eq.mp M.fn) (codeAny_mono (F.run _ X.stack _ _ ⟨Value.ref (s.heap.objs.size + 1) :: us, []⟩ _ _ _ (E σ) (hr.make C us []) (J.env0.make C us []) bd rr q) fun r s' hq => ?_))
  match r, hq with
  | .error e, hq => exact hx pins _ _ e s' J hq
  | .ok (.ret u), hq =>
    obtain ⟨v, H', I3, ru, ev, q3⟩ := J.after hq
    subst ev
    exact ⟨ru, ⟨V.ref (s.heap.objs.size + 1), H', I3, rfl, q3⟩⟩
  | .ok .next, hq => exact False.elim hq
  | .ok .brk, hq => exact False.elim hq
  | .ok .cont, hq => exact False.elim hq
theorem pe_makeE (M : Mk X.K C f) (F : FnOk X.prog X.w X.K X.mg X.base CX k f fd ps sp) (hr : Room (k + 1) X.A) (hg : Gl X x) (hm : X.mg x = some (.ref C)) (hb : Binds X.K fd ps []) (hx : ∀ σ, PassesAt CX X σ (E σ)) (ha : PA X (e :: es) t) (hdb : (x == ("__debug__" : Str)) = false)
    (h1 : starEach (e :: es) X.env = (false, eval e X.env) :: starEach es X.env) (h2 : (backTo pos (starEach es X.env)).any (·.1) = false) : PE X (.Call (.Name x p) (e :: es) [] pos) (tMakeS C sp E t) :=
  ⟨fun pins s0 σ H Q I0 h => wpAny_Call_Name_kw (ld_glob I0 hg hm (PySem.W.callWith_K (h₀ := X.base) I0.ok.mod.kin M.kp (thn (ha.run pos pins s0 σ H _ I0 h) fun us s1 ⟨vs, H1, I1, r, q⟩ => ⟨I1.kIn, run_makeS M F hr hb (hx σ) I1 r q⟩) h1 h2) hdb)⟩
theorem pe_makeE0 (M : Mk X.K C f) (F : FnOk X.prog X.w X.K X.mg X.base CX k f fd ps sp) (hr : Room (k + 1) X.A) (hg : Gl X x) (hm : X.mg x = some (.ref C)) (hb : Binds X.K fd ps []) (hx : ∀ σ, PassesAt CX X σ (E σ)) (hdb : (x == ("__debug__" : Str)) = false) :
    PE X (.Call (.Name x p) [] [] pos) (tMakeS C sp E tNil) :=
  ⟨fun pins s0 σ H Q I0 h => wpAny_Call_Name_kw (ld_glob I0 hg hm (PySem.W.callWith_K0 I0.kIn M.kp (run_makeS (us := []) M F hr hb (hx σ) I0 .nil h)) hdb)⟩
end
end HD
namespace HD
open PySem L2
variable {G : Gx} {F F' H H' Φ : Hp} {σ : St} {env : En} {M M' : MS} {k j : Nat} {N ps : List Str} {sc : ScX} {e a b c : Expr} {pos p : Pos} {te ta tb tc : DE} {es : List Expr} {tr : DA}

/-! ## defs -/
/-- what a def promises over data: the arguments, the mutable things, what is wanted of its answer, of an exception -/
abbrev DSp := List D → MS → QD → QE → Prop
def toSp (G : Gx) (n : Nat) (S : DSp) : Sp := fun vs H Qh Eh => ∃ F M Φ ds Q E, Wd G F M Φ H ∧ Reps G F ds vs ∧ ds.length = n ∧ S ds M Q E ∧ NP G F Φ Q Qh ∧ EPo G F Φ E Eh
structure Def (G : Gx) (k : Nat) (f : Addr) (ps : List Str) (S : DSp) : Prop where
  kp : PySem.W.keepIn G.K (.ref f) = true
  ex : ∃ fd, Binds G.K fd ps [] ∧ FnOk G.P G.w G.K G.mg G.base (L2.CX G.P G.w) k f fd ps (toSp G ps.length S) ∧ ∃ (oc : Value) (od : Option Addr) (osl : Array (Option Value)), G.K.lookup f = some ⟨oc, od, .func fd, osl⟩
theorem Def.mono {f : Addr} {S : DSp} (h : Def G j f ps S) (hj : j ≤ k) : Def G k f ps S := let ⟨fd, b, F, l⟩ := h.ex; ⟨h.kp, fd, b, F.mono hj, l⟩
theorem Def.imp {f : Addr} {S S' : DSp} (h : Def G k f ps S) (i : ∀ ds M Q E, S' ds M Q E → S ds M Q E) : Def G k f ps S' := by
  obtain ⟨fd, b, F, l⟩ := h.ex
  exact ⟨h.kp, fd, b, F.imp fun vs H Q E ⟨F, M, Φ, ds, Qd, Ed, w, r, hl, s, np, ep⟩ => ⟨F, M, Φ, ds, Qd, Ed, w, r, hl, i _ _ _ _ s, np, ep⟩, l⟩
def startD (N : List Str) (ds : List D) : En := ds.map some ++ List.replicate (N.length - ds.length) none
theorem start_en {ds : List D} {vs : List V} (r : Reps G F ds vs) : EnR G F (L2.start N vs) (startD N ds) := by
  have hl := r.len
  refine ⟨by unfold L2.start startD; rw [List.length_append, List.length_append, List.length_map, List.length_map, List.length_replicate, List.length_replicate, hl], fun i d h => ?_⟩
  unfold startD at h
  by_cases hi : i < ds.length
  · rw [List.getElem?_append_left (by simpa using hi), List.getElem?_map, List.getElem?_eq_getElem hi] at h
    cases h
    obtain ⟨v, h1, h2⟩ := r.get (List.getElem?_eq_getElem hi)
    refine ⟨v, ?_, h2⟩
    unfold L2.start
    rw [List.getElem?_append_left (by rw [List.length_map, ← hl]; exact hi), List.getElem?_map, h1]; rfl
  · rw [List.getElem?_append_right (by simpa using hi), List.getElem?_replicate] at h
    split at h <;> cases h
/-- THE RULE for a def: its body t, read at the parameters' values -/
theorem def_ok {x qual : Str} {params : Arguments} {body : List Stmt} {scope : Scope} {kws : List (Str × V)} {f : Addr} {fd : FuncData} {S : DSp} {t : DS} (Fd : FunD G.K x qual params body scope [] kws f fd) (hS : FnScope N ps scope)
    (hb : ∀ (kV doc pm : Value) (an : Option Addr) (cdv ct : Value) (us : List Value), us.length = ps.length → bindArgs (PySem.W.fnOf x qual params body scope .none kV doc pm an cdv ct) ⟨us, []⟩ = pure (ps.zip us))
    (ht : PDs G k N ⟨scope, fun _ => true⟩ body t) (h : ∀ ds M Q E, ds.length = ps.length → S ds M Q E → t { nx := fun _ M' => Q .non M', rt := Q, ex := fun _ => E } (startD N ds) M) : Def G (k + 1) f ps S := by
  refine ⟨Fd.kp, fd, Fd.bindsN hb, ?_, let ⟨oc, od, _, _, _, _, _, _, _, osl, _, lk, _⟩ := Fd.ex; ⟨oc, od, osl, lk⟩⟩
  refine FunD.ok Fd hS (fun vs H Q E ⟨F, M, Φ, ds, Qd, Ed, w, r, hl, _⟩ => by rw [← r.len, hl]) fun cdv A outer s H vs Q E hr hs => ?_
  obtain ⟨F, M, Φ, ds, Qd, Ed, w, r, hl, hs, np, ep⟩ := hs
  have ok : XOk G k N ⟨scope, fun _ => true⟩ (cxOf (L2.CX G.P G.w) G.P G.w G.K G.mg G.base N qual scope f cdv A outer s H E) := ⟨rfl, rfl, rfl, rfl, rfl, hr, passes_of rfl, hS.nd⟩
  have tk : Takes (cxOf (L2.CX G.P G.w) G.P G.w G.K G.mg G.base N qual scope f cdv A outer s H E) (fun cls d _ H' => E cls d H') := takes_of rfl rfl rfl rfl
  refine ⟨_, ht _ _ ok tk, startD N ds, F, M, Φ, _, start_en r, w, h ds M Qd Ed hl hs, ⟨fun env σ F' M' H' e hE w q => np .non .non F' M' H' e w (by rw [Rep]) q, np, fun _ _ _ _ _ _ _ _ q => q.elim, fun _ _ _ _ _ _ _ _ q => q.elim, fun env σ F' e hE => ep.mono e⟩⟩

/-! ## calls -/
theorem toSp_run {W : WX} {n : Nat} {S : DSp} {ds : List D} {vs : List V} {Q : QD} {E : QE} {Qh : VK} (w : Wd G F M Φ H) (rs : Reps G F ds vs) (hn : ds.length = n) (h : S ds M Q E) (np : NP G F Φ Q Qh) (ep : EPo G F Φ E fun c d H' => W c d σ H') : toSp G n S vs H Qh (WE W σ) :=
  ⟨F, M, Φ, ds, Q, E, w, rs, hn, h, np, ep⟩
def dCallF (n : Nat) (S : DSp) (t : DA) : DE := fun env M Q E => t env M (fun ds M1 => ds.length = n ∧ S ds M1 Q E) E
variable {x m : Str} {f : Addr} {S : DSp}
theorem pd_call (D' : Def G j f ps S) (hj : j ≤ k) (hm : G.mg x = some (.ref f)) (hg : glB sc x = true) (ha : PDA G k N sc (e :: es) tr)
    (he : ∀ env, starEach (e :: es) env = (false, eval e env) :: starEach es env := by intro _; rfl) (hpl : ∀ env pos, (backTo pos (starEach es env)).any (·.1) = false := by intro _ _; rfl) : PD G k N sc (.Call (.Name x p) (e :: es) [] pos) (dCallF ps.length S tr) := fun W X ok tk => by
  obtain ⟨fd, hb, Fk, _⟩ := D'.ex
  have kp := D'.kp
  obtain ⟨g1, g2⟩ := gl_of ok.scp hg
  have hg := ok.g
  subst hg
  exact PE.imp (pe_callS Fk (ok.room.mono hj) g1 hm kp hb (passAt tk) (ha W X ok tk) g2 (he X.env) (hpl X.env pos)) fun σ H Qh ⟨env, F, M, Φ, Q, E, hE, w, h, np, ep⟩ =>
    ⟨env, F, M, Φ, _, E, hE, w, h, fun ds vs F1 M1 H1 e1 w1 rs q => toSp_run w1 rs q.1 q.2 (np.mono e1) (ep.mono e1), ep⟩
theorem pd_call0 (D' : Def G j f ps S) (hj : j ≤ k) (hm : G.mg x = some (.ref f)) (hg : glB sc x = true) : PD G k N sc (.Call (.Name x p) [] [] pos) (dCallF ps.length S dNil) := fun W X ok tk => by
  obtain ⟨fd, hb, Fk, _⟩ := D'.ex
  have kp := D'.kp
  obtain ⟨g1, g2⟩ := gl_of ok.scp hg
  have hg := ok.g
  subst hg
  exact PE.imp (pe_callE0 Fk (ok.room.mono hj) g1 hm kp hb (passAt tk) g2) fun σ H Qh ⟨env, F, M, Φ, Q, E, hE, w, h, np, ep⟩ => toSp_run w .nil h.1 h.2 np ep

/-! ### what an instance is -/
def fldsOf (cs : List Str) (M : MS) : D → Option (List Str × List D)
  | .obj c ds => if cs.contains c then some (flds c, ds) else none
  | .cell a => match M a with
    | some (.ins c ns ds) => if cs.contains c then some (ns, ds) else none
    | _ => none
  | _ => none
theorem fldsOf_ok {cs : List Str} {d : D} {v : V} {ns : List Str} {ds : List D} (w : Wd G F M Φ H) (r : Rep G F d v) (h : fldsOf cs M d = some (ns, ds)) : ∃ a c dx vs, v = .ref a ∧ cs.contains c = true ∧ H a = some (.ins (G.ca c) dx (ns.zip vs)) ∧ ns.length = ds.length ∧ Reps G F ds vs := by
  unfold fldsOf at h
  split at h
  · rename_i c ds'
    split at h
    · rename_i hc
      cases h
      rw [Rep] at r
      obtain ⟨a, dx, vs, rfl, h1, h2, h3⟩ := r
      exact ⟨a, c, dx, vs, rfl, hc, w.f _ _ h1, h2, h3⟩
    · cases h
  · rename_i a
    split at h
    · rename_i c ns' ds' hM
      split at h
      · rename_i hc
        cases h
        rw [Rep] at r; subst r
        obtain ⟨_, dx, vs, h1, h2, h3⟩ := w.m a _ hM
        exact ⟨a, c, dx, vs, rfl, hc, h1, h2, h3⟩
      · cases h
    · cases h
  · cases h
theorem lookup_zip {f : Str} : ∀ {ns : List Str} {ds : List D} {vs : List V} {d : D}, Reps G F ds vs → (ns.zip ds).lookup f = some d → ∃ v, (ns.zip vs).lookup f = some v ∧ Rep G F d v
  | [], _, _, _, _, h => by simp at h
  | n :: ns, [], _, _, r, h => by simp at h
  | n :: ns, d' :: ds, _, d, r, h => by
    rw [Reps] at r; obtain ⟨v, us, rfl, h1, h2⟩ := r
    rw [List.zip_cons_cons, List.lookup_cons] at h ⊢
    cases q : (f == n) with
    | true => rw [q] at h; cases h; exact ⟨v, rfl, h1⟩
    | false => rw [q] at h; exact lookup_zip h2 h
theorem lookup_none {f : Str} : ∀ {ns : List Str} {vs : List V}, ns.contains f = false → (ns.zip vs).lookup f = none
  | [], _, _ => by simp
  | n :: ns, [], _ => by simp
  | n :: ns, v :: vs, h => by
    rw [List.contains_cons, Bool.or_eq_false_iff] at h
    rw [List.zip_cons_cons, List.lookup_cons, h.1]
    exact lookup_none h.2
/-- a class of the text with plain instances -/
structure ClsFld (G : Gx) (cs : List Str) (f : Str) : Prop where
  ok : ∀ c, cs.contains c = true → Cls G.K (G.ca c) ∧ NoAttr G.K (G.ca c) f
def fldOf (cs : List Str) (M : MS) (x : D) (f : Str) : Option D := (fldsOf cs M x).bind fun q => (q.1.zip q.2).lookup f
def dFld (cs : List Str) (f : Str) (te : DE) : DE := fun env M Q E => te env M (fun x M1 => ∃ d, fldOf cs M1 x f = some d ∧ Q d M1) E
theorem pd_fld {cs : List Str} {fl : Str} (hc : ClsFld G cs fl) (he : PD G k N sc e te) (hb : ∀ env, attributeBase e fl env (eval e env) = eval e env := by intro _; rfl) : PD G k N sc (.Attribute e fl pos) (dFld cs fl te) := fun W X ok tk =>
  PE.imp (pe_fld (he W X ok tk) (hb X.env)) fun σ H Qh ⟨env, F, M, Φ, Q, E, hE, w, h, np, ep⟩ => tD.seq hE w h ep fun d v F1 M1 H1 e1 w1 hE1 r1 q1 ep1 => by
    obtain ⟨d2, h1, q⟩ := q1
    unfold fldOf at h1
    cases q2 : fldsOf cs M1 d with
    | none => rw [q2] at h1; cases h1
    | some z =>
      rw [q2] at h1
      obtain ⟨a, c, dx, vs, rfl, hcs, hH, hl, rs⟩ := fldsOf_ok w1 r1 q2
      obtain ⟨u, h2, h3⟩ := lookup_zip rs h1
      have hh := hc.ok c hcs
      have hK : X.K = G.K := by rw [ok.g]
      exact ⟨a, G.ca c, dx, _, u, rfl, hH, by rw [hK]; exact hh.1, by rw [hK]; exact hh.2, h2, np _ _ F1 M1 H1 e1 w1 h3 q⟩
/-! ### o.f = e -/
def putN (ns : List Str) (f : Str) : List Str := if ns.contains f then ns else ns ++ [f]
def putX {α : Type} : List Str → List α → Str → α → List α
  | n :: ns, d :: ds, f, x => if n = f then x :: ds else d :: putX ns ds f x
  | _, ds, _, x => ds ++ [x]
theorem put_zip {f : Str} {v : V} : ∀ {ns : List Str} {vs : List V}, ns.length = vs.length → putF f v (ns.zip vs) = (putN ns f).zip (putX ns vs f v) ∧ (putN ns f).length = (putX ns vs f v).length
  | [], [], _ => ⟨rfl, rfl⟩
  | n :: ns, u :: vs, h => by
    have ih := put_zip (f := f) (v := v) (ns := ns) (vs := vs) (by simpa using h)
    by_cases e : n = f
    · have hc : (n :: ns).contains f = true := by rw [List.contains_cons, e]; simp
      unfold putN putX
      rw [if_pos hc, if_pos e]
      refine ⟨?_, by simpa using h⟩
      rw [List.zip_cons_cons, List.zip_cons_cons]
      show (if n = f then (n, v) :: ns.zip vs else _) = _
      rw [if_pos e]
    · have hc : (n :: ns).contains f = ns.contains f := by
        rw [List.contains_cons]
        have : (f == n) = false := beq_eq_false_iff_ne.mpr fun z => e z.symm
        rw [this]; rfl
      have hp : putN (n :: ns) f = n :: putN ns f := by
        unfold putN
        rw [hc]
        split <;> rfl
      rw [hp]
      unfold putX
      rw [if_neg e, List.zip_cons_cons, List.zip_cons_cons]
      refine ⟨?_, by simpa using ih.2⟩
      show (if n = f then _ else (n, u) :: putF f v (ns.zip vs)) = _
      rw [if_neg e, ih.1]
  | [], _ :: _, h => by simp at h
  | _ :: _, [], h => by simp at h
theorem Reps.putX {f : Str} {d : D} {v : V} (r1 : Rep G F d v) : ∀ {ns : List Str} {ds : List D} {vs : List V}, Reps G F ds vs → Reps G F (putX ns ds f d) (putX ns vs f v)
  | [], ds, vs, r => by cases ds <;> cases vs <;> (first | exact r.snoc r1 | exact r.snoc r1)
  | n :: ns, [], _, r => by rw [Reps] at r; subst r; exact Reps.cons r1 .nil
  | n :: ns, d' :: ds, _, r => by
    rw [Reps] at r; obtain ⟨u, us, rfl, h1, h2⟩ := r
    unfold HD.putX
    split
    · exact .cons r1 h2
    · exact .cons h1 (Reps.putX r1 h2)
def sFldD (cs : List Str) (f : Str) (to tv : DE) : DS := fun D env M => tv env M (fun d M1 => to env M1 (fun x M2 => ∃ a c ns ds, x = .cell a ∧ M2 a = some (.ins c ns ds) ∧ cs.contains c = true ∧ ns.length < 900 ∧ D.nx env (M2.put a (.ins c (putN ns f) (putX ns ds f d)))) (D.ex env)) (D.ex env)
theorem psd_fld {cs : List Str} {fl : Str} {o : Expr} {to : DE} {p' : Pos} (hc : ClsFld G cs fl) (ho : PD G k N sc o to) (he : PD G k N sc e te) (hs : ∀ env, swapsWith e (some (.Attribute o fl p')) pos.line env = pure false := by intro _; rfl) : PDS G k N sc (.Assign [.Attribute o fl p'] e pos) (sFldD cs fl to te) := fun W X ok tk => by
  refine PS.imp (ps_fld (ho W X ok tk) (he W X ok tk) (hs X.env)) fun Dh σ H ⟨env, F, M, Φ, D', hE, w, h, eo⟩ => ?_
  refine tD.seq hE w h (eo.ex env σ F (Ex.refl F) hE) fun d v F1 M1 H1 e1 w1 hE1 r1 q1 ep1 => tD.seq hE1 w1 q1 ep1 fun x vx F2 M2 H2 e2 w2 hE2 r2 q2 ep2 => ?_
  obtain ⟨a, c, ns, ds, rfl, hM, hcs, hz, q⟩ := q2
  rw [Rep] at r2; subst r2
  obtain ⟨hF, dx, vs, hH, hl, rs⟩ := w2.m a _ hM
  have hh := hc.ok c hcs
  have hK : X.K = G.K := by rw [ok.g]
  have hlv : ns.length = vs.length := by rw [hl, rs.len]
  obtain ⟨z1, z2⟩ := put_zip (f := fl) (v := v) hlv
  refine ⟨a, G.ca c, dx, _, rfl, hH, by rw [hK]; exact hh.1, by rw [hK]; exact hh.2, ?_, ?_⟩
  · rw [List.length_zip]; omega
  · have r3 := Reps.putX (f := fl) (ns := ns) (r1.mono e2) rs
    exact eo.nx _ _ F2 _ _ (e1.trans e2) hE2 (w2.mset (mo' := .ins c (putN ns fl) (putX ns ds fl d)) hM ⟨dx, _, by rw [upd_same, z1], by rw [z2, r3.len], r3⟩) q
/-! ### o.m(..) -/
def isCls (M : MS) (c m : Str) (x : D) : Bool := match fldsOf [c] M x with
  | some (ns, _) => !ns.contains m
  | none => false
def dMeth (c m : Str) (n : Nat) (S : DSp) (to : DE) (t : DA) : DE := fun env M Q E => to env M (fun x M1 => isCls M1 c m x = true ∧ t env M1 (fun ds M2 => (x :: ds).length = n ∧ S (x :: ds) M2 Q E) E) E
/-- a method of a class of the text -/
structure MethOk (G : Gx) (c m : Str) (f : Addr) : Prop where
  cls : Cls G.K (G.ca c)
  meth : Meth G.K (G.ca c) m f
theorem isCls_ok {cl ml : Str} {d : D} {v : V} (w : Wd G F M Φ H) (r : Rep G F d v) (h : isCls M cl ml d = true) : ∃ a dx fs, v = .ref a ∧ H a = some (.ins (G.ca cl) dx fs) ∧ fs.lookup ml = none := by
  unfold isCls at h
  split at h
  · rename_i ns ds q
    obtain ⟨a, c, dx, vs, rfl, hcs, hH, hl, rs⟩ := fldsOf_ok w r q
    have e : c = cl := by simpa using hcs
    subst e
    exact ⟨a, dx, _, rfl, hH, lookup_none (by simpa using h)⟩
  · cases h
theorem pd_meth {cl ml : Str} {o : Expr} {to : DE} {apos : Pos} (D' : Def G j f ps S) (hj : j ≤ k) (hc : MethOk G cl ml f) (ho : PD G k N sc o to) (ha : PDA G k N sc (e :: es) tr)
    (hf : ∀ env, MethForm o ml (e :: es) apos pos env) (he : ∀ env, starEach (e :: es) env = (false, eval e env) :: starEach es env := by intro _; rfl) (hpl : ∀ env, (backTo pos (starEach es env)).any (·.1) = false := by intro _; rfl) :
    PD G k N sc (.Call (.Attribute o ml apos) (e :: es) [] pos) (dMeth cl ml ps.length S to tr) := fun W X ok tk => by
  obtain ⟨fd, hb, Fk, _⟩ := D'.ex
  have hg := ok.g
  subst hg
  refine PE.imp (pe_methE (ho W X ok tk) hc.cls hc.meth Fk (ok.room.mono hj) hb (passAt tk) (ha W X ok tk) (he X.env) (hpl X.env) (hf X.env)) fun σ H Qh ⟨env, F, M, Φ, Q, E, hE, w, h, np, ep⟩ => tD.seq hE w h ep fun d v F1 M1 H1 e1 w1 hE1 r1 q1 ep1 => ?_
  obtain ⟨hi, q⟩ := q1
  obtain ⟨a, dx, fs, rfl, hH, hl⟩ := isCls_ok w1 r1 hi
  exact ⟨a, dx, fs, rfl, hH, hl, env, F1, M1, Φ, _, E, hE1, w1, q, fun ds vs F2 M2 H2 e2 w2 rs q2 => toSp_run w2 (.cons (r1.mono e2) rs) q2.1 q2.2 (np.mono (e1.trans e2)) (ep.mono (e1.trans e2)), ep1⟩
theorem pd_meth0 {cl ml : Str} {o : Expr} {to : DE} {apos : Pos} (D' : Def G j f ps S) (hj : j ≤ k) (hc : MethOk G cl ml f) (ho : PD G k N sc o to) (hf : ∀ env, MethForm o ml [] apos pos env) : PD G k N sc (.Call (.Attribute o ml apos) [] [] pos) (dMeth cl ml ps.length S to dNil) := fun W X ok tk => by
  obtain ⟨fd, hb, Fk, _⟩ := D'.ex
  have hg := ok.g
  subst hg
  refine PE.imp (pe_methE0 (ho W X ok tk) hc.cls hc.meth Fk (ok.room.mono hj) hb (passAt tk) (hf X.env)) fun σ H Qh ⟨env, F, M, Φ, Q, E, hE, w, h, np, ep⟩ => tD.seq hE w h ep fun d v F1 M1 H1 e1 w1 hE1 r1 q1 ep1 => ?_
  obtain ⟨hi, q⟩ := q1
  obtain ⟨a, dx, fs, rfl, hH, hl⟩ := isCls_ok w1 r1 hi
  exact ⟨a, dx, fs, rfl, hH, hl, toSp_run w1 (.cons r1 .nil) q.1 q.2 (np.mono e1) ep1⟩
/-! ### a property -/
structure PropOk (G : Gx) (c f : Str) (g : Addr) : Prop where
  cls : Cls G.K (G.ca c)
  prop : ∃ p, PropOf G.K (G.ca c) f p g
def dProp (c : Str) (n : Nat) (S : DSp) (to : DE) : DE := fun env M Q E => to env M (fun x M1 => (fldsOf [c] M1 x).isSome = true ∧ n = 1 ∧ S [x] M1 Q E00) E
theorem pd_prop {cl fl : Str} {o : Expr} {to : DE} (D' : Def G j f ps S) (hj : j + 1 ≤ k) (hc : PropOk G cl fl f) (ho : PD G k N sc o to) (hb : ∀ env, attributeBase o fl env (eval o env) = eval o env := by intro _; rfl) : PD G k N sc (.Attribute o fl pos) (dProp cl ps.length S to) := fun W X ok tk => by
  obtain ⟨fd, hbi, Fk, _⟩ := D'.ex
  obtain ⟨pa, hp⟩ := hc.prop
  have hg := ok.g
  subst hg
  refine PE.imp (pe_prop (dvs := []) (ds := []) (ho W X ok tk) hc.cls hp Fk (ok.room.mono hj) hbi .nil passL (hb X.env)) fun σ H Qh ⟨env, F, M, Φ, Q, E, hE, w, h, np, ep⟩ => tD.seq hE w h ep fun d v F1 M1 H1 e1 w1 hE1 r1 q1 ep1 => ?_
  obtain ⟨hi, hn, q⟩ := q1
  cases q2 : fldsOf [cl] M1 d with
  | none => rw [q2] at hi; cases hi
  | some z =>
    obtain ⟨a, c, dx, vs, rfl, hcs, hH, hl, rs⟩ := fldsOf_ok w1 r1 q2
    have ec : c = cl := by simpa using hcs
    subst ec
    exact ⟨a, dx, _, rfl, hH, F1, M1, Φ, [d], _, E00, w1, .cons r1 .nil, hn.symm, q, np.mono e1, EPo.none⟩
/-! ### C(..) -/
structure MakeOk (G : Gx) (c : Str) (f : Addr) : Prop where
  mkr : Mk G.K (G.ca c) f
  mg : G.mg c = some (.ref (G.ca c))
/-- a new instance, made by __init__, that from then on never changes | that goes on changing -/
def dMake (c : Str) (n : Nat) (S : DSp) (t : DA) : DE := fun env M Q E => t env M (fun ds M1 => ds.length + 1 = n ∧ ∀ a, M1 a = none → S (.cell a :: ds) (M1.put a (.ins c [] [])) (fun d M2 => d = .non ∧ ∃ xs, M2 a = some (.ins c (flds c) xs) ∧ Q (.obj c xs) (M2.del a)) E) E
def dMakeC (c : Str) (n : Nat) (S : DSp) (t : DA) : DE := fun env M Q E => t env M (fun ds M1 => ds.length + 1 = n ∧ ∀ a, M1 a = none → S (.cell a :: ds) (M1.put a (.ins c [] [])) (fun d M2 => d = .non ∧ Q (.cell a) M2) E) E
theorem Wd.made {cl : Str} {x dx : Addr} (w : Wd G F M Φ H) (hx : H x = none) (hd : H dx = none) (ne : dx ≠ x) : ∃ F', Ex F F' ∧ Wd G F' (M.put x (.ins cl [] [])) Φ (upd (upd H dx (.own x)) x (.ins (G.ca cl) dx [])) := by
  refine ⟨upd F dx (.own x), w.newEx hd, ?_⟩
  have w1 := w.new (o := .own x) hd
  exact w1.mnew (by rw [upd_ne (Ne.symm ne)]; exact hx) ⟨dx, [], upd_same, rfl, .nil⟩
theorem pd_make {cl : Str} (D' : Def G j f ps S) (hj : j + 1 ≤ k) (hc : MakeOk G cl f) (hg : glB sc cl = true) (ha : PDA G k N sc (e :: es) tr)
    (he : ∀ env, starEach (e :: es) env = (false, eval e env) :: starEach es env := by intro _; rfl) (hpl : ∀ env, (backTo pos (starEach es env)).any (·.1) = false := by intro _; rfl) : PD G k N sc (.Call (.Name cl p) (e :: es) [] pos) (dMake cl ps.length S tr) := fun W X ok tk => by
  obtain ⟨fd, hb, Fk, _⟩ := D'.ex
  obtain ⟨g1, g2⟩ := gl_of ok.scp hg
  have hgx := ok.g
  subst hgx
  refine PE.imp (pe_makeE hc.mkr Fk (ok.room.mono hj) g1 hc.mg hb (passAt tk) (ha W X ok tk) g2 (he X.env) (hpl X.env)) fun σ H Qh ⟨env, F, M, Φ, Q, E, hE, w, h, np, ep⟩ => ?_
  refine ⟨env, F, M, Φ, _, E, hE, w, h, fun ds vs F1 M1 H1 e1 w1 rs q x dx hx hd ne => ?_, ep⟩
  obtain ⟨F2, e2, w2⟩ := w1.made (cl := cl) hx hd ne
  refine ⟨F2, _, Φ, .cell x :: ds, _, E, w2, .cons (by rw [Rep]) (rs.mono e2), by rw [List.length_cons]; exact q.1, q.2 x (w1.freeM hx), fun d v F3 M3 H3 e3 w3 r3 q3 => ?_, ep.mono (e1.trans e2)⟩
  obtain ⟨rfl, xs, hM, q3⟩ := q3
  rw [Rep] at r3
  obtain ⟨hF, dx3, vs3, hH, hl, rs3⟩ := w3.m x _ hM
  have ex := w3.frzEx (o := .ins (Gx.ca ⟨X.prog, X.w, X.K, X.mg, X.base⟩ cl) dx3 ((flds cl).zip vs3)) hM
  exact ⟨r3, np _ _ _ _ _ ((e1.trans e2).trans (e3.trans ex)) (w3.frz hM hH) (by rw [Rep]; exact ⟨x, dx3, vs3, rfl, upd_same, hl, rs3.mono ex⟩) q3⟩
theorem pd_makeC {cl : Str} (D' : Def G j f ps S) (hj : j + 1 ≤ k) (hc : MakeOk G cl f) (hg : glB sc cl = true) (ha : PDA G k N sc (e :: es) tr)
    (he : ∀ env, starEach (e :: es) env = (false, eval e env) :: starEach es env := by intro _; rfl) (hpl : ∀ env, (backTo pos (starEach es env)).any (·.1) = false := by intro _; rfl) : PD G k N sc (.Call (.Name cl p) (e :: es) [] pos) (dMakeC cl ps.length S tr) := fun W X ok tk => by
  obtain ⟨fd, hb, Fk, _⟩ := D'.ex
  obtain ⟨g1, g2⟩ := gl_of ok.scp hg
  have hgx := ok.g
  subst hgx
  refine PE.imp (pe_makeE hc.mkr Fk (ok.room.mono hj) g1 hc.mg hb (passAt tk) (ha W X ok tk) g2 (he X.env) (hpl X.env)) fun σ H Qh ⟨env, F, M, Φ, Q, E, hE, w, h, np, ep⟩ => ?_
  refine ⟨env, F, M, Φ, _, E, hE, w, h, fun ds vs F1 M1 H1 e1 w1 rs q x dx hx hd ne => ?_, ep⟩
  obtain ⟨F2, e2, w2⟩ := w1.made (cl := cl) hx hd ne
  refine ⟨F2, _, Φ, .cell x :: ds, _, E, w2, .cons (by rw [Rep]) (rs.mono e2), by rw [List.length_cons]; exact q.1, q.2 x (w1.freeM hx), fun d v F3 M3 H3 e3 w3 r3 q3 => ?_, ep.mono (e1.trans e2)⟩
  obtain ⟨rfl, q3⟩ := q3
  rw [Rep] at r3
  exact ⟨r3, np _ _ _ _ _ ((e1.trans e2).trans e3) w3 (by rw [Rep]) q3⟩
theorem pd_makeC0 {cl : Str} (D' : Def G j f ps S) (hj : j + 1 ≤ k) (hc : MakeOk G cl f) (hg : glB sc cl = true) : PD G k N sc (.Call (.Name cl p) [] [] pos) (dMakeC cl ps.length S dNil) := fun W X ok tk => by
  obtain ⟨fd, hb, Fk, _⟩ := D'.ex
  obtain ⟨g1, g2⟩ := gl_of ok.scp hg
  have hgx := ok.g
  subst hgx
  refine PE.imp (pe_makeE0 hc.mkr Fk (ok.room.mono hj) g1 hc.mg hb (passAt tk) g2) fun σ H Qh ⟨env, F, M, Φ, Q, E, hE, w, h, np, ep⟩ => fun x dx hx hd ne => ?_
  obtain ⟨F2, e2, w2⟩ := w.made (cl := cl) hx hd ne
  refine ⟨F2, _, Φ, [.cell x], _, E, w2, .cons (by rw [Rep]) .nil, h.1, h.2 x (w.freeM hx), fun d v F3 M3 H3 e3 w3 r3 q3 => ?_, ep.mono e2⟩
  obtain ⟨rfl, q3⟩ := q3
  rw [Rep] at r3
  exact ⟨r3, np _ _ _ _ _ (e2.trans e3) w3 (by rw [Rep]) q3⟩
/-- one of two readings -/
theorem PE.or {X : Cx} {e : Expr} {t u : TE} (h : PE X e t) (h' : PE X e u) : PE X e (fun σ H Q => t σ H Q ∨ u σ H Q) := ⟨fun pins s σ H Q I q => q.elim (h.run pins s σ H Q I) (h'.run pins s σ H Q I)⟩
def dOrE (t u : DE) : DE := fun env M Q E => t env M Q E ∨ u env M Q E
theorem pd_orE {t u : DE} (h : PD G k N sc e t) (h' : PD G k N sc e u) : PD G k N sc e (dOrE t u) := fun W X ok tk => PE.imp (PE.or (h W X ok tk) (h' W X ok tk)) fun σ H Qh ⟨env, F, M, Φ, Q, E, hE, w, h, np, ep⟩ =>
  h.elim (fun q => .inl ⟨env, F, M, Φ, Q, E, hE, w, q, np, ep⟩) fun q => .inr ⟨env, F, M, Φ, Q, E, hE, w, q, np, ep⟩
end HD
/-! == item by item with either answer, where an item's == may run code of the text -/
namespace HD
open PySem PySem.SeqAt
open AutoSeq1 (wpAny_loadPart')
open MeetsSeq MeetsSeq2 MeetsSeq3 SeqRoads2

section
variable {P : Program} {w : World} {A : Around} {R : Result → Shared → Prop}
/-- the i-th turn of two lists of N items each answers t i -/
def TurnsB (P : Program) (w : World) (A : Around) (E : Value → Shared → Prop) (p q : Addr) (N : Nat) (t : Nat → Bool) (J : Nat → Shared → Prop) : Prop :=
  ∀ i s, J i s → ∃ (xs ys : Array Value) (n n2 : Nat), s.heap.get? p = some { cls := .type "list", data := .seq xs n } ∧ s.heap.get? q = some { cls := .type "list", data := .seq ys n2 } ∧ xs.size = N ∧ ys.size = N ∧
    ∀ (h1 : i < xs.size) (h2 : i < ys.size), (∀ j, j < i → t j = true) → wpAny (model P w) A.in1 (eqBool xs[i] ys[i]) (fun r s' => r = t i ∧ J (i + 1) s') E s
theorem all_of {N : Nat} {t : Nat → Bool} (h : ∀ j, j < N → t j = true) : (List.range N).all t = true := by
  rw [List.all_eq_true]; intro x hx; exact h x (List.mem_range.mp hx)
theorem all_not {N i : Nat} {t : Nat → Bool} (hi : i < N) (h : t i = false) : (List.range N).all t = false := by
  rw [List.all_eq_false]; exact ⟨i, List.mem_range.mpr hi, by rw [h]; exact Bool.false_ne_true⟩
theorem loopB (p q : Addr) (N : Nat) (t : Nat → Bool) (J : Nat → Shared → Prop) (hT : TurnsB P w A (fun e s' => R (.error e) s') p q N t J)
    (fin : ∀ i s, J i s → R (.ok (.ret (.bool ((List.range N).all t)))) s) (k : Nat) :
    ∀ i : Nat, N - i = k → i ≤ N → (∀ j, j < i → t j = true) → ∀ s, J i s →
      wpAny (model P w) A.in1 (Builtin.«list.__eq__.loop» ⟨[.ref p, .ref q, rawInt i, rawInt 2], []⟩) (GQ.FinOf P w A R) (fun e s' => R (.error e) s') s := by
  induction k with
  | zero =>
    intro i hk hi hp s h
    obtain ⟨xs, ys, n, n2, e1, e2, z1, z2, _⟩ := hT _ _ h
    have hR := fin i s h
    rw [all_of (N := N) (fun j hj => hp j (by omega))] at hR
    obtain ⟨hh, g, d, tk, os⟩ := s
    wp_walk using wpAny_loadPart' e1, wpAny_loadPart' e2
    have n1 : xs[((i : Nat) : Int).toNat]? = none := by simp; omega
    have n3 : ys[((i : Nat) : Int).toNat]? = none := by simp; omega
    rw [n1, n3]
    wp_walk using wpAny_loadPart' e1, wpAny_loadPart' e2
    show R (.ok (.ret (.bool (xs.size == ys.size)))) _
    rw [z1, z2]
    simpa using hR
  | succ k ih =>
    intro i hk hi hp s h
    obtain ⟨xs, ys, n, n2, e1, e2, z1, z2, turn⟩ := hT _ _ h
    have l1 : i < xs.size := by omega
    have l2 : i < ys.size := by omega
    have ht := turn l1 l2 hp
    obtain ⟨hh, g, d, tk, os⟩ := s
    wp_walk using wpAny_loadPart' e1, wpAny_loadPart' e2
    have n1 : xs[((i : Nat) : Int).toNat]? = some xs[i] := by simp [l1]
    have n3 : ys[((i : Nat) : Int).toNat]? = some ys[i] := by simp [l2]
    have hc : ((i : Int) + 1) = ((i + 1 : Nat) : Int) := by omega
    rw [n1, n3]
    refine wpAny_bind (wpAny_mono ht (fun r s2 h2 => ?_) fun _ _ x => x)
    obtain ⟨hr, h2⟩ := h2
    subst hr
    cases ht' : t i with
    | true =>
      have hrec := ih (i + 1) (by omega) (by omega) (fun j hj => by
        rcases Nat.lt_succ_iff_lt_or_eq.mp hj with z | z
        · exact hp j z
        · rw [z]; exact ht') s2 h2
      obtain ⟨hh2, g2, d2, tk2, os2⟩ := s2
      wp_walk
      rw [hc]
      exact ⟨plainId_quiet plain_eq_loop _, codeAny_builtin entry_eq_loop (by
        rw [Around.under_plainId plain_eq_loop _]
        exact hrec)⟩
    | false =>
      have hR := fin (i + 1) s2 h2
      rw [all_not (N := N) (by omega) ht'] at hR
      obtain ⟨xs', ys', m, m2, f1, f2, y1, y2, _⟩ := hT _ _ h2
      have k1 : xs'[((i : Nat) : Int).toNat]? = some (xs'[i]'(by omega)) := by simp
      have k2 : ys'[((i : Nat) : Int).toNat]? = some (ys'[i]'(by omega)) := by simp
      obtain ⟨hh2, g2, d2, tk2, os2⟩ := s2
      wp_walk using wpAny_loadPart' f1, wpAny_loadPart' f2
      rw [k1, k2]
      wp_walk
      simpa using hR
theorem listB (p q : Addr) (N : Nat) (t : Nat → Bool) (J : Nat → Shared → Prop) (hT : TurnsB P w A (fun e s' => R (.error e) s') p q N t J)
    (fin : ∀ i s, J i s → R (.ok (.ret (.bool ((List.range N).all t)))) s) {s : Shared} (h : J 0 s) :
    wpAny (model P w) A.in1 (Builtin.«list.__eq__» ⟨[.ref p, .ref q], []⟩) (GQ.FinOf P w A R) (fun e s' => R (.error e) s') s := by
  obtain ⟨xs, ys, n, n2, e1, e2, z1, z2, _⟩ := hT _ _ h
  have hrec := loopB (A := A) (R := R) p q N t J hT fin _ 0 rfl (Nat.zero_le _) (fun j hj => absurd hj (Nat.not_lt_zero j)) s h
  obtain ⟨hh, g, d, tk, os⟩ := s
  have f3 := AutoSeq1.sub_list_list
  have hz : ¬ (xs.size != ys.size) = true := by simp [z1, z2]
  wp_walk using wpAny_loadPart' e1, wpAny_loadPart' e2
  exact ⟨plainId_quiet plain_eq_loop _, codeAny_builtin entry_eq_loop (by
    rw [Around.under_plainId plain_eq_loop _]
    exact hrec)⟩
/-- lists of other lengths -/
theorem listLB (p q : Addr) (xs ys : Array Value) (n n2 : Nat) {s : Shared} (e1 : s.heap.get? p = some { cls := .type "list", data := .seq xs n }) (e2 : s.heap.get? q = some { cls := .type "list", data := .seq ys n2 }) (hz : xs.size ≠ ys.size)
    (fin : R (.ok (.ret (.bool false))) s) : wpAny (model P w) A.in1 (Builtin.«list.__eq__» ⟨[.ref p, .ref q], []⟩) (GQ.FinOf P w A R) (fun e s' => R (.error e) s') s := by
  obtain ⟨hh, g, d, tk, os⟩ := s
  have f3 := AutoSeq1.sub_list_list
  have hz : (xs.size != ys.size) = true := by simp [hz]
  wp_walk using wpAny_loadPart' e1, wpAny_loadPart' e2
  exact fin
theorem tupB (p q : Addr) (xs ys : Array Value) (n n2 : Nat) (dd dd2 : Option Addr) (sl sl2 : Array (Option Value)) (t : Nat → Bool) (J : Nat → Shared → Prop)
    (turn : ∀ i (h1 : i < xs.size) (h2 : i < ys.size) s, (∀ j, j < i → t j = true) → J i s → wpAny (model P w) A.in1 (eqBool xs[i] ys[i]) (fun r s' => r = t i ∧ J (i + 1) s') (fun e s' => R (.error e) s') s)
    (fin : ∀ i s, J i s → R (.ok (.ret (.bool ((List.range (min xs.size ys.size)).all t && xs.size == ys.size)))) s) {s : Shared} (e1 : s.heap.get? p = some { cls := .type "tuple", dict := dd, data := .seq xs n, slots := sl }) (e2 : s.heap.get? q = some { cls := .type "tuple", dict := dd2, data := .seq ys n2, slots := sl2 }) (h : J 0 s) :
    wpAny (model P w) A.in1 (Builtin.«tuple.__eq__» ⟨[.ref p, .ref q], []⟩) (GQ.FinOf P w A R) (fun e s' => R (.error e) s') s := by
  have f2 := AutoSeq1.sub_tuple_tuple
  have hZ : (xs.toList.zip ys.toList).length = min xs.size ys.size := by simp
  have h0 := h
  obtain ⟨hh, g, d, tk, os⟩ := s
  wp_walk using wpAny_loadPart' e1, wpAny_loadPart' e2, wpAny_forIn_list _ (fun rest b s' => b.1 = none ∧ ∃ i, rest = (xs.toList.zip ys.toList).drop i ∧ (∀ j, j < i → t j = true) ∧ J i s') _
  case turn =>
    rintro ⟨y, x⟩ rest b s' ⟨hb', i, hz, hp, hI⟩
    have hlt : i < (xs.toList.zip ys.toList).length := by
      rcases Nat.lt_or_ge i (xs.toList.zip ys.toList).length with h' | h'
      · exact h'
      · rw [List.drop_of_length_le h'] at hz; cases hz
    have hm : i < min xs.size ys.size := hZ ▸ hlt
    have h1 : i < xs.size := Nat.lt_of_lt_of_le hm (Nat.min_le_left _ _)
    have h2 : i < ys.size := Nat.lt_of_lt_of_le hm (Nat.min_le_right _ _)
    rw [List.drop_eq_getElem_cons hlt] at hz
    injection hz with hyx hrest
    have hy : y = xs[i] := by have z := congrArg Prod.fst hyx; simpa using z
    have hx : x = ys[i] := by have z := congrArg Prod.snd hyx; simpa using z
    subst hy hx
    refine wpAny_bind (wpAny_mono (turn i h1 h2 s' hp hI) (fun r s2 q2 => ?_) fun _ _ x => x)
    obtain ⟨hr, q2⟩ := q2
    subst hr
    cases ht' : t i with
    | true =>
      wp_walk
      exact ⟨rfl, i + 1, hrest, fun j hj => by
        rcases Nat.lt_succ_iff_lt_or_eq.mp hj with z | z
        · exact hp j z
        · rw [z]; exact ht', q2⟩
    | false =>
      have hR := fin (i + 1) s2 q2
      rw [all_not hm ht'] at hR
      wp_walk
      simpa using hR
  case fin =>
    rintro ⟨b1, b2⟩ s' ⟨hb', i, hz, hp, hI⟩
    simp only at hb'
    subst hb'
    have hge : min xs.size ys.size ≤ i := by
      rcases Nat.lt_or_ge i (xs.toList.zip ys.toList).length with h' | h'
      · rw [List.drop_eq_getElem_cons h'] at hz; cases hz
      · exact hZ ▸ h'
    have hR := fin i s' hI
    rw [all_of (N := min xs.size ys.size) (fun j hj => hp j (by omega))] at hR
    wp_walk
    simpa [Builtin.Tuple.tupleCompareSizes] using hR
  case h =>
    exact ⟨rfl, 0, rfl, fun j hj => absurd hj (Nat.not_lt_zero j), h0⟩
end
section
variable {P : Program} {w : World} {A : Around} {E : Value → Shared → Prop} {s : Shared}
theorem rcListB {p q : Addr} {N : Nat} {t : Nat → Bool} {Q : Value → Shared → Prop} (hu : A.units < cLine) (J : Nat → Shared → Prop) (hT : TurnsB P w A E p q N t J)
    (fin : ∀ i s, J i s → Q (.bool ((List.range N).all t)) s) (h : J 0 s) : wpAny (model P w) A (richCompare .Eq (.ref p) (.ref q)) Q E s := by
  obtain ⟨xs, ys, n, n2, e1, e2, _, _, _⟩ := hT _ _ h
  refine wpAny_richCompare_same_room (T := "list") (op := .Eq) ⟨_, e1, rfl⟩ ⟨_, e2, rfl⟩ F.slot_list_eq (GQ.call_here F.slot_list_eq ⟨_, e1, rfl⟩ F.entry_list_eq (F.args_list_eq_2 _ _) ?_) hu
  exact listB (R := wants (fun v s' => v ≠ .notImplemented ∧ Q v s') E) p q N t J hT (fun i s' z => ⟨(fun x => nomatch x), fin i s' z⟩) h
theorem rcListLB {p q : Addr} {xs ys : Array Value} {n n2 : Nat} {Q : Value → Shared → Prop} (hu : A.units < cLine) (e1 : s.heap.get? p = some { cls := .type "list", data := .seq xs n }) (e2 : s.heap.get? q = some { cls := .type "list", data := .seq ys n2 }) (hz : xs.size ≠ ys.size)
    (fin : Q (.bool false) s) : wpAny (model P w) A (richCompare .Eq (.ref p) (.ref q)) Q E s := by
  refine wpAny_richCompare_same_room (T := "list") (op := .Eq) ⟨_, e1, rfl⟩ ⟨_, e2, rfl⟩ F.slot_list_eq (GQ.call_here F.slot_list_eq ⟨_, e1, rfl⟩ F.entry_list_eq (F.args_list_eq_2 _ _) ?_) hu
  exact listLB (R := wants (fun v s' => v ≠ .notImplemented ∧ Q v s') E) p q xs ys n n2 e1 e2 hz ⟨(fun x => nomatch x), fin⟩
theorem rcTupB {p q : Addr} {xs ys : Array Value} {t : Nat → Bool} {Q : Value → Shared → Prop} (hu : A.units < cLine) (J : Nat → Shared → Prop) (e1 : s.heap.IsTuple p xs) (e2 : s.heap.IsTuple q ys)
    (turn : ∀ i (h1 : i < xs.size) (h2 : i < ys.size) s, (∀ j, j < i → t j = true) → J i s → wpAny (model P w) A.in1 (eqBool xs[i] ys[i]) (fun r s' => r = t i ∧ J (i + 1) s') E s)
    (fin : ∀ i s, J i s → Q (.bool ((List.range (min xs.size ys.size)).all t && xs.size == ys.size)) s) (h : J 0 s) : wpAny (model P w) A (richCompare .Eq (.ref p) (.ref q)) Q E s := by
  obtain ⟨⟨c1, dd, d1, sl⟩, o1, k1, n, m1⟩ := id e1
  obtain ⟨⟨c2, dd2, d2, sl2⟩, o2, k2, n2, m2⟩ := id e2
  simp only at k1 m1 k2 m2
  subst k1 m1 k2 m2
  refine wpAny_richCompare_same_room (T := "tuple") (op := .Eq) ⟨_, o1, rfl⟩ ⟨_, o2, rfl⟩ F.slot_tuple_eq (GQ.call_here F.slot_tuple_eq ⟨_, o1, rfl⟩ F.entry_tuple_eq (F.args_tuple_eq_2 _ _) ?_) hu
  exact tupB (R := wants (fun v s' => v ≠ .notImplemented ∧ Q v s') E) p q xs ys n n2 dd dd2 sl sl2 t J turn (fun i s' z => ⟨(fun x => nomatch x), fin i s' z⟩) o1 o2 h
end
end HD
/-! == over data with instances whose class has an own __eq__ -/
namespace HD
open PySem PySem.Spec L2
variable {G : Gx} {F F' H H' Φ : Hp} {σ : St} {M M' : MS} {k j : Nat} {f : Addr} {S : DSp}

/-- a class with its own __eq__, the def at f -/
structure EqCls (G : Gx) (j : Nat) (c : Str) (f : Addr) (S : DSp) : Prop where
  at_ : PySem.W.findIn G.K (.ref (G.ca c)) "__eq__" = some (some (.ref f))
  fn : PySem.W.isFn G.K (.ref f) = true
  df : Def G j f ["self", "other"] S
/-- what the answer of an own == is, with the state behind -/
def OwnP (G : Gx) (X : Cx) (pins : List (Addr × Obj)) (σ : St) (F Φ : Hp) (Q : Bool → MS → Prop) (r : Value) (s' : Shared) : Prop :=
  ∃ b H' F' M', r = .bool b ∧ Inv X pins σ H' s' ∧ Ex F F' ∧ Wd G F' M' Φ H' ∧ Q b M'
theorem own_call {X : Cx} {A : Around} {pins : List (Addr × Obj)} {s : Shared} {a : Addr} {v : Value} {x y : V} {d e : D} {Q : Bool → MS → Prop} {ps : List Str} (Df : Def G j f ps S) (hps : ps.length = 2) (hg : G = ⟨X.prog, X.w, X.K, X.mg, X.base⟩) (sb : Sub X j A)
    (I : Inv X pins σ H s) (rx : RelV x (.ref a)) (rv : RelV y v) (w : Wd G F M Φ H) (rd : Rep G F d x) (re : Rep G F e y) (hs : S [d, e] M (fun d' M' => ∃ b, d' = .bl b ∧ Q b M') E00) :
    wpAny (model X.prog X.w) A (call (.ref f) [.ref a, v]) (PySem.W.CmpBack (OwnP G X pins σ F Φ Q)) X.xe s := by
  subst hg
  obtain ⟨fd, hb, Fk, _⟩ := Df.ex
  have hsp : toSp ⟨X.prog, X.w, X.K, X.mg, X.base⟩ ps.length S [x, y] H (fun v H' => ∃ b F' M', v = .bl b ∧ Ex F F' ∧ Wd ⟨X.prog, X.w, X.K, X.mg, X.base⟩ F' M' Φ H' ∧ Q b M') E0 :=
    ⟨F, M, Φ, [d, e], _, E00, w, .cons rd (.cons re .nil), by rw [hps]; rfl, hs, fun d' v' F' M' H' ex w' r' q => by
      obtain ⟨b, rfl, q⟩ := q
      rw [Rep] at r'
      exact ⟨b, F', M', r', ex, w', q⟩, EPo.none⟩
  have hl := Fk.len _ _ _ _ hsp
  have e0 : Env0 X.prog X.w X.K X.mg X.base A X.stack s H := by
    have z := I.env0
    exact ⟨by rw [sb.fr]; exact z.frames, z.mod, z.bs, z.bsz, z.funs, z.frf, z.hok, z.bare⟩
  have r2 : Vals [x, y] [.ref a, v] := .cons rx (.cons rv .nil)
  refine wpAny_call (codeAny_mono (Fk.run A X.stack s H ⟨[.ref a, v], []⟩ [.ref a, v] [x, y] _ E0 sb.room e0 (by
    have z := hb s [.ref a, v] I.kIn (by simpa using hl)
    simpa using z) r2 hsp) fun r s' hq => ?_)
  cases r with
  | error u => exact passL pins σ H s u s' I hq
  | ok fl =>
    cases fl with
    | ret u =>
      obtain ⟨z, H', I', rz, b, F', M', ez, ex, w', q⟩ := I.after hq
      subst ez
      cases rz
      exact ⟨b, H', F', M', rfl, I', ex, w', q⟩
    | next => exact False.elim hq
    | brk => exact False.elim hq
    | cont => exact False.elim hq
/-- a == b, a an instance of such a class; the other's type is no subclass that goes first -/
theorem own_run {X : Cx} {A : Around} {pins : List (Addr × Obj)} {s : Shared} {a dx : Addr} {fs : List (Str × V)} {c : Str} {v tb : Value} {y : V} {d e : D} {Q : Bool → MS → Prop} (E : EqCls G j c f S) (hg : G = ⟨X.prog, X.w, X.K, X.mg, X.base⟩) (sb : Sub X j A)
    (I : Inv X pins σ H s) (ha : H a = some (.ins (G.ca c) dx fs)) (hty : PySem.W.Looks (model X.prog X.w) s.heap (typeOf v) tb) (hnf : PySem.W.notFirst X.K (G.ca c) tb = true)
    (rv : RelV y v) (w : Wd G F M Φ H) (rd : Rep G F d (.ref a)) (re : Rep G F e y) (hs : S [d, e] M (fun d' M' => ∃ b, d' = .bl b ∧ Q b M') E00) :
    wpAny (model X.prog X.w) A (richCompare .Eq (.ref a) v) (OwnP G X pins σ F Φ Q) X.xe s := by
  obtain ⟨mA, J, _⟩ := ins_get I.hok ha
  obtain ⟨od, J, _⟩ := J.look
  obtain ⟨m, hF⟩ := I.fr
  have hK : G.K = X.K := by rw [hg]
  exact PySem.W.cmp_K (op := .Eq) (tb := tb) sb.room.units0 hF I.ok.mod.kin J hty hnf (by rw [← hK]; exact E.at_) (by rw [← hK]; exact E.fn) (own_call E.df rfl hg sb I (x := .ref a) rfl rv w rd re hs)

/-! ### item by item -/
def Pw (R : D → D → Bool → Prop) : List D → List D → Bool → Prop
  | [], [], b => b = true
  | [], _ :: _, b => b = false
  | _ :: _, [], b => b = false
  | x :: xs, y :: ys, b => ∃ b1, R x y b1 ∧ if b1 = true then Pw R xs ys b else b = false
abbrev Ob := Nat → Str → List D → List D → Bool → Prop
def EqR (ob : Ob) (R : D → D → Bool → Prop) (n : Nat) (d e : D) (b : Bool) : Prop :=
  (∃ xs ys, d = .lst xs ∧ e = .lst ys ∧ Pw R xs ys b) ∨ (∃ xs ys, d = .tup xs ∧ e = .tup ys ∧ Pw R xs ys b) ∨ ∃ c xs ys, d = .obj c xs ∧ e = .obj c ys ∧ ob n c xs ys b
def EqT (ob : Ob) : Nat → D → D → Bool → Prop
  | 0, d, e, b => scalEq d e = some b
  | n + 1, d, e, b => scalEq d e = some b ∨ EqR ob (EqT ob n) (n + 1) d e b
/-- the answers are kept -/
structure ObOk (G : Gx) (ob : Ob) : Prop where
  run : ∀ n c xs ys b, ob n c xs ys b → ∃ f j S, j ≤ n ∧ EqCls G j c f S ∧ S [.obj c xs, .obj c ys] (fun _ => none) (fun d _ => d = .bl b) E00
  same : ∀ n c xs ys b, ob n c xs ys b → ∀ (X : Cx) pins σ H s F vs, X.K = G.K → Inv X pins σ H s → Ex F H → Reps G F xs vs → Reps G F ys vs → b = true
theorem scal_same {d e : D} {v : V} {b : Bool} (hd : Rep G F d v) (he : Rep G F e v) (h : scalEq d e = some b) : b = true := by
  obtain ⟨_, rfl⟩ := scalEq_ok hd he h
  exact decide_eq_true rfl
theorem pw_same {R : D → D → Bool → Prop} (hR : ∀ d e b v, R d e b → Rep G F d v → Rep G F e v → b = true) : ∀ {xs ys : List D} {vs : List V} {b : Bool}, Pw R xs ys b → Reps G F xs vs → Reps G F ys vs → b = true
  | [], [], _, _, h, _, _ => h
  | [], _ :: _, _, _, h, r, q => by
    rw [Reps] at r; subst r
    have z := q.len; simp at z
  | _ :: _, [], _, _, h, r, q => by
    rw [Reps] at q; subst q
    have z := r.len; simp at z
  | x :: xs, y :: ys, vs, b, h, r, q => by
    rw [Reps] at r q
    obtain ⟨v, us, rfl, r1, r2⟩ := r
    obtain ⟨v', us', e, q1, q2⟩ := q
    cases e
    obtain ⟨b1, h1, h2⟩ := h
    have := hR _ _ _ _ h1 r1 q1
    subst this
    rw [if_pos rfl] at h2
    exact pw_same hR h2 r2 q2
theorem eqR_same {ob : Ob} {R : D → D → Bool → Prop} {X : Cx} {pins : List (Addr × Obj)} {s : Shared} (O : ObOk G ob) (hg : X.K = G.K) (I : Inv X pins σ H s) (ex : Ex F H) (hR : ∀ d e b v, R d e b → Rep G F d v → Rep G F e v → b = true) {n : Nat} {d e : D} {b : Bool} {v : V}
    (h : EqR ob R n d e b) (hd : Rep G F d v) (he : Rep G F e v) : b = true := by
  rcases h with ⟨xs, ys, rfl, rfl, h⟩ | ⟨xs, ys, rfl, rfl, h⟩ | ⟨c, xs, ys, rfl, rfl, h⟩
  · rw [Rep] at hd he
    obtain ⟨a, vs, rfl, h1, h2⟩ := hd
    obtain ⟨a', vs', e1, h3, h4⟩ := he
    cases e1
    rw [h1] at h3; cases h3
    exact pw_same hR h h2 h4
  · rw [Rep] at hd he
    obtain ⟨a, vs, rfl, h1, h2⟩ := hd
    obtain ⟨a', vs', e1, h3, h4⟩ := he
    cases e1
    rw [← hg] at h1 h3
    have := I.tuple_inj (ex_t ex h1) (ex_t ex h3)
    subst this
    exact pw_same hR h h2 h4
  · rw [Rep] at hd he
    obtain ⟨a, dx, vs, rfl, h1, h5, h2⟩ := hd
    obtain ⟨a', dx', vs', e1, h3, h6, h4⟩ := he
    cases e1
    rw [h1] at h3
    have l1 := h2.len
    have l2 := h4.len
    have : vs = vs' := by
      have z : (flds c).zip vs = (flds c).zip vs' := by
        have := Option.some.inj h3
        injection this
      have z2 := congrArg (List.map Prod.snd) z
      rw [List.map_snd_zip (by omega), List.map_snd_zip (by omega)] at z2
      exact z2
    subst this
    exact O.same n c xs ys b h X pins σ H s F vs hg I ex h2 h4
theorem eqT_same {ob : Ob} {X : Cx} {pins : List (Addr × Obj)} {s : Shared} (O : ObOk G ob) (hg : X.K = G.K) (I : Inv X pins σ H s) (ex : Ex F H) : ∀ n d e b v, EqT ob n d e b → Rep G F d v → Rep G F e v → b = true
  | 0, d, e, b, v, h, hd, he => scal_same hd he h
  | n + 1, d, e, b, v, h, hd, he => by
    rcases h with h | h
    · exact scal_same hd he h
    · exact eqR_same O hg I ex (eqT_same O hg I ex n) h hd he

/-! ### running it -/
def AfterB (X : Cx) (pins : List (Addr × Obj)) (σ : St) (H : Hp) (s' : Shared) : Prop := ∃ H', Inv X pins σ H' s' ∧ Ex H H'
def EqRun (G : Gx) (n : Nat) (d e : D) (b : Bool) : Prop :=
  ∀ (X : Cx) (A : Around) (pins : List (Addr × Obj)) (s : Shared) (σ : St) (H F : Hp) (x y : V) (u v : Value), G = ⟨X.prog, X.w, X.K, X.mg, X.base⟩ → Sub X n A → Inv X pins σ H s → RelV x u → RelV y v → Ex F H → Rep G F d x → Rep G F e y →
    wpAny (model X.prog X.w) A (eqBool u v) (fun r s' => r = b ∧ AfterB X pins σ H s') X.xe s
def RcRun (G : Gx) (n : Nat) (d e : D) (b : Bool) : Prop :=
  ∀ (X : Cx) (A : Around) (pins : List (Addr × Obj)) (s : Shared) (σ : St) (H F : Hp) (x y : V) (u v : Value), G = ⟨X.prog, X.w, X.K, X.mg, X.base⟩ → Sub X n A → Inv X pins σ H s → RelV x u → RelV y v → Ex F H → Rep G F d x → Rep G F e y →
    wpAny (model X.prog X.w) A (richCompare .Eq u v) (fun r s' => r = .bool b ∧ AfterB X pins σ H s') X.xe s
/-- the b's of the items -/
theorem pw_tells {R : D → D → Bool → Prop} : ∀ {xs ys : List D} {b : Bool}, Pw R xs ys b → ∃ t : Nat → Bool, ((∀ i x y, xs[i]? = some x → ys[i]? = some y → (∀ j, j < i → t j = true) → R x y (t i)) ∧ b = ((List.range (min xs.length ys.length)).all t && xs.length == ys.length))
  | [], [], b, h => ⟨fun _ => true, fun i x y e => by simp at e, by rw [h]; rfl⟩
  | [], y :: ys, b, h => ⟨fun _ => true, fun i x y e => by simp at e, by rw [h]; simp⟩
  | x :: xs, [], b, h => ⟨fun _ => true, fun i x y _ e => by simp at e, by rw [h]; simp⟩
  | x :: xs, y :: ys, b, h => by
    obtain ⟨b1, h1, h2⟩ := h
    cases b1 with
    | false =>
      rw [if_neg Bool.false_ne_true] at h2
      refine ⟨fun _ => false, fun i u v e1 e2 hp => ?_, ?_⟩
      · cases i with
        | zero => simp at e1 e2; subst e1; subst e2; exact h1
        | succ i => exact absurd (hp 0 (by omega)) Bool.false_ne_true
      · rw [h2]
        symm
        rw [Bool.and_eq_false_iff]
        exact .inl (all_not (i := 0) (by simp) rfl)
    | true =>
      rw [if_pos rfl] at h2
      obtain ⟨t, ht, hb⟩ := pw_tells h2
      refine ⟨fun i => match i with | 0 => true | i + 1 => t i, fun i u v e1 e2 hp => ?_, ?_⟩
      · cases i with
        | zero => simp at e1 e2; subst e1; subst e2; exact h1
        | succ i => exact ht i u v (by simpa using e1) (by simpa using e2) fun j hj => hp (j + 1) (by omega)
      · rw [hb, List.length_cons, List.length_cons, Nat.succ_min_succ]
        congr 1
        · rw [List.range_succ_eq_map, List.all_cons, List.all_map]; rfl
        · simp
/-- the i-th turn -/
theorem turnB {R : D → D → Bool → Prop} {n : Nat} (hR : ∀ d e b, R d e b → EqRun G n d e b) {X : Cx} {A : Around} {pins : List (Addr × Obj)} (hg : G = ⟨X.prog, X.w, X.K, X.mg, X.base⟩) (sb : Sub X (n + 1) A) (ex : Ex F H) {xs ys : List D} {t : Nat → Bool}
    (ht : ∀ i x y, xs[i]? = some x → ys[i]? = some y → (∀ j, j < i → t j = true) → R x y (t i)) {vs ws : List V} {its its2 : List Value} (rx : Reps G F xs vs) (ry : Reps G F ys ws) (r : Vals vs its) (r2 : Vals ws its2) (i : Nat) (hp : ∀ j, j < i → t j = true) (h1 : i < its.toArray.size) (h2 : i < its2.toArray.size) (s' : Shared) (l : AfterB X pins σ H s') :
    wpAny (model X.prog X.w) A.in1 (eqBool its.toArray[i] its2.toArray[i]) (fun r s2 => r = t i ∧ AfterB X pins σ H s2) X.xe s' := by
  obtain ⟨H1, I1, e1⟩ := l
  have z1 : i < its.length := by simpa using h1
  have z2 : i < its2.length := by simpa using h2
  have lx := rx.len
  have ly := ry.len
  have lr := r.length
  have lr2 := r2.length
  obtain ⟨v, hv, rv⟩ := rx.get (List.getElem?_eq_getElem (show i < xs.length by omega))
  obtain ⟨u, hu, ru⟩ := ry.get (List.getElem?_eq_getElem (show i < ys.length by omega))
  obtain ⟨a, ha, ra⟩ := r.get hv
  obtain ⟨b, hb, rb⟩ := r2.get hu
  have ea : its.toArray[i] = a := by
    have q : its[i] = a := Option.some.inj ((List.getElem?_eq_getElem z1).symm.trans ha)
    simpa using q
  have eb : its2.toArray[i] = b := by
    have q : its2[i] = b := Option.some.inj ((List.getElem?_eq_getElem z2).symm.trans hb)
    simpa using q
  rw [ea, eb]
  refine wpAny_mono (hR _ _ _ (ht i _ _ (List.getElem?_eq_getElem (show i < xs.length by omega)) (List.getElem?_eq_getElem (show i < ys.length by omega)) hp) X A.in1 pins s' σ H1 F v u a b hg sb.in1 I1 ra rb (ex.trans e1) rv ru) (fun q s2 z => ?_) fun _ _ x => x
  obtain ⟨hq, H2, I2, e2⟩ := z
  exact ⟨hq, H2, I2, e1.trans e2⟩
theorem all_cut {t : Nat → Bool} {x y : Nat} (h : x = y) : (List.range (min x y)).all t = (List.range x).all t := by
  subst h; rw [Nat.min_self]
theorem AfterB.refl {X : Cx} {pins : List (Addr × Obj)} {s : Shared} (I : Inv X pins σ H s) : AfterB X pins σ H s := ⟨H, I, Ex.refl H⟩
theorem rc_lst {R : D → D → Bool → Prop} {n : Nat} (hR : ∀ d e b, R d e b → EqRun G n d e b) {xs ys : List D} {b : Bool} (h : Pw R xs ys b) : RcRun G (n + 1) (.lst xs) (.lst ys) b := by
  intro X A pins s σ H F x y u v hg sb I rx ry ex hd he
  rw [Rep] at hd he
  obtain ⟨p, vs, rfl, h1, h2⟩ := hd
  obtain ⟨q, ws, rfl, h3, h4⟩ := he
  cases rx
  cases ry
  obtain ⟨t, ht, hb⟩ := pw_tells h
  have lx := h2.len
  have ly := h4.len
  obtain ⟨z, its, m, r, e1⟩ := I.hok p _ (ex _ _ h1)
  obtain ⟨z', its', m', r', e2⟩ := I.hok q _ (ex _ _ h3)
  have lr := r.length
  have lr' := r'.length
  by_cases hl : xs.length = ys.length
  · have T : TurnsB X.prog X.w A X.xe p q xs.length t (fun _ s' => AfterB X pins σ H s') := by
      intro i s' J
      obtain ⟨H1, I1, x1⟩ := id J
      obtain ⟨z, its, m, r, e1⟩ := I1.hok p _ (x1 _ _ (ex _ _ h1))
      obtain ⟨z', its', m', r', e2⟩ := I1.hok q _ (x1 _ _ (ex _ _ h3))
      have lr := r.length
      have lr' := r'.length
      refine ⟨its.toArray, its'.toArray, m, m', e1, e2, by rw [List.size_toArray]; omega, by rw [List.size_toArray]; omega, fun l1 l2 hp => ?_⟩
      exact turnB hR hg sb ex ht h2 h4 r r' i hp l1 l2 s' J
    refine rcListB (N := xs.length) (t := t) sb.room.units0 (fun _ s' => AfterB X pins σ H s') T (fun i s' J => ⟨?_, J⟩) (AfterB.refl I)
    rw [hb, all_cut hl, beq_iff_eq.mpr hl, Bool.and_true]
  · have : b = false := by rw [hb, beq_eq_false_iff_ne.mpr hl, Bool.and_false]
    subst this
    exact rcListLB sb.room.units0 e1 e2 (by rw [List.size_toArray, List.size_toArray]; omega) ⟨rfl, AfterB.refl I⟩
theorem rc_tup {R : D → D → Bool → Prop} {n : Nat} (hR : ∀ d e b, R d e b → EqRun G n d e b) {xs ys : List D} {b : Bool} (h : Pw R xs ys b) : RcRun G (n + 1) (.tup xs) (.tup ys) b := by
  intro X A pins s σ H F x y u v hg sb I rx ry ex hd he
  rw [Rep] at hd he
  obtain ⟨p, vs, rfl, h1, h2⟩ := hd
  obtain ⟨q, ws, rfl, h3, h4⟩ := he
  cases rx
  cases ry
  obtain ⟨t, ht, hb⟩ := pw_tells h
  have lx := h2.len
  have ly := h4.len
  have hK : G.K = X.K := by rw [hg]
  rw [hK] at h1 h3
  obtain ⟨its, r, e1, z⟩ := I.tuple (ex_t ex h1)
  obtain ⟨its', r', e2, z'⟩ := I.tuple (ex_t ex h3)
  have lr := r.length
  have lr' := r'.length
  refine rcTupB (t := t) sb.room.units0 (fun _ s' => AfterB X pins σ H s') e1 e2 (fun i l1 l2 s' hp J => turnB hR hg sb ex ht h2 h4 r r' i hp l1 l2 s' J) (fun i s' J => ⟨?_, J⟩) (AfterB.refl I)
  rw [hb, List.size_toArray, List.size_toArray, ← lr, ← lr', ← lx, ← ly]
/-- the frame of a call inside a builtin: nothing that was laid changes -/
def restΦ (F H : Hp) : Hp := fun a => match F a with
  | none => H a
  | some _ => none
theorem Wd.all (ex : Ex F H) : Wd G F (fun _ => none) (restΦ F H) H :=
  ⟨ex, fun _ _ h => (by cases h), fun a o h => by
    unfold restΦ at h
    split at h
    · rename_i q; exact ⟨h, q, rfl⟩
    · cases h⟩
theorem Wd.back (w : Wd G F' M (restΦ F H) H') (e : Ex F F') (ex : Ex F H) : Ex H H' := fun a o h => by
  cases q : F a with
  | none => exact (w.φ a o (by unfold restΦ; rw [q]; exact h)).1
  | some u =>
    have : u = o := Option.some.inj ((ex a u q).symm.trans h)
    subst this
    exact w.f a u (e a u q)
theorem rc_own {ob : Ob} (O : ObOk G ob) {n : Nat} {c : Str} {xs ys : List D} {b : Bool} (h : ob n c xs ys b) : RcRun G n (.obj c xs) (.obj c ys) b := by
  intro X A pins s σ H F x y u v hg sb I rx ry ex hd he
  obtain ⟨f, j, S, hj, E, hs⟩ := O.run n c xs ys b h
  have hd0 := hd
  have he0 := he
  rw [Rep] at hd he
  obtain ⟨p, dx, vs, rfl, h1, h5, h2⟩ := hd
  obtain ⟨q, dy, ws, rfl, h3, h6, h4⟩ := he
  cases rx
  cases ry
  obtain ⟨mA, J, _⟩ := ins_get I.hok (ex _ _ h3)
  obtain ⟨od, J, _⟩ := J.look
  refine wpAny_mono (own_run (y := .ref q) (Q := fun r _ => r = b) E hg (sb.mono hj) I (ex _ _ h1) J.type (by simp [PySem.W.notFirst]) rfl (Wd.all ex) hd0 he0 (by
    have : (fun (d : D) (M' : MS) => ∃ r, d = .bl r ∧ r = b) = (fun (d : D) (M' : MS) => d = .bl b) := by
      funext d M'; exact propext ⟨fun ⟨r, h1, h2⟩ => h2 ▸ h1, fun h => ⟨b, h, rfl⟩⟩
    rw [this]; exact hs)) (fun r s' z => ?_) fun _ _ z => z
  obtain ⟨b', H', F', M', rfl, I', x', w', rfl⟩ := z
  exact ⟨rfl, H', I', w'.back x' ex⟩
theorem rc_all {ob : Ob} (O : ObOk G ob) {R : D → D → Bool → Prop} {n : Nat} (hR : ∀ d e b, R d e b → EqRun G n d e b) {d e : D} {b : Bool} (h : EqR ob R (n + 1) d e b) : RcRun G (n + 1) d e b := by
  rcases h with ⟨xs, ys, rfl, rfl, h⟩ | ⟨xs, ys, rfl, rfl, h⟩ | ⟨c, xs, ys, rfl, rfl, h⟩
  · exact rc_lst hR h
  · exact rc_tup hR h
  · exact rc_own O h
theorem scal_run {n : Nat} {d e : D} {b : Bool} (h : scalEq d e = some b) : EqRun G n d e b := by
  intro X A pins s σ H F x y u v hg sb I rx ry ex hd he
  obtain ⟨h1, rfl⟩ := scalEq_ok hd he h
  have fx : flatV x = true ∧ flatV y = true ∧ eqV x y = decide (x = y) := by
    cases d <;> cases e <;> simp only [scalEq] at h <;> first
      | (cases h; done)
      | (simp only [Rep] at hd he; subst hd he; refine ⟨rfl, rfl, ?_⟩; simp [eqV]; done)
      | (simp only [Rep] at hd he; subst hd he; refine ⟨rfl, rfl, ?_⟩; rw [Bool.eq_iff_iff]; simp [eqV])
  have q := eqAt_V (A := A) (s := s) rx ry fx.1 fx.2.1
  rw [fx.2.2] at q
  exact q X.prog X.w X.xe _ ⟨rfl, AfterB.refl I⟩
theorem eqR_ref {ob : Ob} {R : D → D → Bool → Prop} {n : Nat} {d e : D} {b : Bool} {x y : V} (h : EqR ob R n d e b) (hd : Rep G F d x) (he : Rep G F e y) : ∃ p q, x = .ref p ∧ y = .ref q := by
  rcases h with ⟨xs, ys, rfl, rfl, h⟩ | ⟨xs, ys, rfl, rfl, h⟩ | ⟨c, xs, ys, rfl, rfl, h⟩
  · rw [Rep] at hd he; obtain ⟨p, _, rfl, _⟩ := hd; obtain ⟨q, _, rfl, _⟩ := he; exact ⟨p, q, rfl, rfl⟩
  · rw [Rep] at hd he; obtain ⟨p, _, rfl, _⟩ := hd; obtain ⟨q, _, rfl, _⟩ := he; exact ⟨p, q, rfl, rfl⟩
  · rw [Rep] at hd he; obtain ⟨p, _, _, rfl, _⟩ := hd; obtain ⟨q, _, _, rfl, _⟩ := he; exact ⟨p, q, rfl, rfl⟩
theorem eqT_run {ob : Ob} (O : ObOk G ob) : ∀ n d e b, EqT ob n d e b → EqRun G n d e b
  | 0, d, e, b, h => scal_run h
  | n + 1, d, e, b, h => by
    rcases h with h | h
    · exact scal_run h
    · intro X A pins s σ H F x y u v hg sb I rx ry ex hd he
      obtain ⟨p, q, rfl, rfl⟩ := eqR_ref h hd he
      cases rx
      cases ry
      by_cases hpq : p = q
      · subst hpq
        have hb := eqR_same O (by rw [hg]) I ex (eqT_same O (by rw [hg]) I ex n) h hd he
        subst hb
        exact SeqAt.EqAt.same (A := A) (s := s) (.ref p) X.prog X.w X.xe _ ⟨rfl, AfterB.refl I⟩
      · refine GQ.eqBool_refG hpq (wpAny_mono (rc_all O (eqT_run O n) h X A pins s σ H F (.ref p) (.ref q) _ _ hg sb I rfl rfl ex hd he) (fun r s' z => ?_) fun _ _ z => z)
        exact ⟨b, z.1, rfl, z.2⟩
/-- == over data, either answer -/
def rEqX (ob : Ob) (k : Nat) : RD := fun x y M Q => ∃ n b, n ≤ k ∧ EqT ob n x y b ∧ Q (.bl b) M
theorem op_eqX {ob : Ob} (O : ObOk G ob) {X : Cx} (hg : G = ⟨X.prog, X.w, X.K, X.mg, X.base⟩) (hr : Room k X.A) : OpR X (compareOp .Eq) (fun x y H Qh => ∃ d e F M Φ Q, Wd G F M Φ H ∧ Rep G F d x ∧ Rep G F e y ∧ NP G F Φ Q Qh ∧ ∃ n b, n + 1 ≤ k ∧ EqR ob (EqT ob n) (n + 1) d e b ∧ Q (.bl b) M) := by
  intro pins s σ H x y v u Qh I rx ry ⟨d, e, F, M, Φ, Q, w, hd, he, np, n, b, hn, h, q⟩
  show wpAny (model X.prog X.w) X.A (richCompare .Eq v u) (EP X pins σ Qh) X.xe s
  refine wpAny_mono (rc_all O (eqT_run O n) h X X.A pins s σ H F x y v u hg ⟨hr.mono hn, rfl⟩ I rx ry w.f hd he) (fun r s' z => ?_) fun _ _ z => z
  obtain ⟨rfl, H', I', x'⟩ := z
  exact ⟨.bl b, H', I', rfl, np (.bl b) (.bl b) F M H' (Ex.refl F) (w.grow x') (by rw [Rep]) q⟩
theorem od_eqX {ob : Ob} (O : ObOk G ob) : OpD G k (compareOp .Eq) (rEqX ob k) := fun X hg hr hc => ⟨_, op_eq.or (op_eqX O hg hr), fun x y d e F M Φ H Q Qh w hx hy h np => by
  obtain ⟨n, b, hn, h, q⟩ := h
  have one : scalEq d e = some b → rEq x y H Qh := fun h => by
    obtain ⟨h2, rfl⟩ := scalEq_ok hx hy h
    exact ⟨h2, np.ret w (by rw [Rep]) q⟩
  cases n with
  | zero => exact .inl (one h)
  | succ n =>
    rcases h with h | h
    · exact .inl (one h)
    · exact .inr ⟨d, e, F, M, Φ, Q, w, hx, hy, np, n, b, hn, h, q⟩⟩
/-- no class has one -/
def ob0 : Ob := fun _ _ _ _ _ => False
theorem ob0_ok : ObOk G ob0 := ⟨fun _ _ _ _ _ h => h.elim, fun _ _ _ _ _ h => h.elim⟩
end HD
/-! types, isinstance; == and != of instances by their own __eq__ -/
namespace HD
open PySem PySem.Spec L2
variable {G : Gx} {F F' H H' Φ : Hp} {σ : St} {M M' : MS} {k j : Nat} {f : Addr} {S : DSp}

structure InsTy (G : Gx) (c : Str) : Prop where
  cls : Cls G.K (G.ca c)
  ha : PySem.W.findIn G.K (.ref (G.ca c)) "__class__" = some (some (.builtin "object.__class__"))
  hm : PySem.W.mroIn G.K (G.ca c) (.type "object") = some true
inductive Ty0 where
  | b (T : String)
  | c (x : Str)
def Ty0.val (G : Gx) : Ty0 → Value
  | .b T => .type T
  | .c x => .ref (G.ca x)
def tyD (M : MS) : D → Option Ty0
  | .non => some (.b "NoneType")
  | .bl _ => some (.b "bool")
  | .int _ => some (.b "int")
  | .str _ => some (.b "str")
  | .lst _ => some (.b "list")
  | .ro _ => some (.b "list")
  | .tup _ => some (.b "tuple")
  | .dic _ _ => some (.b "dict")
  | .obj c _ => some (.c c)
  | .cell a => match M a with
    | some (.ins c _ _) => some (.c c)
    | some (.lst _) => some (.b "list")
    | some (.dic _ _) => some (.b "dict")
    | none => none
def baseTys : List String := ["NoneType", "bool", "int", "str", "list", "tuple", "dict"]
/-- the classes of a text that a law asks for -/
structure Tys (G : Gx) (cs : List Str) (sub : Str → Str → Bool) : Prop where
  hn : PySem.W.specialIn G.K (.builtin "object.__class__") "__get__" = some (some (.builtin "getset_descriptor.__get__"))
  htk : PySem.W.takesIn G.K (.builtin "object.__class__") = some true
  ins : ∀ c, cs.contains c = true → InsTy G c
  sub : ∀ c d, cs.contains c = true → cs.contains d = true → PySem.W.kitOne G.K (.ref (G.ca d)) (.ref (G.ca c)) = some (sub d c) ∧ PySem.W.subIn G.K (.ref (G.ca d)) (.ref (G.ca c)) = some (sub d c)
  bas : ∀ c T, cs.contains c = true → baseTys.contains T = true → PySem.W.kitOne G.K (.type T) (.ref (G.ca c)) = some false ∧ PySem.W.subIn G.K (.type T) (.ref (G.ca c)) = some false
def okTy (cs : List Str) : Ty0 → Bool
  | .b T => baseTys.contains T
  | .c x => cs.contains x
def isTy (sub : Str → Str → Bool) (c : Str) : Ty0 → Bool
  | .b _ => false
  | .c x => sub x c
variable {cs : List Str} {sub : Str → Str → Bool}
theorem Tys.kit (T : Tys G cs sub) {c : Str} {t : Ty0} (hc : cs.contains c = true) (ht : okTy cs t = true) : PySem.W.kitOne G.K (t.val G) (.ref (G.ca c)) = some (isTy sub c t) := by
  cases t with
  | b n => exact (T.bas c n hc ht).1
  | c x => exact (T.sub c x hc ht).1
theorem Tys.subI (T : Tys G cs sub) {c : Str} {t : Ty0} (hc : cs.contains c = true) (ht : okTy cs t = true) : PySem.W.subIn G.K (t.val G) (.ref (G.ca c)) = some (isTy sub c t) := by
  cases t with
  | b n => exact (T.bas c n hc ht).2
  | c x => exact (T.sub c x hc ht).2
theorem ty_rd {a : Addr} {vs : List V} (h : Rd H a (.tup vs)) : TyX G.K H (.ref a) (.type "tuple") := by
  rcases h with h | ⟨o, h⟩
  · exact .base (.tup h)
  · exact .fTuple h
theorem ty_ok (T : Tys G cs sub) {d : D} {x : V} {t : Ty0} (w : Wd G F M Φ H) (r : Rep G F d x) (h : tyD M d = some t) (ht : okTy cs t = true) : TyX G.K H x (t.val G) := by
  have own : ∀ (c : Str) (a dx : Addr) (fs : List (Str × V)), H a = some (.ins (G.ca c) dx fs) → cs.contains c = true → TyX G.K H (.ref a) (.ref (G.ca c)) := fun c a dx fs e hc =>
    .base (.ins e (T.ins c hc).cls (T.ins c hc).ha T.hn T.htk (T.ins c hc).hm)
  cases d with
  | non => rw [Rep] at r; subst r; cases h; exact .base .non
  | bl b => rw [Rep] at r; subst r; cases h; exact .base (.bl b)
  | int b => rw [Rep] at r; subst r; cases h; exact .base (.int b)
  | str b => rw [Rep] at r; subst r; cases h; exact .base (.str b)
  | lst ds => rw [Rep] at r; obtain ⟨a, vs, rfl, h1, h2⟩ := r; cases h; exact .base (.lst (w.f _ _ h1))
  | ro ds =>
    rw [Rep] at r; obtain ⟨a, vs, rfl, h1, h2⟩ := r; cases h
    rcases ex_l w.f h1 with h1 | ⟨o, its, n, hk, hc, _⟩
    · rcases h1 with h1 | ⟨o, h1⟩
      · exact .base (.lst h1)
      · exact .base (.frz h1)
    · exact .kList hk hc
  | tup ds =>
    rw [Rep] at r; obtain ⟨a, vs, rfl, h1, h2⟩ := r; cases h
    rcases ex_t w.f h1 with h1 | ⟨o, its, n, hk, hc, _⟩
    · exact ty_rd h1
    · exact .kTuple hk hc
  | dic ks ds => rw [Rep] at r; obtain ⟨a, o, vs, rfl, h1, h2⟩ := r; cases h; exact .fDict (w.f _ _ h1)
  | obj c ds => rw [Rep] at r; obtain ⟨a, dx, vs, rfl, h1, h2⟩ := r; cases h; exact own c a dx _ (w.f _ _ h1) ht
  | cell a =>
    rw [Rep] at r; subst r
    unfold tyD at h
    simp only at h
    split at h
    · rename_i c ns ds q
      obtain ⟨_, dx, vs, h1, h2, h3⟩ := w.m a _ q
      cases h; exact own c a dx _ h1 ht
    · rename_i ds q
      obtain ⟨_, vs, h1, h2⟩ := w.m a _ q
      cases h; exact .base (.lst h1)
    · rename_i ks ds q
      obtain ⟨_, vs, h1, h2, h3⟩ := w.m a _ q
      cases h; exact .base (.dK h1)
    · cases h
theorem ty_looks (T : Tys G cs sub) {X : Cx} {pins : List (Addr × Obj)} {s : Shared} {d : D} {x : V} {u : Value} {t : Ty0} (hg : X.K = G.K) (I : Inv X pins σ H s) (rx : RelV x u) (w : Wd G F M Φ H) (r : Rep G F d x) (h : tyD M d = some t) (ht : okTy cs t = true) :
    PySem.W.Looks (model X.prog X.w) s.heap (typeOf u) (t.val G) := by
  obtain ⟨P, kx, hp, _⟩ := kit_of I rx (by rw [hg]; exact ty_ok T w r h ht)
  exact kx.ty _ _ I.kIn hp

/-! ### isinstance(x, C) -/
def rIsiD (cs : List Str) (sub : Str → Str → Bool) (c : Str) (a : Addr) : List D → MS → QD → Prop := fun ds M Q => ∃ x t, ds = [x, .cell a] ∧ tyD M x = some t ∧ okTy cs t = true ∧ Q (.bl (isTy sub c t)) M
theorem cd_isi (T : Tys G cs sub) {c : Str} (hc : cs.contains c = true) : CallD G k (.builtin "isinstance") (rIsiD cs sub c (G.ca c)) := fun X hg hr hcalm => ⟨_, call_isi, fun xs ds F M Φ H Q Qh w rs h np => by
  obtain ⟨x, t, rfl, h1, h2, q⟩ := h
  rw [Reps] at rs
  obtain ⟨v, us, rfl, r1, rs⟩ := rs
  obtain ⟨v2, rfl, r2⟩ := reps1 rs
  rw [Rep] at r2; subst r2
  have hK : X.K = G.K := by rw [hg]
  refine ⟨v, .ref (G.ca c), t.val G, .ref (G.ca c), isTy sub c t, rfl, .own _, ?_, ?_, np.ret w (by rw [Rep]) q⟩
  · rw [hK]; exact ty_ok T w r1 h1 h2
  · rw [hK]; exact T.kit hc h2⟩
/-- a class's name as a value -/
theorem pd_cls {N : List Str} {sc : ScX} {pos : Pos} {c : Str} (hg : glB sc c = true) (hm : G.mg c = some (.ref (G.ca c))) : PD G k N sc (.Name c pos) (dC (.cell (G.ca c))) := pd_glob hg hm (v := .ref (G.ca c)) rfl fun F => by rw [Rep]

/-! ### own == -/
/-- x an instance of c with its own ==, the other of a type that does not go first -/
def rOwnEq (cs : List Str) (sub : Str → Str → Bool) (c : Str) (S : DSp) : RD := fun x y M Q => ∃ t, tyD M x = some (.c c) ∧ tyD M y = some t ∧ okTy cs t = true ∧ ((∃ d, t = .c d ∧ d = c) ∨ isTy sub c t = false) ∧ S [x, y] M (fun d M' => ∃ b, d = .bl b ∧ Q (.bl b) M') E00
theorem ins_of (w : Wd G F M Φ H) {d : D} {x : V} {c : Str} (r : Rep G F d x) (h : tyD M d = some (.c c)) : ∃ a dx fs, x = .ref a ∧ H a = some (.ins (G.ca c) dx fs) := by
  cases d with
  | obj c' ds => rw [Rep] at r; obtain ⟨a, dx, vs, rfl, h1, h2⟩ := r; cases h; exact ⟨a, dx, _, rfl, w.f _ _ h1⟩
  | cell a =>
    rw [Rep] at r; subst r
    unfold tyD at h
    simp only at h
    split at h
    · rename_i c' ns ds q
      obtain ⟨_, dx, vs, h1, h2, h3⟩ := w.m a _ q
      cases h; exact ⟨a, dx, _, rfl, h1⟩
    · cases h
    · cases h
    · cases h
  | _ => cases h
theorem notFirst_of (T : Tys G cs sub) {c : Str} {t : Ty0} (hc : cs.contains c = true) (ht : okTy cs t = true) (h : (∃ d, t = .c d ∧ d = c) ∨ isTy sub c t = false) : PySem.W.notFirst G.K (G.ca c) (t.val G) = true := by
  unfold PySem.W.notFirst
  rcases h with ⟨d, rfl, rfl⟩ | h
  · simp [Ty0.val]
  · rw [T.subI hc ht, h]; simp
/-- an operator's rule over data that may run code of the text -/
theorem np_own {X : Cx} {pins : List (Addr × Obj)} {Q : QD} {Qh : VK} {g : Bool → Bool} (np : NP G F Φ Q Qh) {v : Value} {s' : Shared} (h : OwnP G X pins σ F Φ (fun b M' => Q (.bl (g b)) M') v s') : ∃ b, v = .bool b ∧ EP X pins σ Qh (.bool (g b)) s' := by
  obtain ⟨b, H', F', M', rfl, I', ex, w', q⟩ := h
  exact ⟨b, rfl, .bl (g b), H', I', rfl, np _ _ F' M' H' ex w' (by rw [Rep]) q⟩
theorem op_own (T : Tys G cs sub) {c : Str} (hc : cs.contains c = true) (E : EqCls G j c f S) (hj : j ≤ k) {X : Cx} (hg : G = ⟨X.prog, X.w, X.K, X.mg, X.base⟩) (hr : Room k X.A) :
    OpR X (compareOp .Eq) (fun x y H Qh => ∃ d e F M Φ Q, Wd G F M Φ H ∧ Rep G F d x ∧ Rep G F e y ∧ NP G F Φ Q Qh ∧ rOwnEq cs sub c S d e M Q) := by
  intro pins s σ H x y v u Qh I rx ry ⟨d, e, F, M, Φ, Q, w, hd, he, np, t, h1, h2, h3, h4, h5⟩
  have hK : X.K = G.K := by rw [hg]
  obtain ⟨a, dx, fs, rfl, hH⟩ := ins_of w hd h1
  cases rx
  show wpAny (model X.prog X.w) X.A (richCompare .Eq _ u) (EP X pins σ Qh) X.xe s
  refine wpAny_mono (own_run (Q := fun b M' => Q (.bl b) M') E hg ⟨hr.mono hj, rfl⟩ I hH (ty_looks T hK I ry w he h2 h3) (by rw [hK]; exact notFirst_of T hc h3 h4) ry w hd he h5) (fun r s' z => ?_) fun _ _ z => z
  obtain ⟨b, rfl, q⟩ := np_own (g := id) np z
  exact q
theorem od_own (T : Tys G cs sub) {c : Str} (hc : cs.contains c = true) (E : EqCls G j c f S) (hj : j ≤ k) : OpD G k (compareOp .Eq) (rOwnEq cs sub c S) := fun X hg hr hcalm => ⟨_, op_own T hc E hj hg hr, fun x y d e F M Φ H Q Qh w hx hy h np => ⟨d, e, F, M, Φ, Q, w, hx, hy, np, h⟩⟩
/-- an instance of c == an instance of a class below it: the other's == first -/
theorem cmp_back {P : Program} {w : World} {A : Around} {E : Value → Shared → Prop} {s : Shared} {K : PySem.W.Frag} {x y C C' f : Addr} {ox oy : Obj} {od od' : Option Obj} {Q : Value → Shared → Prop} (hu : A.units < cLine) (X : K.In s.heap)
    (I : PySem.W.InstAt s.heap x ox C od) (J : PySem.W.InstAt s.heap y oy C' od') (ne : C' ≠ C) (hsub : PySem.W.subIn K (.ref C') (.ref C) = some true) (hs : PySem.W.findIn K (.ref C') "__eq__" = some (some (.ref f))) (hf : PySem.W.isFn K (.ref f) = true)
    (h : wpAny (model P w) A (call (.ref f) [.ref y, .ref x]) (PySem.W.CmpBack Q) E s) : wpAny (model P w) A (richCompare .Eq (.ref x) (.ref y)) Q E s := by
  have one : wpAny (model P w) A (tryCompare (.ref y) "__eq__" (.ref x)) (fun r s' => ∃ v, r = some v ∧ Q v s') E s := by
    unfold tryCompare
    refine wpAny_bind (PySem.W.ifBound_K X J hs hf (wpAny_mono h (fun v s' hv => ?_) fun _ _ e => e))
    cases v <;> first | exact hv.elim | exact wpAny_pure ⟨_, rfl, hv⟩
  unfold richCompare
  simp only [oneThing_ref]
  refine wpAny_holding (wpAny_bind (wpAny_cRoomFor hu ?_))
  refine wpAny_bind (I.type.here (wpAny_bind (J.type.here ?_)))
  rw [if_pos (by simpa using ne.symm)]
  refine wpAny_bind ((PySem.W.looks_subIn X hsub).here ?_)
  simp only [if_true]
  refine wpAny_bind (wpAny_mono one (fun r s' z => ?_) fun _ _ e => e)
  obtain ⟨v, rfl, hq⟩ := z
  dsimp only
  repeat wp_step
  exact hq
def rOwnRev (cs : List Str) (sub : Str → Str → Bool) (c c' : Str) (S : DSp) : RD := fun x y M Q => tyD M x = some (.c c) ∧ tyD M y = some (.c c') ∧ S [y, x] M (fun d M' => ∃ b, d = .bl b ∧ Q (.bl b) M') E00
theorem op_back (T : Tys G cs sub) {c c' : Str} (hc : cs.contains c = true) (hc' : cs.contains c' = true) (hs : sub c' c = true) (hne : G.ca c' ≠ G.ca c) (E : EqCls G j c' f S) (hj : j ≤ k) {X : Cx} (hg : G = ⟨X.prog, X.w, X.K, X.mg, X.base⟩) (hr : Room k X.A) :
    OpR X (compareOp .Eq) (fun x y H Qh => ∃ d e F M Φ Q, Wd G F M Φ H ∧ Rep G F d x ∧ Rep G F e y ∧ NP G F Φ Q Qh ∧ rOwnRev cs sub c c' S d e M Q) := by
  intro pins s σ H x y v u Qh I rx ry ⟨d, e, F, M, Φ, Q, w, hd, he, np, h1, h2, h5⟩
  have hK : X.K = G.K := by rw [hg]
  obtain ⟨a, dx, fs, rfl, hH⟩ := ins_of w hd h1
  obtain ⟨a', dx', fs', rfl, hH'⟩ := ins_of w he h2
  cases rx
  cases ry
  obtain ⟨mA, J, _⟩ := ins_get I.hok hH
  obtain ⟨od, J, _⟩ := J.look
  obtain ⟨mB, J', _⟩ := ins_get I.hok hH'
  obtain ⟨od', J', _⟩ := J'.look
  show wpAny (model X.prog X.w) X.A (richCompare .Eq _ _) (EP X pins σ Qh) X.xe s
  refine cmp_back hr.units0 I.kIn J J' hne (by rw [hK]; exact (T.sub c c' hc hc').2.trans (by rw [hs])) (by rw [hK]; exact E.at_) (by rw [hK]; exact E.fn) (wpAny_mono (own_call (x := .ref a') (y := .ref a) (Q := fun b M' => Q (.bl b) M') E.df rfl hg ⟨hr.mono hj, rfl⟩ I rfl rfl w he hd h5) (fun r s' z => ?_) fun _ _ z => z)
  cases r <;> first
    | exact z.elim
    | (obtain ⟨b, e, q⟩ := np_own (g := id) np z; cases e <;> exact q)
theorem od_back (T : Tys G cs sub) {c c' : Str} (hc : cs.contains c = true) (hc' : cs.contains c' = true) (hs : sub c' c = true) (hne : G.ca c' ≠ G.ca c) (E : EqCls G j c' f S) (hj : j ≤ k) : OpD G k (compareOp .Eq) (rOwnRev cs sub c c' S) :=
  fun X hg hr hcalm => ⟨_, op_back T hc hc' hs hne E hj hg hr, fun x y d e F M Φ H Q Qh w hx hy h np => ⟨d, e, F, M, Φ, Q, w, hx, hy, np, h⟩⟩
end HD
/-! != of instances whose class has an own __eq__ and no __ne__ -/
namespace HD
open PySem PySem.Spec L2
variable {G : Gx} {F F' H H' Φ : Hp} {σ : St} {M M' : MS} {k j : Nat} {f : Addr} {S : DSp}
theorem ne_slot : Slot "object" "__ne__" "object.__ne__" :=
  .of (owner := "object") (n := "__ne__") (by rw [typeLookup_type, builtinLookup_eq_fast]; kernel_rfl) (by decide +kernel) (by decide +kernel) (by decide +kernel) (.inl (by decide +kernel)) (by rw [isSubtype_type]; kernel_rfl)
section
variable {P : Program} {w : World} {A : Around} {E : Value → Shared → Prop} {s : Shared} {K : PySem.W.Frag} {x C : Addr} {ox : Obj} {od : Option Obj} {v tb : Value}
/-- the built-in __ne__ is bound and called -/
theorem ne_bound {Q : Option Value → Shared → Prop} (X : K.In s.heap) (I : PySem.W.InstAt s.heap x ox C od) (hs : PySem.W.findIn K (.ref C) "__ne__" = some (some (.builtin "object.__ne__")))
    (h : wpAny (model P w) A (call (.builtin "object.__ne__") [.ref x, v]) (fun r => Q (some r)) E s) : wpAny (model P w) A (callSpecialIfBound? (.ref x) "__ne__" [v]) Q E s := by
  simp only [callSpecialIfBound?, bindSpecialIfBound?]
  refine wpAny_holding (wpAny_bind (wpAny_bind (wpAny_bind (I.type.here ((PySem.W.looks_findIn X hs).here ?_)))))
  refine wpAny_bind (wpAny_askSetting (wpAny_ite ?_))
  have fin : wpAny (model P w) A (call (.builtin "object.__ne__") ([.ref x] ++ [v]) >>= fun r => pure (some r)) Q E s := wpAny_bind (wpAny_mono h (fun r s' h' => wpAny_pure h') fun _ _ h' => h')
  split
  · exact wpAny_bind (wpAny_of_eq (ne_slot.bind _) (wpAny_pure fin))
  · exact wpAny_tryCatch (wpAny_bind (wpAny_of_eq (ne_slot.bind _) (wpAny_pure fin)))
theorem ne_call {Q : Value → Shared → Prop} (hu : A.in1.units < cLine) (X : K.In s.heap) (I : PySem.W.InstAt s.heap x ox C od) (hm : PySem.W.mroIn K C (.type "object") = some true)
    (h : wpAny (model P w) A.in1 (callSpecialIfBound? (.ref x) "__eq__" [v]) (fun r s' => ∃ b, r = some (.bool b) ∧ Q (.bool (!b)) s') E s) :
    wpAny (model P w) A (call (.builtin "object.__ne__") [.ref x, v]) Q E s := by
  have hi : PySem.W.Looks (model P w) s.heap (isInstance (.ref x) (.type "object")) true := by
    unfold isInstance
    exact I.type.andThen (PySem.W.looks_mroIn X hm)
  refine wpAny_call (codeAny_call_builtin ne_slot.plain F.cmpEntry_ne (PySem.W.check_slot F.cmpKind_ne F.cmpSplit_ne hi (F.cmpArgs_ne _ _) ?_))
  unfold Builtin.«object.__ne__»
  repeat (first
    | with_reducible refine wpAny_cRoomFor hu ?_
    | (with_reducible refine wpAny_bind (m := callSpecialIfBound? _ _ _) (wpAny_mono h (fun r s' z => ?_) fun _ _ z => z); obtain ⟨b, rfl, q⟩ := z; dsimp only)
    | with_reducible refine wpAny_truthy_bool ?_
    | wp_step)
  all_goals exact q
theorem cmp_ne {Q : Value → Shared → Prop} (hu : A.units < cLine) (hu1 : A.in1.units < cLine) (X : K.In s.heap) (I : PySem.W.InstAt s.heap x ox C od) (hm : PySem.W.mroIn K C (.type "object") = some true) (hb : PySem.W.Looks (model P w) s.heap (typeOf v) tb) (hn : PySem.W.notFirst K C tb = true)
    (hs : PySem.W.findIn K (.ref C) "__ne__" = some (some (.builtin "object.__ne__")))
    (h : wpAny (model P w) A.in1 (callSpecialIfBound? (.ref x) "__eq__" [v]) (fun r s' => ∃ b, r = some (.bool b) ∧ Q (.bool (!b)) s') E s) : wpAny (model P w) A (richCompare .NotEq (.ref x) v) Q E s := by
  have one : wpAny (model P w) A (tryCompare (.ref x) "__ne__" v) (fun r s' => ∃ b, r = some (.bool b) ∧ Q (.bool b) s') E s := by
    have z := ne_bound (Q := fun r s' => ∃ b, r = some (.bool b) ∧ Q (.bool b) s') X I hs (ne_call (Q := fun r s' => ∃ b, some r = some (.bool b) ∧ Q (.bool b) s') hu1 X I hm (wpAny_mono h (fun r s' z => by obtain ⟨b, hb, q⟩ := z; exact ⟨b, hb, _, rfl, q⟩) fun _ _ z => z))
    unfold tryCompare
    refine wpAny_bind (wpAny_mono z (fun r s' q => ?_) fun _ _ z => z)
    obtain ⟨b, rfl, q⟩ := q
    exact wpAny_pure ⟨b, rfl, q⟩
  unfold richCompare
  simp only [oneThing_ref]
  refine wpAny_holding (wpAny_bind (wpAny_cRoomFor hu ?_))
  refine wpAny_bind (I.type.here (wpAny_bind (hb.here ?_)))
  split
  · rename_i q
    have e : PySem.W.subIn K tb (.ref C) = some false := by
      rcases Bool.or_eq_true_iff.mp hn with e | e
      · rw [beq_iff_eq.mp e] at q; simp at q
      · exact beq_iff_eq.mp e
    refine wpAny_bind ((PySem.W.looks_subIn X e).here ?_)
    simp only [Bool.false_eq_true, if_false]
    refine wpAny_bind (wpAny_mono one (fun r s' z => ?_) fun _ _ z => z)
    obtain ⟨b, rfl, q⟩ := z
    exact wpAny_pure q
  · refine wpAny_bind (wpAny_pure ?_)
    simp only [Bool.false_eq_true, if_false]
    refine wpAny_bind (wpAny_mono one (fun r s' z => ?_) fun _ _ z => z)
    obtain ⟨b, rfl, q⟩ := z
    exact wpAny_pure q
end
/-- x != y by the own == -/
def rOwnNe (cs : List Str) (sub : Str → Str → Bool) (c : Str) (S : DSp) : RD := fun x y M Q => ∃ t, tyD M x = some (.c c) ∧ tyD M y = some t ∧ okTy cs t = true ∧ ((∃ d, t = .c d ∧ d = c) ∨ isTy sub c t = false) ∧ S [x, y] M (fun d M' => ∃ b, d = .bl b ∧ Q (.bl (!b)) M') E00
variable {cs : List Str} {sub : Str → Str → Bool}
theorem op_ownNe (T : Tys G cs sub) {c : Str} (hc : cs.contains c = true) (E : EqCls G j c f S) (hj : j + 1 ≤ k) (hne : PySem.W.findIn G.K (.ref (G.ca c)) "__ne__" = some (some (.builtin "object.__ne__"))) {X : Cx} (hg : G = ⟨X.prog, X.w, X.K, X.mg, X.base⟩) (hr : Room k X.A) :
    OpR X (compareOp .NotEq) (fun x y H Qh => ∃ d e F M Φ Q, Wd G F M Φ H ∧ Rep G F d x ∧ Rep G F e y ∧ NP G F Φ Q Qh ∧ rOwnNe cs sub c S d e M Q) := by
  intro pins s σ H x y v u Qh I rx ry ⟨d, e, F, M, Φ, Q, w, hd, he, np, t, h1, h2, h3, h4, h5⟩
  have hK : X.K = G.K := by rw [hg]
  obtain ⟨a, dx, fs, rfl, hH⟩ := ins_of w hd h1
  cases rx
  obtain ⟨mA, J, _⟩ := ins_get I.hok hH
  obtain ⟨od, J, _⟩ := J.look
  have r1 : Room (j + 1) X.A := hr.mono hj
  show wpAny (model X.prog X.w) X.A (richCompare .NotEq _ u) (EP X pins σ Qh) X.xe s
  refine cmp_ne hr.units0 r1.in1.units0 I.kIn J (by rw [hK]; exact (T.ins c hc).hm) (ty_looks T hK I ry w he h2 h3) (by rw [hK]; exact notFirst_of T hc h3 h4) (by rw [hK]; exact hne) ?_
  refine PySem.W.ifBound_K I.kIn J (by rw [hK]; exact E.at_) (by rw [hK]; exact E.fn) (wpAny_mono (own_call (x := .ref a) (y := y) (Q := fun b M' => Q (.bl (!b)) M') E.df rfl hg ⟨r1.in1, rfl⟩ I rfl ry w hd he h5) (fun r s' z => ?_) fun _ _ z => z)
  cases r <;> first
    | exact z.elim
    | (obtain ⟨b, e, q⟩ := np_own (g := fun b => !b) np z; cases e <;> exact ⟨_, rfl, q⟩)
theorem od_ownNe (T : Tys G cs sub) {c : Str} (hc : cs.contains c = true) (E : EqCls G j c f S) (hj : j + 1 ≤ k) (hne : PySem.W.findIn G.K (.ref (G.ca c)) "__ne__" = some (some (.builtin "object.__ne__"))) : OpD G k (compareOp .NotEq) (rOwnNe cs sub c S) :=
  fun X hg hr hcalm => ⟨_, op_ownNe T hc E hj hne hg hr, fun x y d e F M Φ H Q Qh w hx hy h np => ⟨d, e, F, M, Φ, Q, w, hx, hy, np, h⟩⟩
/-- one rule or the other -/
def rOr (r r' : RD) : RD := fun x y M Q => r x y M Q ∨ r' x y M Q
theorem OpD.or {g : Value → Value → Sem Value} {r r' : RD} (h : OpD G k g r) (h' : OpD G k g r') : OpD G k g (rOr r r') := fun X hg hr hc => by
  obtain ⟨rh, o1, i1⟩ := h X hg hr hc
  obtain ⟨rh', o2, i2⟩ := h' X hg hr hc
  exact ⟨_, o1.or o2, fun x y d e F M Φ H Q Qh w hx hy z np => z.elim (fun z => .inl (i1 x y d e F M Φ H Q Qh w hx hy z np)) fun z => .inr (i2 x y d e F M Φ H Q Qh w hx hy z np)⟩
end HD
/-! super().m(..) as a statement of a method -/
namespace HD
open PySem PySem.Spec L2 NdefX

/-- a statement list, run where the code that runs is told -/
def PSsAt (X : Cx) (cd : Code) (ss : List Stmt) (t : TS) : Prop := ∀ (pins : List (Addr × Obj)) (s : Shared) (σ : St) (H : Hp) (D : Ends), Inv X pins σ H s → t D σ H → wpAt (model X.prog X.w) X.A cd (execs ss X.env) (SP X pins D) X.xe s
def PSAt (X : Cx) (cd : Code) (st : Stmt) (t : TS) : Prop := ∀ (pins : List (Addr × Obj)) (s : Shared) (σ : St) (H : Hp) (D : Ends), Inv X pins σ H s → t D σ H → wpAt (model X.prog X.w) X.A cd (exec st X.env) (SP X pins D) X.xe s
theorem PSsAt.of {X : Cx} {cd : Code} {ss : List Stmt} {t : TS} (h : PSs X ss t) : PSsAt X cd ss t := fun pins s σ H D I q => wpAt_of_wpAny (h.run pins s σ H D I q)
theorem PSsAt.cons {X : Cx} {cd : Code} {st : Stmt} {ss : List Stmt} {t u : TS} (h : PSAt X cd st t) (h2 : PSsAt X cd ss u) : PSsAt X cd (st :: ss) (tSeq t u) := fun pins s σ H D I q => by
  refine ks_wpAt_execs_cons (ks_wpAt_mono (h pins s σ H { D with nx := u D } I q) (fun f s1 z => ?_) fun _ _ z => z)
  cases f with
  | next =>
    obtain ⟨σ', H', I', z⟩ := z
    exact h2 pins s1 σ' H' D I' z
  | ret v => exact z
  | brk => exact z
  | cont => exact z

section
variable {X : Cx} {CX : CXT} {k : Nat} {f c D C f2 : Addr} {of oc : Obj} {fd fd2 : FuncData} {ps : List Str} {sp : Sp} {E : St → XK} {t : TA} {es : List Expr} {e : Expr} {m : Str} {p0 p1 apos pos pos' : Pos} {is ic : Nat} {ar : Arg} {vs : Array Value} {file : Str} {tf : Tok} {cdD : ClassData}
/-- what is known of the running method and of the class that wrote it -/
structure SupAt (X : Cx) (f c D : Addr) (ar : Arg) (is ic : Nat) : Prop where
  gl : Gl X "super"
  mg : X.mg "super" = none
  free : X.env.kindOf "__class__" = some .free
  fu : X.env.func = some f
  lf : ∃ of fd, X.K.lookup f = some of ∧ of.data = .func fd ∧ (fd.params.posonlyargs ++ fd.params.args).head? = some ar
  co : X.env.code = .ref c
  lc : ∃ oc vs file tf, X.K.lookup c = some oc ∧ oc.data = .fields vs ∧ vs[2]? = some (.str file tf) ∧ ((X.prog.main.file : Str) == file) = true
  top : (X.prog.main.scope.names.lookup ("super" : Str)).isSome = false
  cls : ∃ cdD, PySem.W.clsIn X.K D = some cdD
  self : X.N[is]? = some ar.arg
  selfL : X.env.kindOf ar.arg = some .local
  selfN : (ar.arg == ("__classdict__" : Str)) = false
  cell : X.N[ic]? = some "__class__"
theorem ld_slot {pins : List (Addr × Obj)} {s : Shared} {σ : St} {H : Hp} {x : Str} {i : Nat} {v : V} {E : Value → Shared → Prop} {Q : Value → Shared → Prop} (I : Inv X pins σ H s) (hN : X.N[i]? = some x) (hv : Vis X.env.scope x) (e : σ[i]? = some (some v)) (hcd : (x == ("__classdict__" : Str)) = false)
    (h : ∀ u, RelV v u → Q u s) : wpAny (model X.prog X.w) X.A (loadName X.env x) Q E s := by
  obtain ⟨mm, hn, hl⟩ := I.loc
  obtain ⟨u, r, l⟩ := hl i x v hN e hv
  rcases l with ⟨hk, hm⟩ | ⟨hk, c, hc, hcell⟩
  · exact wpAny_loadName_local I.ok.kind hk hn hm (h u r)
  · rcases hk with hk | hk
    · exact wpAny_loadName_cell I.ok.kind hk hc hcell (h u r)
    · exact wpAny_loadName_free I.ok.kind hk hc hcell (h u r) hcd
/-- the object super() -/
theorem run_super {pins : List (Addr × Obj)} {s : Shared} {σ : St} {H : Hp} {a dx : Addr} {fs : List (Str × V)} {body : List Stmt} {whole : Sem Value} {Q : Value → Shared → Prop} (S : SupAt X f c D ar is ic) (hat : (m == ("__class__" : Str)) = false) (I : Inv X pins σ H s) (hs : σ[is]? = some (some (.ref a))) (hc : σ[ic]? = some (some (.ref D)))
    (ha : H a = some (.ins C dx fs)) (hsub : PySem.W.mroIn X.K C (.ref D) = some true)
    (h : ∀ s', Inv X pins σ H s' → s'.heap.get? s.heap.objs.size = some (PySem.W.ks_superObj D a C) → s'.heap.objs.size > s.heap.objs.size → (∀ y o, s.heap.get? y = some o → s'.heap.get? y = some o) → Q (.ref s.heap.objs.size) s') :
    wpAt (model X.prog X.w) X.A (.func body X.env) (attributeBase (.Call (.Name "super" p0) [] [] p1) m X.env whole) Q X.xe s := by
  obtain ⟨of, fd, lf, hfd, hp⟩ := S.lf
  obtain ⟨oc, vs, file, tf, lc, hoc, hvs, hfile⟩ := S.lc
  obtain ⟨cdD, hD⟩ := S.cls
  have KX := I.kIn
  obtain ⟨oD, hD1, hD2⟩ : ∃ oD, s.heap.get? D = some oD ∧ oD.data = .cls cdD := by
    unfold PySem.W.clsIn at hD
    split at hD
    · rename_i z1 z2 z3 z4 ho
      cases hD
      exact ⟨_, KX _ _ ho, rfl⟩
    · cases hD
  obtain ⟨mb, b1, b2⟩ := I.mod.blt
  obtain ⟨mA, J, _⟩ := ins_get I.hok ha
  obtain ⟨od, J, _⟩ := J.look
  refine ks_wpAt_super_base (env := X.env) S.gl S.free hat S.fu (KX _ _ lf) hfd hp S.co (KX _ _ lc) hoc hvs hfile S.top ?_
  refine PySem.W.ks_loadName_global I.ok.kind S.gl (Calls.loadGlobal_builtin (by rw [I.ok.glob]; exact I.mod.glob.keeps I.bk) S.mg (by rw [I.ok.blt]; exact b1.keeps I.bk) ((b2 _ (by decide)).trans (by decide +kernel : bootBuiltins "super" = some (.type "super"))) ⟨rfl, ?_⟩)
  refine ld_slot I S.cell (.inr (.inr S.free)) hc (by decide) fun u ru => ?_
  cases ru
  refine ld_slot I S.self (.inl S.selfL) hs S.selfN fun u ru => ?_
  cases ru
  obtain ⟨hh, g, d, tk, os⟩ := s
  refine ks_wpAny_isType_cls hD1 hD2 ⟨rfl, ?_⟩
  refine ks_wpAny_call_super hD1 hD2 J.at_ J.cls (fun c e => ?_) (PySem.W.looks_mroIn KX hsub) (fun h' e kp => ?_)
  · have q := J.no
    unfold PySem.W.notCls at q
    rw [e] at q
    exact Bool.noConfusion q
  · exact h _ (I.kept kp) e (Heap.lt_size e) kp
/-- super().m(e, ..) as a statement -/
def tSuper (is ic : Nat) (C D : Addr) (sp : Sp) (E : St → XK) (t : TA) : TS := fun Dn σ H => ∃ a dx fs, σ[is]? = some (some (.ref a)) ∧ σ[ic]? = some (some (.ref D)) ∧ H a = some (.ins C dx fs) ∧ t σ H fun vs H1 => sp (.ref a :: vs) H1 (fun _ H2 => Dn.nx σ H2) (E σ)
theorem ps_super {pl : Sem Bool} {body : List Stmt} (S : SupAt X f c D ar is ic) (hat : (m == ("__class__" : Str)) = false) (hsub : PySem.W.mroIn X.K C (.ref D) = some true) (hop : PySem.W.nsIn X.K cStatics "thirdparty.any" = some none)
    (hm : PySem.W.ks_superIn X.K C D m = some (some (.ref f2))) (ht : PySem.W.typeIn X.K (.ref f2) = some (.type "function")) (hf : PySem.W.fnIn X.K f2 = true) (F : FnOk X.prog X.w X.K X.mg X.base CX k f2 fd2 ps sp) (hr : Room k X.A) (hb : Binds X.K fd2 ps []) (hx : ∀ σ, PassesAt CX X σ (E σ)) (ha : PA X (e :: es) t)
    (he : eval (.Call (.Attribute (.Call (.Name "super" p0) [] [] p1) m apos) (e :: es) [] pos) X.env = (do
      let ov ← attributeBase (.Call (.Name "super" p0) [] [] p1) m X.env (eval (.Call (.Name "super" p0) [] [] p1) X.env)
      standAt apos.atName
      let (f, first) ← holding [ov] (getMethod ov m pl)
      callWith pos f first (backTo pos (starEach (e :: es) X.env)) []))
    (hi : interactive X.env = false) (hsw : swapsWith (.Call (.Attribute (.Call (.Name "super" p0) [] [] p1) m apos) (e :: es) [] pos) none pos'.line X.env = pure false)
    (hse : starEach (e :: es) X.env = (false, eval e X.env) :: starEach es X.env) (hpl : (backTo pos (starEach es X.env)).any (·.1) = false) :
    PSAt X (.func body X.env) (.Expr (.Call (.Attribute (.Call (.Name "super" p0) [] [] p1) m apos) (e :: es) [] pos) pos') (tSuper is ic C D sp E t) := by
  intro pins s σ H Dn I hq
  obtain ⟨a, dx, fs, hs, hc, hH, q⟩ := hq
  refine ks_wpAt_Expr_any (ks_wpAt_MethodCall (pl := pl) (run_super S hat I hs hc hH hsub fun s1 I1 e1 l1 k1 => ?_) he) hi hsw
  obtain ⟨mA, J, _⟩ := ins_get I1.hok hH
  obtain ⟨od, J, _⟩ := J.look
  have KX := I1.kIn
  cases hcd : PySem.W.clsIn X.K C with
  | none => unfold PySem.W.ks_superIn at hm; rw [hcd] at hm; cases hm
  | some cd =>
    unfold PySem.W.ks_superIn at hm
    rw [hcd] at hm
    obtain ⟨of, hof, hofc⟩ : ∃ of, s1.heap.get? f2 = some of ∧ of.cls = .type "function" := by
      have z0 : (X.K.lookup f2).map (·.cls) = some (.type "function") := ht
      cases z : X.K.lookup f2 with
      | none => rw [z] at z0; cases z0
      | some of => rw [z] at z0; exact ⟨of, KX _ _ z, Option.some.inj z0⟩
    obtain ⟨hh, g, d, tk, os⟩ := s1
    refine ks_wpAny_getMethod_super e1 (PySem.W.looks_opaque KX hop) (l₀ := cd.mro) (fun A Q E s kp q => wpAny_bind ((PySem.W.looks_clsIn KX hcd) A _ E s kp (wpAny_pure q))) rfl KX hm hof hofc (PySem.W.ks_ne KX J hcd) hat ?_
    have kp2 : ∀ y o, hh.get? y = some o → (hh.push (PySem.W.methodObj (.ref f2) (.ref a))).get? y = some o := fun y o z => Heap.get?_push_of_some _ z
    have I2 : Inv X pins σ H ⟨hh.push (PySem.W.methodObj (.ref f2) (.ref a)), g, d, tk + 1, os⟩ := I1.kept kp2
    have hb2 : (hh.push (PySem.W.methodObj (.ref f2) (.ref a))).get? hh.objs.size = some (PySem.W.methodObj (.ref f2) (.ref a)) := Heap.get?_push_at rfl rfl
    have hfree : H hh.objs.size = none := I1.fresh
    have I3 : Inv X ((hh.objs.size, PySem.W.methodObj (.ref f2) (.ref a)) :: pins) σ H ⟨hh.push (PySem.W.methodObj (.ref f2) (.ref a)), g, d, tk + 1, os⟩ := I2.pins_of fun p hp => by
      rcases List.mem_cons.mp hp with rfl | hp
      · exact ⟨hb2, hfree, fun z => by
          have := I1.lt
          simp only [← z] at this
          exact absurd this (Nat.lt_irrefl _), I1.nofs (Nat.le_refl _), fun v z => by cases z⟩
      · exact I2.pin p (List.mem_append_right _ hp)
    rw [hse]
    refine PySem.W.callWith_of (by show ((false || (backTo pos (starEach es X.env)).any (·.1)) || false) = false; rw [hpl]; rfl) (PySem.W.keeps_M (self := .ref a) hf) (Calls.evalArgs_plain ?_)
    have run := ha.run pos _ _ σ H _ I3 q
    rw [hse] at run
    refine wpAny_mono run (fun us s2 z => ?_) fun _ _ z => z
    obtain ⟨vs, H1, I4, rv, q2⟩ := z
    have hm2 := (I4.pin _ (List.mem_append_right _ (List.mem_cons_self ..))).1
    refine ⟨⟨hm2, I4.kIn⟩, ?_⟩
    have I5 : Inv X pins σ H1 s2 := I4.pins_of fun p hp => I4.pin p (List.mem_append_right _ (List.mem_cons_of_mem _ hp))
    have rr : Vals (V.ref a :: vs) (Value.ref a :: us) := .cons rfl rv
    have ln : (Value.ref a :: us).length = ps.length := by rw [← rr.length]; exact F.len _ _ _ _ q2
    have bd := hb s2 (Value.ref a :: us) I5.kIn (by rw [List.append_nil]; exact ln)
    rw [List.append_nil] at bd
    refine wpAny_call (ks_codeAny_call_bound (x := .ref a) hm2 (codeAny_mono (F.run X.A X.stack s2 H1 ⟨Value.ref a :: us, []⟩ (Value.ref a :: us) (V.ref a :: vs) _ (E σ) hr I5.env0 bd rr q2) fun r s' hq => ?_))
    cases r with
    | error e => exact hx σ pins H1 s2 e s' I5 hq
    | ok fl =>
      cases fl with
      | ret u =>
        obtain ⟨v, H', I', rv', q3⟩ := I5.after hq
        exact ⟨σ, H', I', q3⟩
      | next => exact False.elim hq
      | brk => exact False.elim hq
      | cont => exact False.elim hq
end
end HD
/-! methods that say super() -/
namespace HD
open PySem PySem.Spec L2 NdefX
variable {G : Gx} {F' F'' H H' Φ : Hp} {σ : L2.St} {env : En} {M M' : MS} {k j : Nat} {N ps : List Str} {sc : ScX} {e a b c : Expr} {pos p : Pos} {te ta tb tc : DE} {es : List Expr} {tr : DA} {S : DSp}

/-- such a def as it stands behind the top: the cell of its class at cc holds the class at D -/
structure SupDef (G : Gx) (F : NF) (f cc D : Addr) : Prop where
  ex : ∃ (oc : Value) (od : Option Addr) (kV doc pm : Value) (an : Option Addr) (ct : Value) (osl : Array (Option Value)), G.K.lookup f = some ⟨oc, od, .func (PySem.W.fnX F.name F.qual F.params F.body F.scope F.cl .none kV doc pm an (.ref F.c) ct), osl⟩
  code : PySem.W.codeIn G.K (.ref F.c) F.qual = true
  kp : PySem.W.keepIn G.K (.ref f) = true
  cl : F.cl = [(("__class__" : Str), cc)]
  cell : ∃ (x : Value) (y : Option Addr) (z : Array (Option Value)), G.K.lookup cc = some ⟨x, y, .cell (some (.ref D)), z⟩
  fl : ∃ (oc : Obj) (vs : Array Value) (file : Str) (tf : Tok), G.K.lookup F.c = some oc ∧ oc.data = .fields vs ∧ vs[2]? = some (.str file tf) ∧ ((G.P.main.file : Str) == file) = true
  top : (G.P.main.scope.names.lookup ("super" : Str)).isSome = false
  cls : ∃ cdD, PySem.W.clsIn G.K D = some cdD
  op : PySem.W.nsIn G.K cStatics "thirdparty.any" = some none
  mg : G.mg "super" = none
def startX (N : List Str) (ds : List D) (x : D) : En := ds.map some ++ ([some x] ++ List.replicate (N.length - ds.length - 1) none)
theorem startX_en {F : Hp} {ds : List D} {vs : List V} {D' : Addr} (r : Reps G F ds vs) : EnR G F (startF N vs [some (.ref D')]) (startX N ds (.cell D')) := by
  have hl := r.len
  refine ⟨by unfold startF startX; simp only [List.length_append, List.length_map, List.length_replicate, List.length_cons, List.length_nil]; rw [hl], fun i d h => ?_⟩
  unfold startX at h
  by_cases hi : i < ds.length
  · rw [List.getElem?_append_left (by simpa using hi), List.getElem?_map, List.getElem?_eq_getElem hi] at h
    cases h
    obtain ⟨v, h1, h2⟩ := r.get (List.getElem?_eq_getElem hi)
    refine ⟨v, ?_, h2⟩
    unfold startF
    rw [List.getElem?_append_left (by rw [List.length_map, ← hl]; exact hi), List.getElem?_map, h1]; rfl
  · rw [List.getElem?_append_right (by simpa using hi), List.length_map] at h
    by_cases h0 : i - ds.length = 0
    · rw [h0] at h
      cases h
      refine ⟨.ref D', ?_, by rw [Rep]⟩
      unfold startF
      rw [List.getElem?_append_right (by rw [List.length_map]; omega), List.length_map, ← hl, h0]; rfl
    · rw [List.getElem?_append_right (by simp; omega), List.getElem?_replicate] at h
      split at h <;> cases h

def PDSAt (G : Gx) (k : Nat) (N : List Str) (sc : ScX) (f c : Addr) (body : List Stmt) (st : Stmt) (t : DS) : Prop := ∀ W X, XOk G k N sc X → Takes X W → X.env.func = some f → X.env.code = .ref c → PSAt X (.func body X.env) st (tDS G W t)
def PDsAt (G : Gx) (k : Nat) (N : List Str) (sc : ScX) (f c : Addr) (body ss : List Stmt) (t : DS) : Prop := ∀ W X, XOk G k N sc X → Takes X W → X.env.func = some f → X.env.code = .ref c → PSsAt X (.func body X.env) ss (tDS G W t)
theorem pdsAt_of {f c : Addr} {body ss : List Stmt} {t : DS} (h : PDs G k N sc ss t) : PDsAt G k N sc f c body ss t := fun W X ok tk _ _ => PSsAt.of (h W X ok tk)
theorem PSsAt.imp {X : Cx} {cd : Code} {ss : List Stmt} {t t' : TS} (h : PSsAt X cd ss t) (i : ∀ D σ H, t' D σ H → t D σ H) : PSsAt X cd ss t' := fun pins s σ H D I q => h pins s σ H D I (i _ _ _ q)
theorem pdsAt_cons {f c : Addr} {body ss : List Stmt} {st : Stmt} {t u : DS} (h : PDSAt G k N sc f c body st t) (h2 : PDsAt G k N sc f c body ss u) : PDsAt G k N sc f c body (st :: ss) (sSeq t u) := fun W X ok tk e1 e2 =>
  PSsAt.imp (PSsAt.cons (h W X ok tk e1 e2) (h2 W X ok tk e1 e2)) fun Dh σ H q => by
    obtain ⟨env, F, M, Φ, D', hE, w, h, eo⟩ := q
    exact ⟨env, F, M, Φ, { D' with nx := fun env' M' => u D' env' M' }, hE, w, h, ⟨fun env' σ' F' M' H' e hE' w' q => ⟨env', F', M', Φ, D', hE', w', q, eo.mono e⟩, eo.rt, eo.bk, eo.ct, eo.ex⟩⟩
/-- super().m(e, ..) over data: x the class of the instance, f2 the def that is found -/
structure SupMeth (G : Gx) (C : Str) (D f2 : Addr) (m : Str) : Prop where
  sub : PySem.W.mroIn G.K (G.ca C) (.ref D) = some true
  at_ : PySem.W.ks_superIn G.K (G.ca C) D m = some (some (.ref f2))
  ty : PySem.W.typeIn G.K (.ref f2) = some (.type "function")
  fn : PySem.W.fnIn G.K f2 = true
def sSuper (is ic n : Nat) (C m : Str) (D' : Addr) (S : DSp) (t : DA) : DS := fun D env M => ∃ x, env[is]? = some (some x) ∧ env[ic]? = some (some (.cell D')) ∧ tyD M x = some (.c C) ∧ t env M (fun ds M1 => ds.length + 1 = n ∧ S (x :: ds) M1 (fun _ M2 => D.nx env M2) (D.ex env)) (D.ex env)
def gl_super (sc : ScX) (x : Str) : Bool := glB sc "super" && decide (sc.s.names.lookup ("__class__" : Str) = some .free) && decide (sc.s.names.lookup x = some .local) && !(x == ("__classdict__" : Str))
theorem psd_super {F : NF} {f cc D' f2 : Addr} {C m x : Str} {is ic : Nat} {p0 p1 apos pos' : Pos} {ps2 : List Str} (Sd : SupDef G F f cc D') (Sm : SupMeth G C D' f2 m) (Df : Def G j f2 ps2 S) (hj : j ≤ k)
    (hx : (F.params.posonlyargs ++ F.params.args).head?.map (·.arg) = some x) (hgl : gl_super sc x = true) (hN : N[is]? = some x) (hN2 : N[ic]? = some "__class__") (hat : (m == ("__class__" : Str)) = false) (ha : PDA G k N sc (e :: es) tr)
    (he : ∀ env, ∃ pl, eval (.Call (.Attribute (.Call (.Name "super" p0) [] [] p1) m apos) (e :: es) [] pos) env = (do
      let ov ← attributeBase (.Call (.Name "super" p0) [] [] p1) m env (eval (.Call (.Name "super" p0) [] [] p1) env)
      standAt apos.atName
      let (f, first) ← holding [ov] (getMethod ov m pl)
      callWith pos f first (backTo pos (starEach (e :: es) env)) []))
    (hsw : ∀ env, swapsWith (.Call (.Attribute (.Call (.Name "super" p0) [] [] p1) m apos) (e :: es) [] pos) none pos'.line env = pure false := by intro _; rfl)
    (hse : ∀ env, starEach (e :: es) env = (false, eval e env) :: starEach es env := by intro _; rfl) (hpl : ∀ env, (backTo pos (starEach es env)).any (·.1) = false := by intro _; rfl) :
    PDSAt G k N sc f F.c F.body (.Expr (.Call (.Attribute (.Call (.Name "super" p0) [] [] p1) m apos) (e :: es) [] pos) pos') (sSuper is ic ps2.length C m D' S tr) := fun W X ok tk ef ec => by
  obtain ⟨oc, od, kV, doc, pm, an, ct, osl, lf⟩ := Sd.ex
  obtain ⟨oc2, vs, file, tf, lc, hoc, hvs, hfile⟩ := Sd.fl
  obtain ⟨fd, hb, Fk, _⟩ := Df.ex
  have hg := ok.g
  subst hg
  cases hh : (F.params.posonlyargs ++ F.params.args).head? with
  | none => rw [hh] at hx; cases hx
  | some ar =>
    rw [hh] at hx
    have hx : ar.arg = x := by cases hx; rfl
    unfold gl_super at hgl
    simp only [Bool.and_eq_true, decide_eq_true_eq, Bool.not_eq_true'] at hgl
    obtain ⟨⟨⟨g1, g2⟩, g3⟩, g4⟩ := hgl
    have SA : SupAt X f F.c D' ar is ic := {
      gl := (gl_of ok.scp g1).1
      mg := Sd.mg
      free := by unfold Env.kindOf; rw [ok.scp]; exact g2
      fu := ef
      lf := ⟨_, _, lf, rfl, hh⟩
      co := ec
      lc := ⟨oc2, vs, file, tf, lc, hoc, hvs, hfile⟩
      top := Sd.top
      cls := Sd.cls
      self := by rw [ok.N, hN, hx]
      selfL := by unfold Env.kindOf; rw [ok.scp, hx]; exact g3
      selfN := by rw [hx]; exact g4
      cell := by rw [ok.N]; exact hN2 }
    obtain ⟨pl, he⟩ := he X.env
    intro pins s σ H Dh I q
    obtain ⟨env, F1, M, Φ, Dd, hE, w, h, eo⟩ := q
    obtain ⟨x', e1, e2, e3, h⟩ := h
    refine ps_super (E := fun σ => WE W σ) SA hat Sm.sub Sd.op Sm.at_ Sm.ty Sm.fn Fk (ok.room.mono hj) hb (passAt tk) (ha W X ok tk) he I.quiet (hsw X.env) (hse X.env) (hpl X.env) pins s σ H Dh I ?_
    obtain ⟨v, e4, r⟩ := hE.at_ _ _ e1
    obtain ⟨v2, e5, r2⟩ := hE.at_ _ _ e2
    rw [Rep] at r2; subst r2
    obtain ⟨a, dx, fs, rfl, hH⟩ := ins_of w r e3
    refine ⟨a, dx, fs, e4, e5, hH, env, F1, M, Φ, _, _, hE, w, h, fun ds us F2 M2 H2 ex w2 rs q => ?_, eo.ex env σ F1 (Ex.refl F1) hE⟩
    exact ⟨F2, M2, Φ, x' :: ds, _, _, w2, .cons (r.mono ex) rs, q.1, q.2, fun d v F3 M3 H3 ex2 w3 r3 q3 => eo.nx env σ F3 M3 H3 (ex.trans ex2) (hE.mono (ex.trans ex2)) w3 q3, eo.ex env σ F2 ex (hE.mono ex)⟩
/-- the rule for such a def -/
theorem def_super {F : NF} {f cc D' : Addr} {t : DS} (Sd : SupDef G F f cc D') (hS : NScope N ps ["__class__"] F.scope)
    (hb : ∀ (kV doc pm : Value) (an : Option Addr) (ct : Value) (us : List Value), us.length = ps.length → bindArgs (PySem.W.fnX F.name F.qual F.params F.body F.scope F.cl .none kV doc pm an (.ref F.c) ct) ⟨us, []⟩ = pure (ps.zip us))
    (ht : PDsAt G k N ⟨F.scope, fun _ => false⟩ f F.c F.body F.body t) (h : ∀ ds M Q E, ds.length = ps.length → S ds M Q E → t { nx := fun _ M' => Q .non M', rt := Q, ex := fun _ => E } (startX N ds (.cell D')) M) : Def G (k + 1) f ps S := by
  obtain ⟨oc, od, kV, doc, pm, an, ct, osl, lf⟩ := Sd.ex
  obtain ⟨x1, x2, x3, lcc⟩ := Sd.cell
  refine ⟨Sd.kp, _, .all (hb kV doc pm an ct), ⟨fun vs H Q E ⟨F, M, Φ, ds, Qd, Ed, w, r, hl, _⟩ => by rw [← r.len, hl], fun A outer s H args us vs Q E hr e0 hbind r hsp => ?_⟩, oc, od, osl, lf⟩
  obtain ⟨F1, M, Φ, ds, Qd, Ed, w, rs, hl, hs, np, ep⟩ := hsp
  have KX : G.K.In s.heap := e0.mod.kin.keeps fun b o e => (e0.bs b o e).1
  have lim : s.heap.NoLimit := e0.mod.nolimit.keeps fun b o e => (e0.bs b o e).1
  have lvs : vs.length = ps.length := by rw [← rs.len, hl]
  have hcc : s.heap.get? cc = some ⟨x1, x2, .cell (some (.ref D')), x3⟩ := KX _ _ lcc
  have hcb : G.base.get? cc = some ⟨x1, x2, .cell (some (.ref D')), x3⟩ := e0.mod.kin _ _ lcc
  have one : ∀ y c, F.cl.lookup y = some c → y = "__class__" ∧ c = cc := fun y c z => by
    rw [Sd.cl, List.lookup_cons] at z
    cases q : (y == ("__class__" : Str)) with
    | true => rw [q] at z; cases z; exact ⟨beq_iff_eq.mp q, rfl⟩
    | false => rw [q] at z; cases z
  have C : CellsAt F.cl ["__class__"] [some (.ref D')] s.heap H := {
    len := rfl
    all := fun y c z => by
      obtain ⟨_, rfl⟩ := one y c z
      exact ⟨(e0.bs _ _ hcb).2, _, _, hcc, rfl⟩
    inj := fun x y c z z2 => by
      obtain ⟨rfl, _⟩ := one x c z
      obtain ⟨rfl, _⟩ := one y c z2
      rfl
    has := fun i y z => by
      cases i with
      | zero =>
        simp at z; subst z
        refine ⟨cc, by rw [Sd.cl]; rfl, fun v z => ?_⟩
        simp at z; subst z
        exact ⟨.ref D', rfl, _, hcc, rfl⟩
      | succ i => simp at z }
  have nocell := hS.nocell
  refine ks_codeAny_call_defAt (fd := PySem.W.fnX F.name F.qual F.params F.body F.scope F.cl .none kV doc pm an (.ref F.c) ct) (body := F.body) (binds := ps.zip us) hr.depth (KX _ _ lf) rfl lim (PySem.W.codeRec_of KX Sd.code) rfl hbind nocell (fun ⟨n, _⟩ hy => hS.par n (List.of_mem_zip hy).1) (fun h₁ hns kp => ?_) hS.co hS.gen hS.kind
  have I : Inv (ncx (L2.CX G.P G.w) G.P G.w G.K G.mg G.base N F f A outer s H E) [] (startF N vs [some (.ref D')]) H { s with heap := h₁, toks := s.toks + (ps.zip us).length } := inv_startN hS hr.hd e0 lvs r C hns kp
  have ok : XOk G k N ⟨F.scope, fun _ => false⟩ (ncx (L2.CX G.P G.w) G.P G.w G.K G.mg G.base N F f A outer s H E) := ⟨rfl, rfl, rfl, rfl, rfl, hr.deeper _, passes_of rfl, hS.nd⟩
  have tk : Takes (ncx (L2.CX G.P G.w) G.P G.w G.K G.mg G.base N F f A outer s H E) (fun cls d _ H' => E cls d H') := takes_of rfl rfl rfl rfl
  have run := ht _ _ ok tk rfl rfl [] _ (startF N vs [some (.ref D')]) H { nx := fun _ H' => Q .non H', rt := Q } I ⟨startX N ds (.cell D'), F1, M, Φ, _, startX_en rs, w, h ds M Qd Ed hl hs, ⟨fun env σ F' M' H' e hE w q => np .non .non F' M' H' e w (by rw [Rep]) q, np, fun _ _ _ _ _ _ _ _ q => q.elim, fun _ _ _ _ _ _ _ _ q => q.elim, fun env σ F' e hE => ep.mono e⟩⟩
  refine ks_wpAt_mono run (fun fl s' hs => ?_) fun _ _ z => z
  have fin : ∀ {σ' : L2.St} {H' : Hp} {v : V} {u : Value}, Inv (ncx (L2.CX G.P G.w) G.P G.w G.K G.mg G.base N F f A outer s H E) [] σ' H' s' → L2.RelV v u → Q v H' → CE outer G.P G.w H s Q u s' :=
    fun {σ' H' v u} J rv q => ⟨v, H', J.os, J.bare, J.base, J.hok, rv, q⟩
  cases fl with
  | ret u =>
    obtain ⟨v, σ', H', J, rv, q⟩ := hs
    exact fin J rv q
  | next =>
    obtain ⟨σ', H', J, q⟩ := hs
    exact fin (v := V.non) (u := Value.none) J rfl q
  | brk =>
    obtain ⟨_, _, _, q⟩ := hs
    exact False.elim q
  | cont =>
    obtain ⟨_, _, _, q⟩ := hs
    exact False.elim q
end HD
/-! small rules -/
namespace HD
open PySem PySem.Spec L2
variable {G : Gx} {F F' H H' Φ : Hp} {σ : St} {env : En} {M M' : MS} {k j : Nat} {N ps : List Str} {sc : ScX} {e a b c : Expr} {pos p : Pos} {te ta tb tc : DE} {es : List Expr} {tr : DA}
/-- an expression that no run reaches -/
def dNever : DE := fun _ _ _ _ => False
theorem pd_never : PD G k N sc e dNever := fun W X ok tk => ⟨fun pins s σ H Q I ⟨_, _, _, _, _, _, _, _, h, _⟩ => h.elim⟩
def dtNever : DT := fun _ _ _ _ => False
theorem pdt_never : PDT G k N sc e dtNever := fun W X ok tk => ⟨fun pins s σ H Q I ⟨_, _, _, _, _, _, _, _, h, _⟩ => h.elim⟩
theorem pdss_never {st : List Stmt} : PDs G k N sc st sNever := fun W X ok tk => ⟨fun pins s σ H D I ⟨_, _, _, _, _, _, _, h, _⟩ => h.elim⟩
def sRetN : DS := fun D _ M => D.rt .non M
theorem psd_retN' : PDS G k N sc (.Return none pos) sRetN := psd_retN
/-- x = [..] -/
def sSetLc (i : Nat) (te : DE) : DS := fun D env M => te env M (fun d M1 => D.nx (env.set i (some d)) M1) (D.ex env)
/-- a module's constant -/
structure GlobD (G : Gx) (x : Str) (d : D) : Prop where
  ex : ∃ v u, G.mg x = some u ∧ RelV v u ∧ ∀ F, Rep G F d v
theorem pd_globD {x : Str} {d : D} (h : GlobD G x d) (hg : glB sc x = true) : PD G k N sc (.Name x pos) (dC d) := let ⟨v, u, h1, h2, h3⟩ := h.ex; pd_glob hg h1 h2 h3
/-- a, b = .. -/
theorem pgd_tup {ts : List Expr} {is : List Nat} {n : Nat} (h : PGsD G k N sc ts is) (hn : is.length = n := by rfl) (hn2 : ∀ env, (assignEach ts env).length = n := by intro _; rfl) (hst : ∀ env, (assignEach ts env).findIdx? (·.1) = none := by intro _; rfl) : PGD G k N sc (.Tuple ts j pos) (.tp is) :=
  pgd_tp h fun hl X ok hp => by
    rw [hn]
    exact pg_tup ok.calm hp (hn2 X.env) (hst X.env)
/-- xs.insert(i, y) -/
def rInsD : RMt := fun x ys M Q => ∃ a ds i y, x = .cell a ∧ ys = [.int i, y] ∧ M a = some (.lst ds) ∧ ds.length < 100000 ∧ 0 ≤ i ∧ i < 2 ^ 63 ∧ Q .non (M.put a (.lst (ds.take i.toNat ++ [y] ++ ds.drop i.toNat)))
theorem md_insert : MtD G "list.insert" rInsD := fun X hg => ⟨_, mt_insert, fun x d vs ds F M Φ H Q Qh w rx rs h np => by
  obtain ⟨a, es, i, y, rfl, rfl, hM, hz, h0, h1, q⟩ := h
  obtain ⟨hF, us, hH, rs2⟩ := w.m a _ hM
  rw [Rep] at rx; subst rx
  rw [Reps] at rs
  obtain ⟨vi, vt, rfl, r1, rs⟩ := rs
  obtain ⟨v, rfl, r2⟩ := reps1 rs
  rw [Rep] at r1; subst r1
  exact ⟨a, us, i, v, rfl, rfl, hH, by rw [← rs2.len]; exact sz_lt hz, h0, h1, np _ _ F _ _ (Ex.refl F) (w.mset (mo' := .lst (es.take i.toNat ++ [y] ++ es.drop i.toNat)) hM ⟨_, upd_same, ((rs2.take i.toNat).snoc r2).append (rs2.drop i.toNat)⟩) (by rw [Rep]) q⟩⟩
end HD
/-! calls with keywords -/
namespace HD
open PySem PySem.Spec L2
variable {G : Gx} {F F' H H' Φ : Hp} {σ : St} {env : En} {M M' : MS} {k j : Nat} {N ps : List Str} {sc : ScX} {e a b c : Expr} {pos p : Pos} {te ta tb tc : DE} {es : List Expr} {tr : DA} {kws : List Keyword} {kpos : Pos} {nm : Option Str}
def PDK (G : Gx) (k : Nat) (N : List Str) (sc : ScX) (kws : List Keyword) (t : DA) : Prop := ∀ W X, XOk G k N sc X → Takes X W → PK X kws (tDA G W t)
theorem PK.imp {X : Cx} {t t' : TA} (h : PK X kws t) (i : ∀ σ H Q, t' σ H Q → t σ H Q) : PK X kws t' := ⟨fun pos pins s σ H Q I q => h.run pos pins s σ H Q I (i σ H Q q)⟩
theorem pdk_nil : PDK G k N sc [] dNil := fun W X ok tk => PK.imp pk_nil fun σ H Qh ⟨env, F, M, Φ, Q, E, hE, w, h, np, ep⟩ => np [] [] F M H (Ex.refl F) w Reps.nil h
theorem pdk_cons (ha : PD G k N sc e te) (hr : PDK G k N sc kws tr) : PDK G k N sc (⟨nm, e, kpos⟩ :: kws) (dCons te tr) := fun W X ok tk =>
  PK.imp (pk_cons (ha W X ok tk) (hr W X ok tk)) fun σ H Qh ⟨env, F, M, Φ, Q, E, hE, w, h, np, ep⟩ =>
    tD.seq hE w h ep fun d v F1 M1 H1 e1 w1 hE1 r1 q1 ep1 => ⟨env, F1, M1, Φ, _, E, hE1, w1, q1, fun ds vs F2 M2 H2 e2 w2 rs q2 => np _ _ F2 M2 H2 (e1.trans e2) w2 (.cons (r1.mono e2) rs) q2, ep1⟩
def perm {α : Type} (pm : List Nat) (ws : List α) : List α := pm.filterMap (ws[·]?)
theorem perm_vals {vs : List V} {us : List Value} (r : Vals vs us) : ∀ (pm : List Nat), Vals (perm pm vs) (perm pm us)
  | [] => .nil
  | i :: pm => by
    have ih := perm_vals r pm
    unfold perm at ih ⊢
    rw [List.filterMap_cons, List.filterMap_cons]
    cases q : vs[i]? with
    | none =>
      have : us[i]? = none := by rw [List.getElem?_eq_none_iff] at q ⊢; rw [← r.length]; exact q
      rw [this]; exact ih
    | some v =>
      obtain ⟨u, hu, ru⟩ := r.get q
      rw [hu]; exact .cons ru ih
theorem perm_reps {ds : List D} {vs : List V} (r : Reps G F ds vs) : ∀ (pm : List Nat), Reps G F (perm pm ds) (perm pm vs)
  | [] => Reps.nil
  | i :: pm => by
    have ih := perm_reps r pm
    unfold perm at ih ⊢
    rw [List.filterMap_cons, List.filterMap_cons]
    cases q : ds[i]? with
    | none =>
      have : vs[i]? = none := by rw [List.getElem?_eq_none_iff] at q ⊢; rw [← r.len]; exact q
      rw [this]; exact ih
    | some d =>
      obtain ⟨v, hv, rv⟩ := r.get q
      rw [hv]; exact .cons rv ih
/-- n values ahead, the rest by the keywords ks; pm tells where each parameter behind stands among the keywords -/
structure KwFn (G : Gx) (f : Addr) (ps : List Str) (n : Nat) (ks : List Str) (pm : List Nat) : Prop where
  ok : ∀ fd oc od osl, G.K.lookup f = some ⟨oc, od, .func fd, osl⟩ → ∀ us ws : List Value, us.length = n → ws.length = ks.length → bindArgs fd ⟨us, ks.zip ws⟩ = pure (ps.zip (us ++ perm pm ws))
theorem kwFn_of {x qual : Str} {params : Arguments} {body : List Stmt} {scope : Scope} {kwd : List (Str × V)} {f : Addr} {fd : FuncData} {n : Nat} {ks : List Str} {pm : List Nat} (Fd : FunD G.K x qual params body scope [] kwd f fd)
    (h : ∀ (kV doc pm' : Value) (an : Option Addr) (cdv ct : Value) (us ws : List Value), us.length = n → ws.length = ks.length → bindArgs (PySem.W.fnOf x qual params body scope .none kV doc pm' an cdv ct) ⟨us, ks.zip ws⟩ = pure (ps.zip (us ++ perm pm ws))) : KwFn G f ps n ks pm := by
  refine ⟨fun fd' oc' od' osl' l' us ws h1 h2 => ?_⟩
  obtain ⟨oc, od, dV, kV, doc, pm', an, cdv, ct, osl, rfl, lk, hcd, hD, hK⟩ := Fd.ex
  rw [lk] at l'
  cases l'
  rcases hD with ⟨_, rfl⟩ | ⟨e, _⟩
  · exact h kV doc pm' an cdv ct us ws h1 h2
  · exact absurd rfl e
theorem kwFn_super {Fn : NdefX.NF} {f cc D' : Addr} {n : Nat} {ks : List Str} {pm : List Nat} (Sd : SupDef G Fn f cc D')
    (h : ∀ (kV doc pm' : Value) (an : Option Addr) (ct : Value) (us ws : List Value), us.length = n → ws.length = ks.length → bindArgs (PySem.W.fnX Fn.name Fn.qual Fn.params Fn.body Fn.scope Fn.cl .none kV doc pm' an (.ref Fn.c) ct) ⟨us, ks.zip ws⟩ = pure (ps.zip (us ++ perm pm ws))) : KwFn G f ps n ks pm := by
  refine ⟨fun fd' oc' od' osl' l' us ws h1 h2 => ?_⟩
  obtain ⟨oc, od, kV, doc, pm', an, ct, osl, lf⟩ := Sd.ex
  rw [lf] at l'
  cases l'
  exact h kV doc pm' an ct us ws h1 h2
/-- C(k = e, ..), an instance that goes on changing -/
def tMakeKS (C : Addr) (n : Nat) (pm : List Nat) (sp : Sp) (E : St → XK) (t : TA) : TE := fun σ H Q => t σ H fun zs H1 => zs.length = n ∧ ∀ x dx, H1 x = none → H1 dx = none → dx ≠ x → sp (.ref x :: perm pm zs) (upd (upd H1 dx (.own x)) x (.ins C dx [])) (fun v H2 => v = .non ∧ Q (.ref x) H2) (E σ)
theorem pe_makeKS {X : Cx} {CX : CXT} {C f : Addr} {fd : FuncData} {sp : Sp} {E : St → XK} {t : TA} {x : Str} {ks : List Str} {pm : List Nat} (M : Mk X.K C f) (F : FnOk X.prog X.w X.K X.mg X.base CX k f fd ps sp) (hr : Room (k + 1) X.A) (hg : Gl X x) (hm : X.mg x = some (.ref C))
    (hb : ∀ us ws : List Value, us.length = 1 → ws.length = ks.length → bindArgs fd ⟨us, ks.zip ws⟩ = pure (ps.zip (us ++ perm pm ws))) (hx : ∀ σ, PassesAt CX X σ (E σ)) (hk : PK X kws t) (hdb : (x == ("__debug__" : Str)) = false)
    (hall : (backToKw pos (keywordEach kws X.env)).all (·.1.isSome) = true) (hks : (backToKw pos (keywordEach kws X.env)).filterMap (·.1) = ks) (hpl : ((backTo pos (starEach [] X.env)).any (·.1) || (backToKw pos (keywordEach kws X.env)).any (·.1.isNone)) = false) : PE X (.Call (.Name x p) [] kws pos) (tMakeKS C ks.length pm sp E t) := by
  refine ⟨fun pins s σ H Q I h => wpAny_Call_Name_kw (ld_glob I hg hm ?_ hdb)⟩
  refine PySem.W.callWith_KW0 (h₀ := X.base) I.ok.mod.kin M.kp hall (thn (hk.run pos pins s σ H _ I h) fun ws s2 ⟨zs, H2, I2, rz, ln, q⟩ => ⟨I2.kIn, ?_⟩) hpl
  rw [hks]
  have q := q (s2.heap.objs.size + 1) s2.heap.objs.size (I2.hok.fresh (Nat.le_succ _)) (I2.hok.fresh (Nat.le_refl _)) (Nat.ne_of_lt (Nat.lt_succ_self _))
  have J := Inv.made (C := C) I2
  have rr : Vals (V.ref (s2.heap.objs.size + 1) :: perm pm zs) ([Value.ref (s2.heap.objs.size + 1)] ++ perm pm ws) := .cons rfl (perm_vals rz pm)
  refine wpAny_call (make_map (f := f) I2.kIn M.makes M.init (beq_iff_eq.mp M.fn) (codeAny_mono (F.run _ X.stack _ _ ⟨[Value.ref (s2.heap.objs.size + 1)], ks.zip ws⟩ _ _ _ (E σ) (hr.make C [] (ks.zip ws)) (J.env0.make C [] (ks.zip ws)) (BindsTo.of_eq (hb [Value.ref (s2.heap.objs.size + 1)] ws rfl (by rw [← rz.length]; exact ln))) rr q) fun r s' hq => ?_))
  match r, hq with
  | .error e, hq => exact hx σ pins _ _ e s' J hq
  | .ok (.ret u), hq =>
    obtain ⟨v, H', I3, ru, ev, q3⟩ := J.after hq
    subst ev
    exact ⟨ru, ⟨V.ref (s2.heap.objs.size + 1), H', I3, rfl, q3⟩⟩
  | .ok .next, hq => exact False.elim hq
  | .ok .brk, hq => exact False.elim hq
  | .ok .cont, hq => exact False.elim hq
/-- the same over data -/
def dMakeKC (c : Str) (n : Nat) (pm : List Nat) (m : Nat) (S : DSp) (t : DA) : DE := fun env M Q E => t env M (fun zs M1 => zs.length = m ∧ (perm pm zs).length + 1 = n ∧ ∀ a, M1 a = none → S (.cell a :: perm pm zs) (M1.put a (.ins c [] [])) (fun d M2 => d = .non ∧ Q (.cell a) M2) E) E
theorem pd_makeKC {cl : Str} {f : Addr} {S : DSp} {ks : List Str} {pm : List Nat} (D' : Def G j f ps S) (hj : j + 1 ≤ k) (hc : MakeOk G cl f) (hw : KwFn G f ps 1 ks pm) (hg : glB sc cl = true) (ha : PDK G k N sc kws tr)
    (hall : ∀ env, (backToKw pos (keywordEach kws env)).all (·.1.isSome) = true := by intro _; rfl) (hks : ∀ env, (backToKw pos (keywordEach kws env)).filterMap (·.1) = ks := by intro _; rfl) (hpl : ∀ env, ((backTo pos (starEach [] env)).any (·.1) || (backToKw pos (keywordEach kws env)).any (·.1.isNone)) = false := by intro _; rfl) :
    PD G k N sc (.Call (.Name cl p) [] kws pos) (dMakeKC cl ps.length pm ks.length S tr) := fun W X ok tk => by
  obtain ⟨fd, hb, Fk, oc, od, osl, lk⟩ := D'.ex
  obtain ⟨g1, g2⟩ := gl_of ok.scp hg
  have hgx := ok.g
  subst hgx
  refine PE.imp (pe_makeKS hc.mkr Fk (ok.room.mono hj) g1 hc.mg (hw.ok fd oc od osl lk) (passAt tk) (ha W X ok tk) g2 (hall X.env) (hks X.env) (hpl X.env)) fun σ H Qh ⟨env, F, M, Φ, Q, E, hE, w, h, np, ep⟩ => ?_
  refine ⟨env, F, M, Φ, _, E, hE, w, h, fun ds vs F1 M1 H1 e1 w1 rs q => ⟨by rw [← rs.len]; exact q.1, fun x dx hx hd ne => ?_⟩, ep⟩
  obtain ⟨_, ql, q⟩ := q
  obtain ⟨F2, e2, w2⟩ := w1.made (cl := cl) hx hd ne
  refine ⟨F2, _, Φ, .cell x :: perm pm ds, _, E, w2, .cons (by rw [Rep]) ((perm_reps rs pm).mono e2), by rw [List.length_cons]; exact ql, q x (w1.freeM hx), fun d v F3 M3 H3 e3 w3 r3 q3 => ?_, ep.mono (e1.trans e2)⟩
  obtain ⟨rfl, q3⟩ := q3
  rw [Rep] at r3
  exact ⟨r3, np _ _ _ _ _ ((e1.trans e2).trans e3) w3 (by rw [Rep]) q3⟩
end HD
/-! {**d, k: v} -/
namespace HD
open PySem PySem.Spec L2
section
variable {P : Program} {w : World} {K : Type} [DecidableEq K] {knd : KeyKind P w K} {A : Around} {E : Value → Shared → Prop} {s : Shared}
theorem put_pairs {d : Addr} {kvs : List (K × Value)} {k : K} {key v : Value} {Q : Unit → Shared → Prop} (hkey : knd.is k key = true) (hm : s.heap.DictOf knd d kvs)
    (hQ : ∀ h', h'.DictOf knd d (stored kvs k v) → Heap.SameBut d s.heap h' → Q () { s with heap := h' }) (hsz : kvs.length ≤ sizeLine) :
    wpAny (model P w) A (dictPut d (knd.hash k) key v) Q E s := by
  obtain ⟨o, es, ep, ho, hc, hd, hk, hp, hn⟩ := hm
  have hes : es.size ≤ sizeLine := by
    have e1 := hp.length
    have e2 : es.toList.length = es.size := by simp
    omega
  unfold dictPut
  refine wpAny_bind (wpAny_dictFind_of hkey ho hd hk ?_)
  have hidx : (es.findIdx? fun e => knd.is k e.key) = kvs.findIdx? fun kv => decide (kv.1 = k) := by
    rw [← hp.findIdx k]; obtain ⟨l⟩ := es; simp
  cases hi : es.findIdx? fun e => knd.is k e.key with
  | some i =>
    have hl : (es.toList.findIdx? fun e => knd.is k e.key) = some i := by rw [← hi]; obtain ⟨l⟩ := es; simp
    refine wpAny_updateDict ho hd (hQ _ ⟨_, _, ep, Heap.get?_update_self _ ho (Obj.isFreed_of_dict (Obj.data_mapDict hd _)), hc.mapDict _, Obj.data_mapDict hd _, hk.modify _ _, ?_, ?_⟩ (Heap.SameBut.update ..))
    · rw [stored, if_pos (any_of_findIdx_some (hidx ▸ hi))]
      have z := hp.modify hn hl v
      obtain ⟨l⟩ := es
      simpa using z
    · rw [stored, if_pos (any_of_findIdx_some (hidx ▸ hi)), keys_map_store]; exact hn
  | none =>
    have hnot : k ∉ kvs.map (·.1) := not_mem_of_findIdx_none (hidx ▸ hi)
    have hany : ¬ (kvs.any fun kv => decide (kv.1 = k)) = true := by
      rw [List.any_eq_true]; rintro ⟨kv, hkv, he⟩
      exact hnot (List.mem_map.mpr ⟨kv, hkv, of_decide_eq_true he⟩)
    refine wpAny_updateDictKeys (hz := hes) ho hd (hQ _ ⟨_, _, ep + 1, Heap.get?_update_self _ ho (Obj.isFreed_of_dict (Obj.data_mapDictKeys hd _)), hc.mapDictKeys _, Obj.data_mapDictKeys hd _, hk.push hkey _, ?_, ?_⟩ (Heap.SameBut.update ..))
    · rw [stored, if_neg hany]
      have z := hp.append hkey (knd.hash k) v
      obtain ⟨l⟩ := es
      simpa using z
    · rw [stored, if_neg hany, List.map_append, List.nodup_append]
      refine ⟨hn, by simp, ?_⟩
      intro a ha b hb
      simp only [List.map_cons, List.map_nil, List.mem_singleton] at hb
      subst hb
      exact fun e => hnot (e ▸ ha)
/-- the keys are no objects (ints, texts) -/
def FlatKeys (knd : KeyKind P w K) : Prop := ∀ k u, knd.is k u = true → ∀ a, u ≠ .ref a
theorem merge_pairs {d o : Addr} {kvs more : List (K × Value)} {Q : Unit → Shared → Prop} (hfk : FlatKeys knd) (hdo : d ≠ o) (hoS : (o == sysModules) = false) (hd : s.heap.DictOf knd d kvs) (ho : s.heap.DictOf knd o more)
    (hQ : ∀ h', h'.DictOf knd d (merged kvs more) → h'.DictOf knd o more → Heap.SameBut d s.heap h' → Q () { s with heap := h' }) (hsz : kvs.length + more.length ≤ sizeLine) :
    wpAny (model P w) A (mergeMapping d (.ref o) false) Q E s := by
  obtain ⟨od, esd, epd, hod, hcd, hdd, hkd, hpd, hnd⟩ := id hd
  obtain ⟨oo, eso, epo, hoo, hco, hdo', hko, hpo, hno⟩ := id ho
  have hT : s.TypeIs (.ref o) "dict" := ⟨_, hoo, hco.1⟩
  have hlen : more.length = eso.size := by rw [← hpo.length]; simp
  have hsub : isSubtype (.type "dict") (.type "dict") = pure true := by rw [isSubtype_type]; kernel_rfl
  unfold mergeMapping
  refine wpAny_bind (m := isInstance (.ref o) (.type "dict")) (wpAny_isInstance hT hsub ?_)
  dsimp only
  rw [if_pos rfl]
  refine wpAny_bind (m := specialOf (.ref o) "__iter__") (wpAny_specialOf hT F.slot_dict_iter.lookup ?_)
  have hb : (some (Value.builtin "dict.__iter__") == some (Value.builtin "dict.__iter__")) = true := by simp
  rw [hb]
  show wpAny _ _ (if (o == sysModules) = true then _ else _) _ _ _
  rw [if_neg (by rw [hoS]; exact Bool.false_ne_true)]
  have loop : wpAny (model P w) A (do
      let l ← dictEntries o
      let epoch ← dictEpoch o
      forIn (List.range l.size) PUnit.unit fun i (_ : PUnit) => (do
          let l' ← dictEntries o
          match l'[i]? with
            | some e => do
              holding [e.key, e.val] (dictPut d e.hash e.key e.val)
              let ep' ← dictEpoch o
              if (ep' != epoch) = true then do
                  (unsupported "dict.changed-during-merge" : Sem PUnit)
                  pure (ForInStep.yield PUnit.unit)
                else pure (ForInStep.yield PUnit.unit)
            | _ => do
              (unsupported "dict.changed-during-merge" : Sem PUnit)
              pure (ForInStep.yield PUnit.unit) : Sem (ForInStep PUnit))
      pure ()) Q E s := by
    refine wpAny_bind (wpAny_dictEntries hoo hdo' ?_)
    refine wpAny_bind (wpAny_dictEpoch hoo hdo' ?_)
    refine wpAny_bind ?_
    refine wpAny_forIn_list _
      (fun rest _ s' => ∃ h' i, s' = { s with heap := h' } ∧ rest = List.range' i (eso.size - i) ∧ i ≤ eso.size ∧ h'.DictOf knd d (merged kvs (more.take i)) ∧ h'.get? o = some oo ∧ Heap.SameBut d s.heap h')
      _ ?_ ?_ _ _ ⟨s.heap, 0, rfl, by rw [List.range_eq_range']; simp, Nat.zero_le _, by simpa [merged] using hd, hoo, Heap.SameBut.refl _ _⟩
    · rintro x rest b s' ⟨h', i, rfl, hr, hi, hd', hoo', hs'⟩
      have hlt : i < eso.size := by
        rcases Nat.lt_or_ge i eso.size with h | h
        · exact h
        · rw [Nat.sub_eq_zero_of_le h] at hr; simp at hr
      obtain ⟨rfl, hrest⟩ : x = i ∧ rest = List.range' (i + 1) (eso.size - (i + 1)) := by
        have z : eso.size - i = (eso.size - (i + 1)) + 1 := by omega
        rw [z, List.range'_succ] at hr
        injection hr with z1 z2
        exact ⟨z1, z2⟩
      refine wpAny_bind (wpAny_dictEntries hoo' hdo' ?_)
      rw [Array.getElem?_eq_getElem hlt]
      obtain ⟨⟨k, v⟩, hkv⟩ : ∃ kv, more[x]? = some kv := ⟨more[x]'(by rw [hlen]; exact hlt), List.getElem?_eq_getElem _⟩
      obtain ⟨hkey, hval⟩ := hpo.get? (e := eso[x]) (by simp [hlt]) hkv
      obtain ⟨k', hkey', hhash⟩ := hko eso[x] (Array.getElem_mem hlt)
      obtain rfl : k' = k := knd.inj _ _ _ hkey' hkey
      show wpAny _ _ (holding [eso[x].key, eso[x].val] (dictPut d eso[x].hash eso[x].key eso[x].val) >>= _) _ _ _
      rw [hhash, hval]
      have hmx : (merged kvs (more.take x)).length ≤ sizeLine := by
        have z1 := merged_length_le kvs (more.take x)
        have z2 : (more.take x).length ≤ more.length := by rw [List.length_take]; omega
        omega
      refine wpAny_bind (wpAny_holding (put_pairs (hsz := hmx) hkey hd' fun h2 hd2 hs2 => ?_))
      have hoo2 : h2.get? o = some oo := (hs2.2 o (Ne.symm hdo)).trans hoo'
      refine wpAny_bind (wpAny_dictEpoch hoo2 hdo' ?_)
      rw [if_neg (by simp)]
      exact wpAny_pure ⟨h2, x + 1, rfl, hrest, hlt, by rw [merged_take_succ kvs more x (k', v) hkv]; exact hd2, hoo2, hs'.trans hs2⟩
    · rintro b s' ⟨h', i, rfl, hr, hi, hd', hoo', hs'⟩
      have hin : i = eso.size := by
        rcases Nat.lt_or_ge i eso.size with h | h
        · have z : eso.size - i = (eso.size - (i + 1)) + 1 := by omega
          rw [z, List.range'_succ] at hr; exact nomatch hr
        · exact Nat.le_antisymm hi h
      refine wpAny_pure (hQ h' ?_ ⟨oo, eso, epo, hoo', hco, hdo', hko, hpo, hno⟩ hs')
      rw [hin, ← hlen, List.take_length] at hd'; exact hd'
  refine wpAny_bind (wpAny_dictEntries hod hdd ?_)
  split
  · refine wpAny_bind (wpAny_dictEntries hoo hdo' ?_)
    refine wpAny_bind ?_
    rw [← Array.forIn_toList]
    refine wpAny_forIn_list _ (fun rest _ s' => s' = s ∧ ∀ e ∈ rest, e ∈ eso.toList) _ ?_ ?_ _ _ ⟨rfl, fun e h => h⟩
    · rintro x rest b s' ⟨rfl, hr⟩
      have hx := hr x (List.mem_cons_self ..)
      obtain ⟨k, hk, _⟩ := hko x (by simpa using hx)
      have nr := hfk k x.key hk
      cases q : x.key with
      | ref a => exact absurd q (nr a)
      | _ => simp only [q]; exact wpAny_pure ⟨rfl, fun e h => hr e (List.mem_cons_of_mem _ h)⟩
    · rintro b s' ⟨rfl, _⟩
      exact loop
  · exact loop
end
theorem flat_mix {P : Program} {w : World} : FlatKeys (mixKind P w) := by
  intro k u h a e
  subst e
  cases k <;> exact Bool.noConfusion h
section
variable {M : Model} {A : Around} {E : Value → Shared → Prop} {s : Shared}
/-- the display's run -/
theorem disp_star {m ek ev : Sem Value} {Q : Value → Shared → Prop}
    (h : wpAny M A m (fun x s1 => wpAny M A (mergeMapping s.heap.objs.size x false) (fun _ s2 => wpAny M A (subDict [(ek, ev)]) (fun sub s3 => wpAny M A (mergeMapping s.heap.objs.size (.ref sub) false) (fun _ s4 => Q (.ref s.heap.objs.size) s4) (fun _ _ => False) s3) E s2) (fun _ _ => False) s1) E { s with heap := s.heap.push { cls := .type "dict", data := .dict #[] } }) :
    wpAny M A (dictDisplay [(none, m), (some ek, ev)]) Q E s := by
  unfold dictDisplay
  simp only [List.forIn_cons, List.forIn_nil, List.isEmpty_nil, if_true, List.nil_append, List.length_cons, List.length_nil]
  refine wpAny_bind (wpAny_bind (wpAny_bind (wpAny_pure ?_)))
  refine wpAny_bind (wpAny_alloc ?_)
  refine wpAny_bind (wpAny_holding (wpAny_mono h (fun x s1 h1 => ?_) fun _ _ z => z))
  refine wpAny_bind (wpAny_onRaise (wpAny_tryCatch (wpAny_onRaise (wpAny_holding (wpAny_mono h1 (fun u s2 h2 => ?_) fun _ _ z => z.elim)))))
  refine wpAny_pure ?_
  refine wpAny_bind ?_
  rw [if_neg (by simp)]
  refine wpAny_pure (wpAny_pure ?_)
  refine wpAny_bind ?_
  rw [if_neg (by simp)]
  refine wpAny_bind (wpAny_holding (wpAny_mono h2 (fun sub s3 h3 => ?_) fun _ _ z => z))
  refine wpAny_bind (wpAny_onRaise (wpAny_holding (wpAny_mono h3 (fun u s4 h4 => ?_) fun _ _ z => z.elim)))
  exact wpAny_pure (wpAny_pure h4)
end
section
variable {X : Cx} {pos : Pos} {em ek ev : Expr} {tm tk tv : TE}
def tMrg (tm tk tv : TE) : TE := fun σ H Q => ∀ p, H p = none → tm σ (upd H p (.dK [])) fun x H1 => H1 p = some (.dK []) ∧ ∃ a kvs, x = .ref a ∧ a ≠ p ∧ Rd H1 a (.dK kvs) ∧ kvs.length ≤ 100000 ∧
  ∀ q, upd H1 p (.dK (mergeK [] kvs)) q = none → tk σ (upd (upd H1 p (.dK (mergeK [] kvs))) q (.dK [])) fun y H3 => tv σ H3 fun z H4 => ∃ k, y = kV k ∧ H4 p = some (.dK (mergeK [] kvs)) ∧ H4 q = some (.dK []) ∧ q ≠ p ∧
    Q (.ref p) (upd (upd H4 q (.dK (mergeK [] [(k, z)]))) p (.dK (mergeK (mergeK [] kvs) (mergeK [] [(k, z)]))))
theorem pe_mrg (hm : PE X em tm) (hk : PE X ek tk) (hv : PE X ev tv) : PE X (.Dict [none, some ek] [em, ev] pos) (tMrg tm tk tv) := by
  refine ⟨fun pins s σ H Q I q => ?_⟩
  have hn := I.hok.fresh (Nat.le_refl s.heap.objs.size)
  have I1 := I.laid (a := s.heap.objs.size) (o := .dK []) (h' := s.heap.push { cls := .type "dict", data := .dict #[] }) (t' := s.toks) (fun _ _ q => Heap.get?_push_of_some _ q) (Nat.le_refl _) (dk_empty s.heap I.big)
  have q := q _ hn
  show wpAny _ _ (do standAt pos; dictDisplay [(none, do let x ← eval em X.env; standAt pos; pure x), (some (eval ek X.env), do let x ← eval ev X.env; standAt pos; pure x)]) _ _ _
  refine wpAny_bind (wpAny_standAt (disp_star ?_))
  refine wpAny_bind (thn (hm.run pins _ σ _ _ I1 q) fun u s1 ⟨x, H1, I2, rx, e1, a, kvs, ex, ne, ra, lk, q2⟩ => wpAny_bind (wpAny_standAt (wpAny_pure ?_)))
  subst ex
  cases rx
  obtain ⟨z0, hd0, vs0, r0, dd0⟩ := dk_of I2.hok e1
  obtain ⟨z1, hd1, vs1, r1, dd1⟩ := dk_rd I2.hok ra
  cases r0
  have l1 := r1.length
  refine merge_pairs flat_mix ne.symm hd1 dd0 dd1 (fun h2 hd2 ho2 hs2 => ?_) (by rw [sizeLine_eq]; show 0 + _ ≤ _; omega)
  have hl := length_mergeK kvs []
  rw [List.length_nil] at hl
  have he2 : ∃ q, h2.get? s.heap.objs.size = some q := let ⟨q, _, _, hq, _⟩ := hd2; ⟨q, hq⟩
  have I3 : Inv X pins σ (upd H1 s.heap.objs.size (.dK (mergeK [] kvs))) { s1 with heap := h2 } := d_write (t' := s1.toks) I2 (by rw [e1]; exact True.intro) hs2 he2 (dk_new (by rw [sizeLine_eq]; omega) hd0 (r1.merge .nil) hd2)
  have hn3 := I3.hok.fresh (Nat.le_refl h2.objs.size)
  have I4 := I3.laid (a := h2.objs.size) (o := .dK []) (h' := h2.push { cls := .type "dict", data := .dict #[] }) (t' := s1.toks) (fun _ _ q => Heap.get?_push_of_some _ q) (Nat.le_refl _) (dk_empty h2 I3.big)
  have q2 := q2 _ hn3
  refine wpAny_subDict (knd := mixKind X.prog X.w) (show 1 ≤ 15 by decide) ?_
  refine evalPairs_cons (thn (hk.run pins _ σ _ _ I4 q2) fun ku s3 ⟨y, H3, I5, ry, q3⟩ => wpAny_bind (thn (hv.run pins _ σ _ _ I5 q3) fun zu s4 ⟨z, H4, I6, rz, k, ey, e4, e5, neq, q4⟩ => wpAny_bind (wpAny_standAt (wpAny_pure (evalPairs_nil ?_)))))
  subst ey
  have rel : VV ([(k, z)].map fun kv => (kV kv.1, kv.2)) [(ku, zu)] := .cons ⟨ry, rz⟩ .nil
  obtain ⟨rs, c, rk⟩ := carries_of (P := X.prog) (w := X.w) rel
  obtain ⟨z5, hd5, vs5, r5, dd5⟩ := dk_of I6.hok e5
  obtain ⟨z4, hd4, vs4, r4, dd4⟩ := dk_of I6.hok e4
  cases r5
  refine ⟨rs, c, dd5, fun h5 dh5 hs5 => ?_⟩
  have lm : (mergeK [] [(k, z)]).length ≤ 1 := length_mergeK [(k, z)] []
  have he5 : ∃ q, h5.get? h2.objs.size = some q := let ⟨q, _, _, hq, _⟩ := dh5; ⟨q, hq⟩
  have I7 : Inv X pins σ (upd H4 h2.objs.size (.dK (mergeK [] [(k, z)]))) { s4 with heap := h5, toks := s4.toks + 1 } := d_write I6 (by rw [e5]; exact True.intro) hs5 he5 (dk_new (by rw [sizeLine_eq]; omega) hd5 (rk.merge .nil) dh5)
  have hp7 : upd H4 h2.objs.size (.dK (mergeK [] [(k, z)])) s.heap.objs.size = some (.dK (mergeK [] kvs)) := by rw [upd_ne (Ne.symm neq)]; exact e4
  obtain ⟨z7, hd7, vs7, r7, dd7⟩ := dk_of I7.hok hp7
  have lr : (merged [] rs).length ≤ 1 := by rw [← (rk.merge (kvs := []) .nil).length]; exact lm
  have l7 := r7.length
  refine merge_pairs flat_mix (Ne.symm neq) hd5 dd7 dh5 (fun h8 hd8 ho8 hs8 => ?_) (by rw [sizeLine_eq]; omega)
  have he8 : ∃ q, h8.get? s.heap.objs.size = some q := let ⟨q, _, _, hq, _⟩ := hd8; ⟨q, hq⟩
  have lm8 := length_mergeK (mergeK [] [(k, z)]) (mergeK [] kvs)
  exact ⟨.ref s.heap.objs.size, _, d_write (t' := s4.toks + 1) I7 (by rw [hp7]; exact True.intro) hs8 he8 (dk_new (by rw [sizeLine_eq]; omega) hd7 ((rk.merge .nil).merge r7) hd8), rfl, q4⟩
end
end HD
/-! dicts that from their making on never change, over data -/
namespace HD
open PySem PySem.Spec L2
variable {G : Gx} {F F' H H' Φ : Hp} {σ : St} {env : En} {M M' : MS} {k j : Nat} {N ps : List Str} {sc : ScX} {e a b c : Expr} {pos p : Pos} {te ta tb tc tm tk tv : DE} {es : List Expr} {tr : DA}
/-! ### keys -/
def keyD : D → Option Key
  | .int i => some (.inl i)
  | .str s => some (.inr s)
  | _ => none
theorem keyD_ok {d : D} {v : V} {y : Key} (r : Rep G F d v) (h : keyD d = some y) : v = kV y := by
  cases d <;> first
    | (cases h; done)
    | (rw [Rep] at r; subst r; cases h; rfl)
def keyOf : Key → D
  | .inl i => .int i
  | .inr s => .str s
theorem rep_key (y : Key) : Rep G F (keyOf y) (kV y) := by cases y <;> (unfold keyOf; rw [Rep]; rfl)
def getD' : List Key → List D → Key → Option D
  | y :: ys, d :: ds, z => if y = z then some d else getD' ys ds z
  | _, _, _ => none
theorem getD_ok {z : Key} : ∀ {ys : List Key} {ds : List D} {vs : List V}, ys.length = ds.length → Reps G F ds vs → match getD' ys ds z with
    | some d => ∃ v, valV (ys.zip vs) z = some v ∧ Rep G F d v
    | none => valV (ys.zip vs) z = none
  | [], [], vs, _, r => by rw [Reps] at r; subst r; exact valV_nil
  | y :: ys, d :: ds, vs, hl, r => by
    rw [Reps] at r; obtain ⟨v, us, rfl, h1, h2⟩ := r
    unfold getD'
    by_cases e : y = z
    · rw [if_pos e]
      exact ⟨v, valV_pos (p := (y, v)) e, h1⟩
    · rw [if_neg e, List.zip_cons_cons]
      have ih := getD_ok (z := z) (ys := ys) (by simpa using hl) h2
      have q : valV ((y, v) :: ys.zip us) z = valV (ys.zip us) z := valV_neg (p := (y, v)) e
      rw [q]; exact ih
  | [], _ :: _, _, hl, _ => by simp at hl
  | _ :: _, [], _, hl, _ => by simp at hl
/-! ### d[k] = v of another dict -/
def memK (ys : List Key) (z : Key) : Bool := ys.any fun y => decide (y = z)
theorem memK_iff {ys : List Key} {z : Key} : memK ys z = true ↔ z ∈ ys := by
  unfold memK
  rw [List.any_eq_true]
  exact ⟨fun ⟨x, h1, h2⟩ => of_decide_eq_true h2 ▸ h1, fun h => ⟨z, h, decide_eq_true rfl⟩⟩
def kput (ys : List Key) (z : Key) : List Key := if memK ys z = true then ys else ys ++ [z]
def dput {α : Type} (ys : List Key) (ds : List α) (z : Key) (x : α) : List α := if memK ys z = true then List.zipWith (fun y d => if y = z then x else d) ys ds else ds ++ [x]
theorem any_mem {z : Key} {v : V} : ∀ {ys : List Key} {vs : List V}, ys.length = vs.length → ((ys.zip vs).any fun kv => decide (kv.1 = z)) = memK ys z
  | [], [], _ => rfl
  | y :: ys, v' :: vs, hl => by
    unfold memK
    rw [List.zip_cons_cons, List.any_cons, List.any_cons, any_mem (v := v) (ys := ys) (by simpa using hl)]; rfl
  | [], _ :: _, hl => by simp at hl
  | _ :: _, [], hl => by simp at hl
theorem putK_zip {z : Key} {x : V} {ys : List Key} {vs : List V} (hl : ys.length = vs.length) : putK (ys.zip vs) z x = (kput ys z).zip (dput ys vs z x) ∧ (kput ys z).length = (dput ys vs z x).length := by
  unfold putK kput dput
  rw [any_mem (v := x) hl]
  by_cases h : memK ys z = true
  · rw [if_pos h, if_pos h, if_pos h]
    refine ⟨?_, by rw [List.length_zipWith]; omega⟩
    clear h
    induction ys generalizing vs with
    | nil => simp
    | cons y ys ih =>
      cases vs with
      | nil => simp at hl
      | cons v vs =>
        rw [List.zip_cons_cons, List.map_cons, List.zipWith_cons_cons, List.zip_cons_cons, ih (by simpa using hl)]
        by_cases e : y = z
        · rw [if_pos e, if_pos e]
        · rw [if_neg e, if_neg e]
  · rw [if_neg h, if_neg h, if_neg h]
    exact ⟨by rw [List.zip_append hl]; rfl, by simp [hl]⟩
theorem Reps.dput {z : Key} {x : D} {v : V} (r1 : Rep G F x v) : ∀ {ys : List Key} {ds : List D} {vs : List V}, Reps G F ds vs → Reps G F (dput ys ds z x) (dput ys vs z v) := by
  intro ys ds vs r
  unfold HD.dput
  by_cases h : memK ys z = true
  · rw [if_pos h, if_pos h]
    clear h
    induction ys generalizing ds vs with
    | nil => simpa using Reps.nil
    | cons y ys ih =>
      cases ds with
      | nil => rw [Reps] at r; subst r; simpa using Reps.nil
      | cons d ds =>
        rw [Reps] at r; obtain ⟨u, us, rfl, h1, h2⟩ := r
        rw [List.zipWith_cons_cons, List.zipWith_cons_cons]
        refine .cons ?_ (ih h2)
        by_cases e : y = z
        · rw [if_pos e, if_pos e]; exact r1
        · rw [if_neg e, if_neg e]; exact h1
  · rw [if_neg h, if_neg h]; exact r.snoc r1
theorem kput_nodup {ys : List Key} {z : Key} (h : ys.Nodup) : (kput ys z).Nodup := by
  unfold kput
  split
  · exact h
  · rename_i q
    exact List.nodup_append.mpr ⟨h, by simp, fun a ha b hb => by simp at hb; subst hb; exact fun e => q (memK_iff.mpr (e ▸ ha))⟩
theorem mergeK_app : ∀ {more acc : List (Key × V)}, ((acc ++ more).map (·.1)).Nodup → mergeK acc more = acc ++ more
  | [], acc, _ => by simp [mergeK]
  | kv :: more, acc, h => by
    have hn : valV acc kv.1 = none := by
      cases q : valV acc kv.1 with
      | none => rfl
      | some v =>
        exfalso
        have hm := valV_in q
        rw [List.map_append, List.nodup_append] at h
        exact h.2.2 _ hm _ (by simp) rfl
    show mergeK (putK acc kv.1 kv.2) more = _
    rw [putK_new kv.2 hn, mergeK_app (by simpa using h)]
    simp
theorem mergeK_zip {ys : List Key} {vs : List V} (h : ys.Nodup) (hl : ys.length = vs.length) : mergeK [] (ys.zip vs) = ys.zip vs := by
  have : ((ys.zip vs).map (·.1)) = ys := List.map_fst_zip (by omega)
  rw [mergeK_app (by rw [List.nil_append, this]; exact h), List.nil_append]

/-! ### the rules -/
/-- what was made is from now on locked -/
theorem pe_lock {X : Cx} {t : TE} (h : PE X e t) : PE X e (fun σ H Q => t σ H fun v H' => ∃ d u, H' d = some u ∧ Mut (some u) ∧ ∀ o, Q v (upd H' d (.frz o u))) := ⟨fun pins s σ H Q I q =>
  thn (h.run pins s σ H _ I q) fun u s' ⟨v, H', I', rv, d, w, e, mu, q⟩ => by
    obtain ⟨od, I2⟩ := I'.lock e mu
    exact ⟨v, _, I2, rv, q od⟩⟩
theorem upd_upd {H : Hp} {p : Addr} {a b : HO} : upd (upd H p a) p b = upd H p b := by
  funext x
  by_cases e : x = p
  · subst e; rw [upd_same, upd_same]
  · rw [upd_ne e, upd_ne e, upd_ne e]
theorem pd_dnew : PD G k N sc (.Dict [] [] pos) (dC (.dic [] [])) := fun W X ok tk => PE.imp (pe_lock pe_dnewK) fun σ H Qh ⟨env, F, M, Φ, Q, E, hE, w, h, np, ep⟩ => fun p hp => ⟨p, .dK [], upd_same, trivial, fun o => by
  rw [upd_upd]
  exact np _ _ _ _ _ (w.newEx hp) (w.new hp) (by rw [Rep]; exact ⟨p, o, [], rfl, upd_same, rfl, List.nodup_nil, .nil⟩) h⟩
/-- d[k] -/
def dGet (td ty : DE) : DE := fun env M Q E => td env M (fun x M1 => ty env M1 (fun y M2 => ∃ ks ds z d, x = .dic ks ds ∧ keyD y = some z ∧ getD' ks ds z = some d ∧ Q d M2) E) E
theorem room1 {X : Cx} (ok : XOk G k N sc X) : X.A.units + 1 < cLine := by have := ok.room.un; omega
theorem dget_ok {ks : List Key} {ds : List D} {x y : D} {vx vy : V} {z : Key} (w : Wd G F M Φ H) (rx : Rep G F (.dic ks ds) vx) (ry : Rep G F y vy) (hk : keyD y = some z) : ∃ a vs, vx = .ref a ∧ vy = kV z ∧ ks.length = ds.length ∧ Reps G F ds vs ∧ DGet H a vy (valV (ks.zip vs) z) := by
  rw [Rep] at rx
  obtain ⟨a, o, vs, rfl, h1, h2, h3, h4⟩ := rx
  have e := keyD_ok ry hk
  exact ⟨a, vs, rfl, e, h2, h4, .inl ⟨_, z, .inr ⟨o, w.f _ _ h1⟩, e, rfl⟩⟩
theorem pd_dget {o i : Expr} {to ti : DE} (ho : PD G k N sc o to) (hi : PD G k N sc i ti) (hs : PlainIx i) : PD G k N sc (.Subscript o i pos) (dGet to ti) := fun W X ok tk =>
  PE.imp (pe_dget (room1 ok) (ho W X ok tk) (hi W X ok tk) hs) fun σ H Qh ⟨env, F, M, Φ, Q, E, hE, w, h, np, ep⟩ => tD.seq hE w h ep fun d v F1 M1 H1 e1 w1 hE1 r1 q1 ep1 => tD.seq hE1 w1 q1 ep1 fun d2 v2 F2 M2 H2 e2 w2 hE2 r2 q2 ep2 => by
    obtain ⟨ks, ds, z, x, rfl, hz, hg, q⟩ := q2
    obtain ⟨a, vs, rfl, e, hl, rs, g⟩ := dget_ok (x := .non) w2 (r1.mono e2) r2 hz
    have q3 := getD_ok (z := z) hl rs
    rw [hg] at q3
    obtain ⟨u, h1, h2⟩ := q3
    rw [h1] at g
    exact ⟨a, u, rfl, g, np _ _ F2 M2 H2 (e1.trans e2) w2 h2 q⟩
/-- k in d, k not in d -/
def dDIn (neg : Bool) (ty td : DE) : DE := fun env M Q E => ty env M (fun y M1 => td env M1 (fun x M2 => ∃ ks ds z, x = .dic ks ds ∧ keyD y = some z ∧ Q (.bl (if neg then (getD' ks ds z).isNone else (getD' ks ds z).isSome)) M2) E) E
theorem pd_din {o i : Expr} {to ti : DE} (hi : PD G k N sc i ti) (ho : PD G k N sc o to) (hm : behindInMarks .In o = false) : PD G k N sc (.Compare i [.In] [o] pos) (dDIn false ti to) := fun W X ok tk =>
  PE.imp (pe_cmp (pc_din (room1 ok) (hi W X ok tk) (ho W X ok tk)) hm) fun σ H Qh ⟨env, F, M, Φ, Q, E, hE, w, h, np, ep⟩ => tD.seq hE w h ep fun d v F1 M1 H1 e1 w1 hE1 r1 q1 ep1 => tD.seq hE1 w1 q1 ep1 fun d2 v2 F2 M2 H2 e2 w2 hE2 r2 q2 ep2 => by
    obtain ⟨ks, ds, z, rfl, hz, q⟩ := q2
    obtain ⟨a, vs, rfl, e, hl, rs, g⟩ := dget_ok (x := .non) w2 r2 (r1.mono e2) hz
    refine ⟨a, _, rfl, g, np _ _ F2 M2 H2 (e1.trans e2) w2 ?_ q⟩
    rw [Rep]
    have q3 := getD_ok (z := z) hl rs
    cases hg : getD' ks ds z with
    | none => rw [hg] at q3; rw [q3]; rfl
    | some u => rw [hg] at q3; obtain ⟨u', h1, _⟩ := q3; rw [h1]; rfl
theorem pd_dnin {o i : Expr} {to ti : DE} (hi : PD G k N sc i ti) (ho : PD G k N sc o to) (hm : behindInMarks .NotIn o = false) : PD G k N sc (.Compare i [.NotIn] [o] pos) (dDIn true ti to) := fun W X ok tk =>
  PE.imp (pe_cmp (pc_dnotin (room1 ok) (hi W X ok tk) (ho W X ok tk)) hm) fun σ H Qh ⟨env, F, M, Φ, Q, E, hE, w, h, np, ep⟩ => tD.seq hE w h ep fun d v F1 M1 H1 e1 w1 hE1 r1 q1 ep1 => tD.seq hE1 w1 q1 ep1 fun d2 v2 F2 M2 H2 e2 w2 hE2 r2 q2 ep2 => by
    obtain ⟨ks, ds, z, rfl, hz, q⟩ := q2
    obtain ⟨a, vs, rfl, e, hl, rs, g⟩ := dget_ok (x := .non) w2 r2 (r1.mono e2) hz
    refine ⟨a, _, rfl, g, np _ _ F2 M2 H2 (e1.trans e2) w2 ?_ q⟩
    rw [Rep]
    have q3 := getD_ok (z := z) hl rs
    cases hg : getD' ks ds z with
    | none => rw [hg] at q3; rw [q3]; rfl
    | some u => rw [hg] at q3; obtain ⟨u', h1, _⟩ := q3; rw [h1]; rfl
/-- {**d, k: v} -/
def dMrg (tm tk tv : DE) : DE := fun env M Q E => tm env M (fun x M1 => ∃ ks ds, x = .dic ks ds ∧ ks.length ≤ 100000 ∧ tk env M1 (fun y M2 => tv env M2 (fun z M3 => ∃ y', keyD y = some y' ∧ Q (.dic (kput ks y') (dput ks ds y' z)) M3) E) E) E
theorem pd_mrg {em ek ev : Expr} (hm : PD G k N sc em tm) (hk : PD G k N sc ek tk) (hv : PD G k N sc ev tv) : PD G k N sc (.Dict [none, some ek] [em, ev] pos) (dMrg tm tk tv) := fun W X ok tkk => by
  refine PE.imp (pe_lock (pe_mrg (hm W X ok tkk) (hk W X ok tkk) (hv W X ok tkk))) fun σ H Qh ⟨env, F, M, Φ, Q, E, hE, w, h, np, ep⟩ => fun p hp => ?_
  have hΦ := w.freeΦ hp
  refine ⟨env, F, M, upd Φ p (.dK []), _, E, hE, w.hide hp, h, fun d v F1 M1 H1 e1 w1 r1 q1 => ?_, ?_⟩
  rotate_left
  · intro c d v dx F' M' H' e w' r hx q
    have z := (w'.φ p _ upd_same).2.1
    exact ep c d v dx _ M' H' (e.trans (Ex.new z)) (w'.show_ hΦ) (r.mono (Ex.new z)) hx q
  obtain ⟨ks, ds, rfl, hz, q1⟩ := q1
  rw [Rep] at r1
  obtain ⟨a, o, vs, rfl, h1, hl, hnd, rs⟩ := r1
  have hp1 := w1.φ p _ upd_same
  have lv : ks.length = vs.length := by rw [hl, rs.len]
  have em : mergeK [] (ks.zip vs) = ks.zip vs := mergeK_zip hnd lv
  refine ⟨hp1.1, a, ks.zip vs, rfl, fun e => ?_, .inr ⟨o, w1.f _ _ h1⟩, by rw [List.length_zip]; omega, ?_⟩
  · subst e; rw [hp1.2.1] at h1; cases h1
  rw [em]
  intro qd hq
  have neq : qd ≠ p := fun e => by subst e; rw [upd_same] at hq; cases hq
  have w2 : Wd G F1 M1 (upd Φ p (.dK (ks.zip vs))) (upd H1 p (.dK (ks.zip vs))) := w1.hset
  have hΦ2 : upd Φ p (.dK (ks.zip vs)) qd = none := w2.freeΦ hq
  have w3 := w2.hide (o := .dK []) hq
  have back : ∀ {F4 : Hp} {M4 : MS} {H4 : Hp} {x y : HO}, Wd G F4 M4 (upd (upd Φ p x) qd y) H4 → ∃ F5, Ex F4 F5 ∧ Wd G F5 M4 Φ H4 ∧ F5 p = some x := fun {F4 M4 H4 x y} w4 => by
    have z1 := (w4.φ qd _ upd_same).2.1
    have hq2 : upd Φ p x qd = none := by rw [upd_ne neq] at hΦ2 ⊢; exact hΦ2
    have w5 := w4.show_ hq2
    have z2 := (w5.φ p _ upd_same).2.1
    exact ⟨_, (Ex.new z1).trans (Ex.new z2), w5.show_ hΦ, upd_same⟩
  have epb : ∀ {F4 : Hp} {x y : HO}, Ex F F4 → EPo G F4 (upd (upd Φ p x) qd y) E fun c d H' => W c d σ H' := fun {F4 x y} ex c d v dx F' M' H' e w' r hx q => by
    obtain ⟨F5, x5, w5, _⟩ := back w'
    exact ep c d v dx F5 M' H' ((ex.trans e).trans x5) w5 (r.mono x5) hx q
  refine tD.seq (hE.mono e1) w3 q1 (epb e1) fun y vy F2 M2 H2 e2 w4 hE2 r2 q2 ep2 => ?_
  refine tD.seq hE2 w4 q2 ep2 fun z vz F3 M3 H3 e3 w5 hE3 r3 q3 ep3 => ?_
  obtain ⟨y', hy, q3⟩ := q3
  have ey := keyD_ok r2 hy
  have hp5 := (w5.φ p _ (by rw [upd_ne (Ne.symm neq), upd_same])).1
  have hq5 := (w5.φ qd _ upd_same).1
  refine ⟨y', ey, hp5, hq5, neq, p, _, upd_same, trivial, fun od => ?_⟩
  rw [upd_upd]
  -- the new dict is laid among what never changes
  have w6 : Wd G F3 M3 (upd (upd Φ p (.dK (ks.zip vs))) qd (.dK (mergeK [] [(y', vz)]))) (upd H3 qd (.dK (mergeK [] [(y', vz)]))) := w5.hset
  have z1 := (w6.φ qd _ upd_same).2.1
  have w7 := w6.show_ hΦ2
  have w8 : Wd G _ M3 (upd Φ p (.frz od (.dK (mergeK (ks.zip vs) (mergeK [] [(y', vz)]))))) (upd (upd H3 qd (.dK (mergeK [] [(y', vz)]))) p (.frz od (.dK (mergeK (ks.zip vs) (mergeK [] [(y', vz)]))))) := w7.hset
  have z2 := (w8.φ p _ upd_same).2.1
  have w9 := w8.show_ hΦ
  have xx := (Ex.new (p := qd) (o := .dK (mergeK [] [(y', vz)])) z1).trans (Ex.new (p := p) (o := .frz od (.dK (mergeK (ks.zip vs) (mergeK [] [(y', vz)])))) z2)
  obtain ⟨p1, p2⟩ := putK_zip (z := y') (x := vz) lv
  refine np _ _ _ _ _ ((((e1.trans e2).trans e3)).trans xx) w9 ?_ q3
  rw [Rep]
  refine ⟨p, od, dput ks vs y' vz, rfl, ?_, ?_, kput_nodup hnd, ?_⟩
  · rw [upd_same, ← p1]; rfl
  · have := (Reps.dput (z := y') (ys := ks) (r3) (rs.mono (e2.trans e3))).len
    rw [p2, this]
  · exact (Reps.dput (z := y') (ys := ks) r3 (rs.mono (e2.trans e3))).mono xx
end HD
/-! o.f, o.g = a, b; sorted(d); d.items() walked; {k: v for .. in .. if ..} -/
namespace HD
open PySem PySem.Spec L2
variable {G : Gx} {F F' H H' Φ : Hp} {σ : St} {env : En} {M M' : MS} {k j : Nat} {N ps : List Str} {sc : ScX} {e a b c : Expr} {pos p : Pos} {te ta tb tc tm tk tv : DE} {es : List Expr} {tr : DA}
/-! ### attributes as targets -/
def gFld (K : PySem.W.Frag) (ta : TE) (f : Str) : TG := fun v σ H Q => ta σ H fun x H1 => ∃ a C dx fs, x = .ref a ∧ H1 a = some (.ins C dx fs) ∧ Cls K C ∧ NoAttr K C f ∧ fs.length < 1000 ∧ Q σ (upd H1 a (.ins C dx (putF f v fs)))
theorem pg_fld {X : Cx} {o : Expr} {f : Str} {pos : Pos} {ta : TE} (ha : PE X o ta) : PG X (.Attribute o f pos) (gFld X.K ta f) := ⟨fun pins s σ H v u Q I r h => by
  rw [assign_Attribute]
  refine wpAny_bind (wpAny_holding (thn (ha.run pins s σ H _ I h) fun ov s2 ⟨x, H2, I2, rx, a, C, dx, fs, ex, ea, c, n, l, q2⟩ => ?_))
  subst ex
  obtain rfl : ov = Value.ref a := rx
  refine wpAny_bind (wpAny_standAt (wpAny_bind (wpAny_holding (setattr_ok I2 ea c n l r fun s3 I3 => ?_))))
  exact wpAny_release ⟨σ, _, I3, q2⟩⟩
/-- o.f, o2.g = .. -/
def setF (cs : List Str) (f : Str) (x d : D) (M : MS) (R : MS → Prop) : Prop := ∃ a c ns ds, x = .cell a ∧ M a = some (.ins c ns ds) ∧ cs.contains c = true ∧ ns.length < 900 ∧ R (M.put a (.ins c (putN ns f) (putX ns ds f d)))
def sFld2 (cs : List Str) (f g : Str) (to to2 te : DE) : DS := fun D env M => te env M (fun d M1 => ∃ d1 d2, d = .tup [d1, d2] ∧ to env M1 (fun x M2 => setF cs f x d1 M2 fun M3 => to2 env M3 (fun x2 M4 => setF cs g x2 d2 M4 fun M5 => D.nx env M5) (D.ex env)) (D.ex env)) (D.ex env)
theorem set_fld {cs : List Str} {f : Str} {x d : D} {vx v : V} {R : MS → Prop} (hc : ClsFld G cs f) (w : Wd G F M Φ H) (rx : Rep G F x vx) (rd : Rep G F d v) (h : setF cs f x d M R) :
    ∃ a C dx fs M', vx = .ref a ∧ H a = some (.ins C dx fs) ∧ Cls G.K C ∧ NoAttr G.K C f ∧ fs.length < 1000 ∧ Wd G F M' Φ (upd H a (.ins C dx (putF f v fs))) ∧ R M' := by
  obtain ⟨a, c, ns, ds, rfl, hM, hcs, hz, q⟩ := h
  rw [Rep] at rx; subst rx
  obtain ⟨hF, dx, vs, hH, hl, rs⟩ := w.m a _ hM
  have hh := hc.ok c hcs
  obtain ⟨z1, z2⟩ := put_zip (f := f) (v := v) (show ns.length = vs.length by rw [hl, rs.len])
  have r3 := Reps.putX (f := f) (ns := ns) rd rs
  exact ⟨a, G.ca c, dx, _, _, rfl, hH, hh.1, hh.2, by rw [List.length_zip]; omega, w.mset (mo' := .ins c (putN ns f) (putX ns ds f d)) hM ⟨dx, _, by rw [upd_same, z1], by rw [z2, r3.len], r3⟩, q⟩
theorem psd_fld2 {cs : List Str} {f g : Str} {o o2 : Expr} {to to2 : DE} {p1 p2 tp : Pos} {kk : Nat} (hc : ClsFld G cs f) (hc2 : ClsFld G cs g) (ho : PD G k N sc o to) (ho2 : PD G k N sc o2 to2) (he : PD G k N sc e te)
    (hs : ∀ env, swapsWithSole [.Tuple [.Attribute o f p1, .Attribute o2 g p2] kk tp] e pos.line env = pure false := by intro _; rfl) (hw : ∀ env : Env, env.scope = sc.s → swappedStores [.Tuple [.Attribute o f p1, .Attribute o2 g p2] kk tp] e env = pure none)
    (h1 : ∀ env, (assignEach [.Tuple [.Attribute o f p1, .Attribute o2 g p2] kk tp] env).map (·.2) = [assign (.Tuple [.Attribute o f p1, .Attribute o2 g p2] kk tp) env] := by intro _; rfl) :
    PDS G k N sc (.Assign [.Tuple [.Attribute o f p1, .Attribute o2 g p2] kk tp] e pos) (sFld2 cs f g to to2 te) := fun W X ok tk => by
  have hK : X.K = G.K := by rw [ok.g]
  refine PS.imp (ps_asg (he W X ok tk) (pg_tup (n := 2) ok.calm (pgs_cons (pg_fld (f := f) (pos := p1) (ho W X ok tk)) (pgs_cons (pg_fld (f := g) (pos := p2) (ho2 W X ok tk)) pgs_nil)) rfl rfl) (hs X.env) (hw X.env ok.scp) (h1 X.env)) fun Dh σ H ⟨env, F, M, Φ, D', hE, w, h, eo⟩ => ?_
  refine tD.seq hE w h (eo.ex env σ F (Ex.refl F) hE) fun d v F1 M1 H1 e1 w1 hE1 r1 q1 ep1 => ?_
  obtain ⟨d1, d2, rfl, q1⟩ := q1
  rw [Rep] at r1
  obtain ⟨t, vs, rfl, ht, rs⟩ := r1
  rw [Reps] at rs
  obtain ⟨v1, us, rfl, r1, rs⟩ := rs
  obtain ⟨v2, rfl, r2⟩ := reps1 rs
  refine ⟨t, [v1, v2], rfl, by rw [hK]; exact ex_t w1.f ht, rfl, v1, [v2], rfl, ?_⟩
  refine tD.seq hE1 w1 q1 ep1 fun x vx F2 M2 H2 e2 w2 hE2 rx q2 ep2 => ?_
  obtain ⟨a, C, dx, fs, M3, rfl, hH, c1, c2, hz, w3, q3⟩ := set_fld hc w2 rx (r1.mono e2) q2
  refine ⟨a, C, dx, fs, rfl, hH, by rw [hK]; exact c1, by rw [hK]; exact c2, hz, v2, [], rfl, ?_⟩
  refine tD.seq hE2 w3 q3 ep2 fun x2 vx2 F4 M4 H4 e4 w4 hE4 rx2 q4 ep4 => ?_
  obtain ⟨a2, C2, dx2, fs2, M5, rfl, hH4, c3, c4, hz4, w5, q5⟩ := set_fld hc2 w4 rx2 ((r2.mono e2).mono e4) q4
  exact ⟨a2, C2, dx2, fs2, rfl, hH4, by rw [hK]; exact c3, by rw [hK]; exact c4, hz4, rfl, eo.nx _ _ F4 M5 _ ((e1.trans e2).trans e4) hE4 w5 q5⟩

/-! ### sorted(d), texts -/
def rSortDD : List D → MS → QD → Prop := fun xs M Q => ∃ (ks : List Key) (ds : List D) (ss : List Str), xs = [.dic ks ds] ∧ ks = ss.map Sum.inr ∧ ss.length < 64 ∧ ∀ ys : List Str, ys.Perm ss → PyProof.Rows.sortedS ys = true → Q (.lst (ys.map D.str)) M
theorem reps_strs : ∀ (ys : List Str), Reps G F (ys.map D.str) (ys.map V.str)
  | [] => Reps.nil
  | y :: ys => Reps.cons (by rw [Rep]) (reps_strs ys)
theorem cd_sortDD : CallD G k (.builtin "sorted") rSortDD := fun X hg hr hc => ⟨_, call_sortedD hc, fun xs ds F M Φ H Q Qh w rs h np => by
  obtain ⟨ks, es, ss, rfl, rfl, hz, q⟩ := h
  obtain ⟨v, rfl, r⟩ := reps1 rs
  rw [Rep] at r
  obtain ⟨a, o, vs, rfl, h1, h2, h3, h4⟩ := r
  refine ⟨a, _, ss, rfl, .inr ⟨o, w.f _ _ h1⟩, List.map_fst_zip (by rw [h2, h4.len]; exact Nat.le_refl _), hz, fun ys p hp hs hn => ?_⟩
  exact np _ _ _ _ _ (w.newEx hn) (w.new hn) (by rw [Rep]; exact ⟨p, _, rfl, upd_same, reps_strs ys⟩) (q ys hp hs)⟩
/-! ### d.items() walked -/
def pairsD (ks : List Key) (ds : List D) : List D := List.zipWith (fun y d => D.tup [keyOf y, d]) ks ds
def iItmD (td : DE) : DI := fun env M R E => td env M (fun x M1 => ∃ ks ds, x = .dic ks ds ∧ R (pairsD ks ds) always M1) E
theorem pdi_items {o : Expr} {to : DE} {elts : List Expr} {kk : Nat} {tpos apos cpos : Pos} (ho : PD G k N sc o to) (hb : ∀ env, attributeBase o "items" env (eval o env) = eval o env := by intro _; rfl) (hl : (apos.endLine == cpos.line) = true := by rfl) :
    PDI G k N sc (.Tuple elts kk tpos) (.Call (.Attribute o "items" apos) [] [] cpos) (iItmD to) := fun W X ok tk =>
  PI.imp (pi_items (ho W X ok tk) (hb X.env) hl) fun σ H R ⟨env, F, M, Φ, Q, E, hE, w, h, np, ep⟩ =>
    tD.seq hE w h ep fun d v F1 M1 H1 e1 w1 hE1 r1 q1 ep1 => by
      obtain ⟨ks, ds, rfl, q⟩ := q1
      rw [Rep] at r1
      obtain ⟨a, o, vs, rfl, h1, h2, h3, h4⟩ := r1
      have lv : ks.length = vs.length := by rw [h2, h4.len]
      have lp : (pairsD ks ds).length = ks.length := by unfold pairsD; rw [List.length_zipWith]; omega
      refine ⟨a, o, _, rfl, w1.f _ _ h1, np _ always _ F1 M1 H1 e1 w1 (fun i F2 M2 Φ2 H2 e2 w2 _ => ⟨fun hi => ⟨⟨w2.f _ _ (e2 _ _ h1), by rw [List.length_zip]; omega⟩, fun x H3 y => ?_⟩, fun hi => ⟨w2.f _ _ (e2 _ _ h1), by rw [List.length_zip]; omega⟩⟩) q⟩
      obtain ⟨T, y, v, g, rfl, hT, rfl⟩ := y
      have hik : i < ks.length := by omega
      have hid : i < ds.length := by omega
      obtain ⟨v', hv, rv⟩ := h4.get (List.getElem?_eq_getElem hid)
      have hz : (ks.zip vs)[i]? = some (ks[i], v') := by rw [List.getElem?_zip_eq_some]; exact ⟨List.getElem?_eq_getElem hik, hv⟩
      rw [hz] at g
      cases g
      refine ⟨_, .tup [keyOf ks[i], ds[i]], w2.newEx hT, w2.new hT, ?_, ?_⟩
      · unfold pairsD
        rw [List.getElem?_zipWith, List.getElem?_eq_getElem hik, List.getElem?_eq_getElem hid]
      · rw [Rep]
        exact ⟨T, _, rfl, SqT.of upd_same, .cons (rep_key _) (.cons (rv.mono (e2.trans (w2.newEx hT))) .nil)⟩
/-! ### {k: v for tg in iter if ..} -/
def dcTurns (g : Tg) (tt : DT) (tk tv : DE) (keep : MS → Prop) (env : En) : List D → List Key → List D → MS → QD → Prop
  | [], ks, acc, M, Q => keep M ∧ Q (.dic ks acc) M
  | d :: ds, ks, acc, M, Q => keep M ∧ dTg g d env M fun env' M1 => tt env' M1 (fun b M2 => if b = true then tk env' M2 (fun y M3 => tv env' M3 (fun z M4 => ∃ y', keyD y = some y' ∧ dcTurns g tt tk tv keep env ds (kput ks y') (dput ks acc y' z) M4 Q) E00) E00 else dcTurns g tt tk tv keep env ds ks acc M2 Q) E00
def dDc (i : DI) (g : Tg) (tt : DT) (tk tv : DE) (vs : List Nat) : DE := fun env M Q E => i env M (fun ds keep M1 => ds.length ≤ 100000 ∧ dcTurns g tt tk tv keep (wipeD env vs) ds [] [] M1 Q) E
theorem length_kput {ks : List Key} {y : Key} : (kput ks y).length ≤ ks.length + 1 := by
  unfold kput; split
  · omega
  · simp
theorem dc_run {g : Tg} {tt : DT} {tk tv : DE} {vs : List Nat} {K : PySem.W.Frag} (hK : K = G.K) (hg : tgIn vs g = true) {J : It} {keep : MS → Prop} {ds : List D} {D0 : Addr} {Q : QD} {Qh : VK} {F0 : Hp}
    (hE : EnR G F σ env) (w : Wd G F M Φ H) (en : Enum G J F keep ds) (hl : ds.length ≤ 100000) (h : dcTurns g tt tk tv keep (wipeD env vs) ds [] [] M Q) (e0 : Ex F0 F) (np : NP G F0 Φ Q Qh) (hD : H D0 = none) :
    ∃ W : Nat → Nat → Hp → Prop, (∃ m, W 0 m (upd H D0 (.dK []))) ∧ ∀ i m H, W i m H →
      (J.stop i H ∧ ∃ d u, H d = some u ∧ Mut (some u) ∧ ∀ o, Qh (.ref D0) (upd H d (.frz o u))) ∨ (J.go i H ∧ ∃ Nx : Hp → Prop, (∀ H', Nx H' → ∃ m', m' < m ∧ W (i + 1) m' H') ∧ ∀ x H', J.yld i H x H' → gTg K g x (wipe σ vs) H' fun σ2 H2 => wipe σ2 vs = wipe σ vs ∧ tDT G (fun _ _ _ _ => False) tt σ2 H2 fun b H3 =>
        if b = true then tD G (fun _ _ _ _ => False) tk σ2 H3 fun y H4 => tD G (fun _ _ _ _ => False) tv σ2 H4 fun z H5 => ∃ kvs k, y = kV k ∧ H5 D0 = some (.dK kvs) ∧ kvs.length < sizeLine ∧ Nx (upd H5 D0 (.dK (putK kvs k z))) else Nx H3) := by
  have hΦ := w.freeΦ hD
  refine ⟨fun i m H1 => m = ds.length - i ∧ i ≤ ds.length ∧ ∃ F1 M1 ks acc vacc, Ex F F1 ∧ Reps G F1 acc vacc ∧ ks.length = acc.length ∧ ks.Nodup ∧ Wd G F1 M1 (upd Φ D0 (.dK (ks.zip vacc))) H1 ∧ ks.length ≤ i ∧ dcTurns g tt tk tv keep (wipeD env vs) (ds.drop i) ks acc M1 Q,
    ⟨ds.length, by simp, Nat.zero_le _, F, M, [], [], [], Ex.refl F, .nil, rfl, List.nodup_nil, w.hide hD, Nat.le_refl _, by simpa using h⟩, ?_⟩
  rintro i m H1 ⟨rfl, hi, F1, M1, ks, acc, vacc, e1, ra, lk, nd, w1, hla, h1⟩
  have lv : ks.length = vacc.length := by rw [lk, ra.len]
  by_cases hlt : i < ds.length
  · have hdrop : ds.drop i = ds[i] :: ds.drop (i + 1) := List.drop_eq_getElem_cons hlt
    rw [hdrop] at h1
    obtain ⟨kp, h1⟩ := h1
    obtain ⟨go, yl⟩ := (en i F1 M1 _ H1 e1 w1 kp).1 hlt
    obtain ⟨Nx, hNx⟩ : ∃ Nx : Hp → Prop, Nx = fun H2 => i + 1 ≤ ds.length ∧ ∃ F1 M1 ks acc vacc, Ex F F1 ∧ Reps G F1 acc vacc ∧ ks.length = acc.length ∧ ks.Nodup ∧ Wd G F1 M1 (upd Φ D0 (.dK (ks.zip vacc))) H2 ∧ ks.length ≤ i + 1 ∧ dcTurns g tt tk tv keep (wipeD env vs) (ds.drop (i + 1)) ks acc M1 Q := ⟨_, rfl⟩
    refine .inr ⟨go, Nx, fun H2 h2 => ⟨ds.length - (i + 1), by omega, rfl, by rw [hNx] at h2; exact h2⟩, fun x H2 y => ?_⟩
    obtain ⟨F2, d, e2, w2, hd, r2⟩ := yl x H2 y
    rw [List.getElem?_eq_getElem hlt] at hd
    cases hd
    have hw : wipe (wipe σ vs) vs = wipe σ vs := wipe_wipe
    have key : gTg K g x (wipe σ vs) H2 (fun σ2 H2 => tDT G (fun _ _ _ _ => False) tt σ2 H2 fun b H3 =>
        if b = true then tD G (fun _ _ _ _ => False) tk σ2 H3 fun y H4 => tD G (fun _ _ _ _ => False) tv σ2 H4 fun z H5 => ∃ kvs k, y = kV k ∧ H5 D0 = some (.dK kvs) ∧ kvs.length < sizeLine ∧ Nx (upd H5 D0 (.dK (putK kvs k z))) else Nx H3) := by
      refine gTg_run (σ := wipe σ vs) hK w2 r2 ((hE.mono (e1.trans e2)).wipe vs) h1 fun env' σ' hE' q => ?_
      refine ⟨env', F2, M1, _, _, E00, hE', w2, q, fun b F3 M3 H3 e3 w3 q3 => ?_, EPo.none⟩
      cases b with
      | true =>
        rw [if_pos rfl] at q3 ⊢
        refine ⟨env', F3, M3, _, _, E00, hE'.mono e3, w3, q3, fun y v F4 M4 H4 e4 w4 r4 q4 => ?_, EPo.none⟩
        refine ⟨env', F4, M4, _, _, E00, (hE'.mono e3).mono e4, w4, q4, fun z u F5 M5 H5 e5 w5 r5 q5 => ?_, EPo.none⟩
        obtain ⟨y', hy, q5⟩ := q5
        have ra5 := ra.mono (((e2.trans e3).trans e4).trans e5)
        obtain ⟨p1, p2⟩ := putK_zip (z := y') (x := u) lv
        refine ⟨ks.zip vacc, y', keyD_ok r4 hy, (w5.φ D0 _ upd_same).1, by rw [List.length_zip]; exact Nat.lt_of_le_of_lt (Nat.min_le_left _ _) (sz_lt (by omega)), ?_⟩
        rw [hNx]
        have rp := Reps.dput (z := y') (ys := ks) r5 ra5
        have := length_kput (ks := ks) (y := y')
        exact ⟨by omega, F5, M5, kput ks y', dput ks acc y' z, dput ks vacc y' u, (((e1.trans e2).trans e3).trans e4).trans e5, rp, by rw [p2, rp.len], kput_nodup nd, by rw [p1]; exact w5.hset, by omega, q5⟩
      | false =>
        rw [if_neg Bool.false_ne_true] at q3 ⊢
        rw [hNx]
        exact ⟨by omega, F3, M3, ks, acc, vacc, (e1.trans e2).trans e3, ra.mono (e2.trans e3), lk, nd, w3, by omega, q3⟩
    have k2 := gTg_in (vs := vs) hg key
    rw [hw] at k2
    exact k2
  · have hn : ds.drop i = [] := List.drop_eq_nil_of_le (by omega)
    rw [hn] at h1
    obtain ⟨kp, h1⟩ := h1
    refine .inl ⟨(en i F1 M1 _ H1 e1 w1 kp).2 (by omega), D0, .dK (ks.zip vacc), (w1.φ D0 _ upd_same).1, trivial, fun o => ?_⟩
    have w2 := (w1.hset (o' := .frz o (.dK (ks.zip vacc)))).show_ hΦ
    have z := (w1.φ D0 _ upd_same).2.1
    exact np _ _ _ _ _ (e0.trans (e1.trans (Ex.new z))) w2 (by rw [Rep]; exact ⟨D0, o, vacc, rfl, upd_same, lk, nd, ra.mono (Ex.new z)⟩) h1
theorem pd_dc {kx vx tg iter : Expr} {ifs : List Expr} {scope : Scope} {i : DI} {g : Tg} {tt : DT} (own : List (Str × Nat)) (hb : blkC N sc.s scope own = true) (hin : tgIn (own.map (·.2)) g = true) (hi : PDI G k N sc tg iter i) (hg : PGD G k N (blkS sc scope) tg g) (ht : PDTs G k N (blkS sc scope) ifs tt) (hk : PD G k N (blkS sc scope) kx tk) (he : PD G k N (blkS sc scope) vx tv)
    (hs : ∀ env x, foldedSetIterable iter env x = pure x := by intro _ _; rfl) : PD G k N sc (.DictComp kx vx [⟨tg, iter, ifs, 0⟩] scope pos) (dDc i g tt tk tv (own.map (·.2))) := fun W X ok tkk => by
  have hK : X.K = G.K := by rw [ok.g]
  have bo : BlkOk X.N X.env.scope scope own := by rw [ok.N, ok.scp]; exact blkOk_by hb
  refine PE.imp (pe_lock (pe_dc (g := gTg X.K g) ok.calm ok.nd (hi W X ok tkk) bo (fun s H C cl fp => hg _ (ok.blk s H C cl fp)) (fun s H C cl fp => ht _ _ (ok.blk s H C cl fp) takes0) (fun s H C cl fp => hk _ _ (ok.blk s H C cl fp) takes0) (fun s H C cl fp => he _ _ (ok.blk s H C cl fp) takes0) (hs X.env))) fun σ H Qh ⟨env, F, M, Φ, Q, E, hE, w, h, np, ep⟩ => ?_
  exact ⟨env, F, M, Φ, _, E, hE, w, h, fun ds keep J F1 M1 H1 e1 w1 en q D0 hD => dc_run hK hin (hE.mono e1) w1 en q.1 q.2 e1 np hD, ep⟩
end HD
/-! lists in a list that change: made as cells, kept from a reading on -/
namespace HD
open PySem PySem.Spec L2
variable {G : Gx} {F F' H H' Φ : Hp} {σ : St} {env : En} {M M' : MS} {k j : Nat} {N ps : List Str} {sc : ScX} {e a b c : Expr} {pos p : Pos} {te ta tb tc tm tk tv : DE} {es : List Expr} {tr : DA}
theorem lc_runC {g : Tg} {tt : DT} {te : DE} {vs : List Nat} {K : PySem.W.Frag} (hK : K = G.K) (hg : tgIn vs g = true) {J : It} {keep : MS → Prop} {ds : List D} {D0 : Addr} {Q : QD} {Qh : VK} {F0 : Hp}
    (hE : EnR G F σ env) (w : Wd G F M Φ H) (en : Enum G J F keep ds) (hl : ds.length ≤ 100000) (h : lcTurns g tt te keep (wipeD env vs) ds [] M Q) (e0 : Ex F0 F) (fin : ∀ F1 M1 H1 acc vacc, Ex F0 F1 → Reps G F1 acc vacc → Wd G F1 M1 (upd Φ D0 (.lst vacc)) H1 → Q (.lst acc) M1 → Qh (.ref D0) H1) (hD : H D0 = none) :
    ∃ W : Nat → Nat → Hp → Prop, (∃ m, W 0 m (upd H D0 (.lst []))) ∧ ∀ i m H, W i m H →
      (J.stop i H ∧ Qh (.ref D0) H) ∨ (J.go i H ∧ ∃ Nx : Hp → Prop, (∀ H', Nx H' → ∃ m', m' < m ∧ W (i + 1) m' H') ∧ ∀ x H', J.yld i H x H' → gTg K g x (wipe σ vs) H' fun σ2 H2 => wipe σ2 vs = wipe σ vs ∧ tDT G (fun _ _ _ _ => False) tt σ2 H2 fun b H3 =>
        if b = true then tD G (fun _ _ _ _ => False) te σ2 H3 fun y H4 => ∃ acc, H4 D0 = some (.lst acc) ∧ acc.length < sizeLine ∧ Nx (upd H4 D0 (.lst (acc ++ [y]))) else Nx H3) := by
  have hΦ := w.freeΦ hD
  -- the word: how far, what is made
  refine ⟨fun i m H1 => m = ds.length - i ∧ i ≤ ds.length ∧ ∃ F1 M1 acc vacc, Ex F F1 ∧ Reps G F1 acc vacc ∧ Wd G F1 M1 (upd Φ D0 (.lst vacc)) H1 ∧ acc.length ≤ i ∧ lcTurns g tt te keep (wipeD env vs) (ds.drop i) acc M1 Q,
    ⟨ds.length, by simp, Nat.zero_le _, F, M, [], [], Ex.refl F, .nil, w.hide hD, Nat.le_refl _, by simpa using h⟩, ?_⟩
  rintro i m H1 ⟨rfl, hi, F1, M1, acc, vacc, e1, ra, w1, hla, h1⟩
  by_cases hlt : i < ds.length
  · have hdrop : ds.drop i = ds[i] :: ds.drop (i + 1) := List.drop_eq_getElem_cons hlt
    rw [hdrop] at h1
    obtain ⟨kp, h1⟩ := h1
    obtain ⟨go, yl⟩ := (en i F1 M1 _ H1 e1 w1 kp).1 hlt
    obtain ⟨Nx, hNx⟩ : ∃ Nx : Hp → Prop, Nx = fun H2 => i + 1 ≤ ds.length ∧ ∃ F1 M1 acc vacc, Ex F F1 ∧ Reps G F1 acc vacc ∧ Wd G F1 M1 (upd Φ D0 (.lst vacc)) H2 ∧ acc.length ≤ i + 1 ∧ lcTurns g tt te keep (wipeD env vs) (ds.drop (i + 1)) acc M1 Q := ⟨_, rfl⟩
    refine .inr ⟨go, Nx, fun H2 h2 => ⟨ds.length - (i + 1), by omega, rfl, by rw [hNx] at h2; exact h2⟩, fun x H2 y => ?_⟩
    obtain ⟨F2, d, e2, w2, hd, r2⟩ := yl x H2 y
    rw [List.getElem?_eq_getElem hlt] at hd
    cases hd
    have hw : wipe (wipe σ vs) vs = wipe σ vs := wipe_wipe
    have key : gTg K g x (wipe σ vs) H2 (fun σ2 H2 => tDT G (fun _ _ _ _ => False) tt σ2 H2 fun b H3 =>
        if b = true then tD G (fun _ _ _ _ => False) te σ2 H3 fun y H4 => ∃ acc, H4 D0 = some (.lst acc) ∧ acc.length < sizeLine ∧ Nx (upd H4 D0 (.lst (acc ++ [y]))) else Nx H3) := by
      refine gTg_run (σ := wipe σ vs) hK w2 r2 ((hE.mono (e1.trans e2)).wipe vs) h1 fun env' σ' hE' q => ?_
      refine ⟨env', F2, M1, _, _, E00, hE', w2, q, fun b F3 M3 H3 e3 w3 q3 => ?_, EPo.none⟩
      cases b with
      | true =>
        rw [if_pos rfl] at q3 ⊢
        refine ⟨env', F3, M3, _, _, E00, hE'.mono e3, w3, q3, fun y v F4 M4 H4 e4 w4 r4 q4 => ?_, EPo.none⟩
        refine ⟨vacc, (w4.φ D0 _ upd_same).1, by rw [← ra.len]; exact sz_lt (by omega), ?_⟩
        rw [hNx]
        exact ⟨by omega, F4, M4, acc ++ [y], vacc ++ [v], ((e1.trans e2).trans e3).trans e4, ((ra.mono ((e2.trans e3).trans e4))).snoc r4, w4.hset, by rw [List.length_append]; simp; omega, q4⟩
      | false =>
        rw [if_neg Bool.false_ne_true] at q3 ⊢
        rw [hNx]
        exact ⟨by omega, F3, M3, acc, vacc, (e1.trans e2).trans e3, ra.mono (e2.trans e3), w3, by omega, q3⟩
    have k2 := gTg_in (vs := vs) hg key
    rw [hw] at k2
    exact k2
  · have hn : ds.drop i = [] := List.drop_eq_nil_of_le (by omega)
    rw [hn] at h1
    obtain ⟨kp, h1⟩ := h1
    refine .inl ⟨(en i F1 M1 _ H1 e1 w1 kp).2 (by omega), ?_⟩
    exact fin F1 M1 H1 acc vacc (e0.trans e1) ra w1 h1
/-- what others kept is now mine -/
theorem Wd.mshow {o : HO} {mo : MO} {p : Addr} (hΦ : Φ p = none) (w : Wd G F M (upd Φ p o) H) (ok : MOk G F H p mo) : Wd G F (M.put p mo) Φ H where
  f := w.f
  m := fun b u e => by
    by_cases hb : b = p
    · subst hb; rw [MS.put_same] at e; cases e; exact ⟨(w.φ b o upd_same).2.1, ok⟩
    · rw [MS.put_ne hb] at e; exact w.m b u e
  φ := fun b u e => by
    have hb : b ≠ p := ne_of_none e hΦ
    obtain ⟨h1, h2, h3⟩ := w.φ b u (by rw [upd_ne hb]; exact e)
    exact ⟨h1, h2, by rw [MS.put_ne hb]; exact h3⟩
/-- [.. for ..], a list that goes on changing -/
def dLcC (i : DI) (g : Tg) (tt : DT) (te : DE) (vs : List Nat) : DE := fun env M Q E => i env M (fun ds keep M1 => ds.length ≤ 100000 ∧ lcTurns g tt te keep (wipeD env vs) ds [] M1 (fun d M2 => ∃ acc, d = .lst acc ∧ ∀ x, M2 x = none → Q (.cell x) (M2.put x (.lst acc)))) E
theorem pd_lcC {elt tg iter : Expr} {ifs : List Expr} {scope : Scope} {i : DI} {g : Tg} {tt : DT} (own : List (Str × Nat)) (hb : blkC N sc.s scope own = true) (hin : tgIn (own.map (·.2)) g = true) (hi : PDI G k N sc tg iter i) (hg : PGD G k N (blkS sc scope) tg g) (ht : PDTs G k N (blkS sc scope) ifs tt) (he : PD G k N (blkS sc scope) elt te)
    (hs : ∀ env x, foldedSetIterable iter env x = pure x := by intro _ _; rfl) : PD G k N sc (.ListComp elt [⟨tg, iter, ifs, 0⟩] scope pos) (dLcC i g tt te (own.map (·.2))) := fun W X ok tk => by
  have hK : X.K = G.K := by rw [ok.g]
  have bo : BlkOk X.N X.env.scope scope own := by rw [ok.N, ok.scp]; exact blkOk_by hb
  refine PE.imp (pe_lc (g := gTg X.K g) ok.calm ok.nd (hi W X ok tk) bo (fun s H C cl fp => hg _ (ok.blk s H C cl fp)) (fun s H C cl fp => ht _ _ (ok.blk s H C cl fp) takes0) (fun s H C cl fp => he _ _ (ok.blk s H C cl fp) takes0) (hs X.env)) fun σ H Qh ⟨env, F, M, Φ, Q, E, hE, w, h, np, ep⟩ => ?_
  exact ⟨env, F, M, Φ, _, E, hE, w, h, fun ds keep J F1 M1 H1 e1 w1 en q D0 hD => lc_runC hK hin (hE.mono e1) w1 en q.1 q.2 e1 (fun F2 M2 H2 acc vacc e2 ra w2 ⟨acc', hd, q2⟩ => by
    cases hd
    have z := w2.φ D0 _ upd_same
    exact np _ _ F2 _ H2 e2 (w2.mshow (mo := .lst acc) (w1.freeΦ hD) ⟨vacc, z.1, ra⟩) (by rw [Rep]) (q2 D0 z.2.2)) hD, ep⟩
/-- a list of lists that from now on never change -/
def frzAll : MS → List Addr → List (List D) → MS → Prop
  | M, [], [], M' => M' = M
  | M, a :: as, r :: rs, M' => M a = some (.lst r) ∧ frzAll (M.del a) as rs M'
  | _, _, _, _ => False
theorem frz_all : ∀ {as : List Addr} {rs : List (List D)} {vs : List V} {F : Hp} {M M' : MS}, Wd G F M Φ H → Reps G F (as.map D.cell) vs → frzAll M as rs M' → ∃ F', Ex F F' ∧ Wd G F' M' Φ H ∧ Reps G F' (rs.map D.lst) vs
  | [], [], vs, F, M, M', w, r, h => by
    have h : M' = M := h
    subst h; exact ⟨F, Ex.refl F, w, by simpa using r⟩
  | a :: as, q :: rs, vs, F, M, M', w, r, h => by
    obtain ⟨h1, h2⟩ := h
    rw [List.map_cons, Reps] at r
    obtain ⟨v, us, rfl, r1, r2⟩ := r
    rw [Rep] at r1; subst r1
    obtain ⟨hF, ws, hH, rq⟩ := w.m a _ h1
    have x1 := w.frzEx (p := a) (o := .lst ws) h1
    obtain ⟨F', x2, w2, r3⟩ := frz_all (w.frz h1 hH) (r2.mono x1) h2
    exact ⟨F', x1.trans x2, w2, .cons (by rw [Rep]; exact ⟨a, ws, rfl, x2 _ _ upd_same, rq.mono (x1.trans x2)⟩) r3⟩
  | [], _ :: _, _, _, _, _, _, _, h => h.elim
  | _ :: _, [], _, _, _, _, _, _, h => h.elim
def dFrzD (i : Nat) : DE := fun env M Q _ => ∃ as rs M', env[i]? = some (some (.lst (as.map D.cell))) ∧ frzAll M as rs M' ∧ Q (.lst (rs.map D.lst)) M'
theorem pd_frzD (i : Nat) {x : Str} (hN : N[i]? = some x) (hv : visB sc x = true) : PD G k N sc (.Name x pos) (dFrzD i) := fun W X ok tk => by
  refine PE.imp (pd_var (G := G) (k := k) (pos := pos) i hN hv W X ok tk) fun σ H Qh ⟨env, F, M, Φ, Q, E, hE, w, h, np, ep⟩ => ?_
  obtain ⟨as, rs, M', e1, e2, q⟩ := h
  refine ⟨env, F, M, Φ, fun d M2 => d = .lst (as.map D.cell) ∧ M2 = M, E, hE, w, ⟨_, e1, rfl, rfl⟩, fun d v F' M2 H' e w' r hd => ?_, ep⟩
  obtain ⟨rfl, rfl⟩ := hd
  rw [Rep] at r
  obtain ⟨p, vs, rfl, hp, rr⟩ := r
  obtain ⟨F2, x2, w2, r2⟩ := frz_all w' rr e2
  exact np _ _ F2 M' H' (e.trans x2) w2 (by rw [Rep]; exact ⟨p, vs, rfl, x2 _ _ hp, r2⟩) q
end HD
/-! zip(text, list): signs below 128 -/
namespace HD
open PySem PySem.Spec L2
section
variable {P : Program} {w : World} {A : Around} {E : Value → Shared → Prop} {s : Shared} {z TI TO i1 i2 l : Addr} {x : Str} {t : Tok} {k c : Nat} {ys : Array Value} {y a b : Value}
abbrev TxI (h : Heap) (i : Addr) (x : Str) (t : Tok) (k : Nat) : Prop := h.IsStrIter i "str_ascii_iterator" x t k
theorem TxI.ext {h h' : Heap} {i e : Addr} (q : TxI h i x t k) (s : Heap.ExtBut e h h') (ne : i ≠ e) : TxI h' i x t k := by
  obtain ⟨o, h1, r⟩ := q
  exact ⟨o, s _ _ ne h1, r⟩
theorem zt_item {Q : Value → Shared → Prop} (D : ZipApart z TI TO i1 i2 l l) (hz : IsZip s.heap z TI TO .none) (hTI : IsPair s.heap TI (.ref i1) (.ref i2)) (hTO : IsPair s.heap TO a b)
    (q1 : TxI s.heap i1 x t k) (q2 : s.heap.IsListIter i2 l k) (ql : s.heap.IsList l ys) (hx : x.cps[k]? = some c) (hy : ys[k]? = some y)
    (hQ : ∀ h' v, (∃ u, v = .str ⟨#[c]⟩ u) → IsZip h' z TI TO (rawInt s.heap.objs.size) → IsPair h' TO v y → TxI h' i1 x t (k + 1) → h'.IsListIter i2 l (k + 1) → IsPair h' s.heap.objs.size v y → h'.objs.size = s.heap.objs.size + 1 →
      (∀ c o, c ≠ z → c ≠ TO → c ≠ i1 → c ≠ i2 → s.heap.get? c = some o → h'.get? c = some o) → Q (.ref s.heap.objs.size) { s with heap := h', toks := s.toks + 1 }) :
    wpAny (model P w) A (Builtin.«zip.__next__» ⟨[.ref z], []⟩) (fun fin s' => ∃ v, fin = .done (.ret v) ∧ Q v s') E s := by
  show wpAny _ _ (field (.ref z) 2 >>= _) _ _ s
  refine wpAny_bind (wpAny_field hz rfl (x := .bool false) rfl ?_)
  show wpAny _ _ (field (.ref z) 3 >>= _) _ _ s
  refine wpAny_bind (wpAny_field hz rfl (x := .ref TI) rfl (wpAny_bind (wpAny_seqItems hTI rfl ?_)))
  show wpAny _ _ (Builtin.SmallTypes.ownedTupleIsFree (.ref z) >>= _) _ _ s
  refine wpAny_bind ?_
  unfold Builtin.SmallTypes.ownedTupleIsFree
  refine wpAny_bind (wpAny_field hz rfl (x := .none) rfl (wpAny_pure ?_))
  simp only [if_true]
  refine wpAny_bind (wpAny_rule (wpAny_bind (wpAny_field hz rfl (x := .ref TO) rfl ?_)))
  refine wpAny_bind (wpAny_setField_rec hz (by simp) fun g1 hz1 r1 => ?_)
  replace hz1 : IsZip g1 z TI TO .ellipsis := hz1
  refine wpAny_bind ?_
  simp only [List.zipIdx_cons, List.zipIdx_nil, List.forIn_cons, List.forIn_nil]
  refine wpAny_bind (wpAny_bind (wpAny_onRaise ?_))
  show wpAny _ _ (Builtin.SmallTypes.nextOf (.ref i1) >>= _) _ _ _
  refine wpAny_bind (wpAny_nextOf_ascii_item (TxI.ext q1 r1.extBut D.i1z) hx fun g2 q12 r2 => wpAny_pure ?_)
  have o2 : IsPair g2 TO a b := r2.extBut _ _ D.TOi1 (r1.extBut _ _ D.TOz hTO)
  refine wpAny_bind (wpAny_seqItems o2 rfl (wpAny_bind (wpAny_updateSeq_pair o2 fun g3 o3 r3 => ?_)))
  replace o3 : IsPair g3 TO (.str ⟨#[c]⟩ s.toks) b := o3
  refine wpAny_bind (wpAny_letGo (wpAny_pure ?_))
  refine wpAny_bind (wpAny_bind (wpAny_onRaise ?_))
  show wpAny _ _ (Builtin.SmallTypes.nextOf (.ref i2) >>= _) _ _ _
  refine wpAny_bind (wpAny_nextOf_list_item (((q2.extBut r1.extBut D.i2z).extBut r2.extBut D.i12.symm).extBut r3.extBut D.TOi2.symm) (((ql.extBut r1.extBut D.l2z).extBut r2.extBut D.l2i1).extBut r3.extBut D.l2TO) hy fun g4 q24 r4 => wpAny_pure ?_)
  have o4 : IsPair g4 TO (.str ⟨#[c]⟩ s.toks) b := r4.extBut _ _ D.TOi2 o3
  refine wpAny_bind (wpAny_seqItems o4 rfl (wpAny_bind (wpAny_updateSeq_pair o4 fun g5 o5 r5 => ?_)))
  replace o5 : IsPair g5 TO (.str ⟨#[c]⟩ s.toks) y := o5
  refine wpAny_bind (wpAny_letGo (wpAny_pure (wpAny_pure ?_)))
  refine wpAny_bind (wpAny_seqItems o5 rfl (wpAny_bind (wpAny_newTuple ?_)))
  have zz : g5.objs.size = s.heap.objs.size := by rw [r5.1, r4.1, r3.1, r2.1, r1.1]
  have hz5 : IsZip g5 z TI TO .ellipsis := r5.extBut _ _ D.TOz.symm (r4.extBut _ _ D.i2z.symm (r3.extBut _ _ D.TOz.symm (r2.extBut _ _ D.i1z.symm hz1)))
  have kp5 : ∀ c o, c ≠ z → c ≠ TO → c ≠ i1 → c ≠ i2 → s.heap.get? c = some o → g5.get? c = some o := fun c o c1 c2 c3 c4 e =>
    r5.extBut _ _ c2 (r4.extBut _ _ c4 (r3.extBut _ _ c2 (r2.extBut _ _ c3 (r1.extBut _ _ c1 e))))
  have q15 : TxI g5 i1 x t (k + 1) := TxI.ext (TxI.ext (TxI.ext q12 r3.extBut D.TOi1.symm) r4.extBut D.i12) r5.extBut D.TOi1.symm
  have q25 : g5.IsListIter i2 l (k + 1) := q24.extBut r5.extBut D.TOi2.symm
  have zlt : z < g5.objs.size := Heap.lt_size hz5
  show wpAny _ _ (Builtin.SmallTypes.ownedTupleHandOut (.ref z) (.ref g5.objs.size) >>= _) _ _ _
  refine wpAny_bind ?_
  unfold Builtin.SmallTypes.ownedTupleHandOut
  have hz6 : IsZip (g5.push { cls := .type "tuple", data := .seq #[.str ⟨#[c]⟩ s.toks, y] }) z TI TO .ellipsis := Heap.get?_push_of_some _ hz5
  refine wpAny_bind (wpAny_setField_rec hz6 (by simp) fun g7 hz7 r7 => ?_)
  replace hz7 : IsZip g7 z TI TO (rawInt g5.objs.size) := hz7
  refine wpAny_setField_rec hz7 (by simp) fun g8 hz8 r8 => ?_
  replace hz8 : IsZip g8 z TI TO (rawInt g5.objs.size) := hz8
  have up : ∀ c o, c ≠ z → g5.get? c = some o → g8.get? c = some o := fun c o c1 e => r8.extBut _ _ c1 (r7.extBut _ _ c1 (Heap.get?_push_of_some _ e))
  have hT8 : IsPair g8 g5.objs.size (.str ⟨#[c]⟩ s.toks) y := r8.extBut _ _ (Nat.ne_of_gt zlt) (r7.extBut _ _ (Nat.ne_of_gt zlt) (Heap.get?_push_size _ rfl))
  have sz8 : g8.objs.size = g5.objs.size + 1 := by rw [r8.1, r7.1, Heap.size_push]
  rw [zz] at hz8 hT8 sz8
  refine wpAny_pure ⟨_, rfl, ?_⟩
  show Q (.ref g5.objs.size) _
  rw [zz]
  exact hQ g8 _ ⟨_, rfl⟩ hz8 (up _ _ D.TOz o5) (by obtain ⟨o, e, r⟩ := q15; exact ⟨o, up _ _ D.i1z e, r⟩) (q25.at fun o e => up _ o D.i2z e) hT8 sz8 fun c o c1 c2 c3 c4 e => up c o c1 (kp5 c o c1 c2 c3 c4 e)
theorem zt_end {Q : Fin → Shared → Prop} (hh : A.handled = none) (D : ZipApart z TI TO i1 i2 l l) (hz : IsZip s.heap z TI TO .none) (hTI : IsPair s.heap TI (.ref i1) (.ref i2)) (hTO : IsPair s.heap TO a b)
    (q1 : TxI s.heap i1 x t k) (q2 : s.heap.IsListIter i2 l k) (ql : s.heap.IsList l ys) (hend : x.cps[k]? = none ∨ ys[k]? = none)
    (hE : ∀ h' tk e, (∀ c o, c ≠ z → c ≠ TO → c ≠ i1 → c ≠ i2 → s.heap.get? c = some o → h'.get? c = some o) → (∃ o, h'.get? e = some o ∧ o.cls = .type "StopIteration") → E (.ref e) { s with heap := h', toks := tk }) :
    wpAny (model P w) A (Builtin.«zip.__next__» ⟨[.ref z], []⟩) Q E s := by
  show wpAny _ _ (field (.ref z) 2 >>= _) _ _ s
  refine wpAny_bind (wpAny_field hz rfl (x := .bool false) rfl ?_)
  show wpAny _ _ (field (.ref z) 3 >>= _) _ _ s
  refine wpAny_bind (wpAny_field hz rfl (x := .ref TI) rfl (wpAny_bind (wpAny_seqItems hTI rfl ?_)))
  show wpAny _ _ (Builtin.SmallTypes.ownedTupleIsFree (.ref z) >>= _) _ _ s
  refine wpAny_bind ?_
  unfold Builtin.SmallTypes.ownedTupleIsFree
  refine wpAny_bind (wpAny_field hz rfl (x := .none) rfl (wpAny_pure ?_))
  simp only [if_true]
  refine wpAny_bind (wpAny_rule (wpAny_bind (wpAny_field hz rfl (x := .ref TO) rfl ?_)))
  refine wpAny_bind (wpAny_setField_rec hz (by simp) fun g1 hz1 r1 => ?_)
  replace hz1 : IsZip g1 z TI TO .ellipsis := hz1
  refine wpAny_bind ?_
  simp only [List.zipIdx_cons, List.zipIdx_nil, List.forIn_cons, List.forIn_nil]
  refine wpAny_bind (wpAny_bind (wpAny_onRaise ?_))
  show wpAny _ _ (Builtin.SmallTypes.nextOf (.ref i1) >>= _) _ _ _
  cases hx : x.cps[k]? with
  | none =>
    refine wpAny_bind (wpAny_nextOf_ascii_end hh (TxI.ext q1 r1.extBut D.i1z) hx fun g2 e r2 he => ?_)
    obtain ⟨oe, hoe, hce⟩ := he
    have hz2 : IsZip g2 z TI TO .ellipsis := r2 _ _ D.i1z.symm hz1
    have hez : e ≠ z := fun q => by subst q; rw [hz2] at hoe; cases hoe; simp at hce
    exact wpAny_setField_rec hz2 (by simp) fun g3 _ r3 => hE g3 s.toks e (fun c o c1 _ c3 _ q => r3.extBut _ _ c1 (r2 _ _ c3 (r1.extBut _ _ c1 q))) ⟨oe, r3.extBut _ _ hez hoe, hce⟩
  | some c =>
    have hy : ys[k]? = none := by rcases hend with h | h; rw [hx] at h; cases h; exact h
    refine wpAny_bind (wpAny_nextOf_ascii_item (TxI.ext q1 r1.extBut D.i1z) hx fun g2 q12 r2 => wpAny_pure ?_)
    have o2 : IsPair g2 TO a b := r2.extBut _ _ D.TOi1 (r1.extBut _ _ D.TOz hTO)
    refine wpAny_bind (wpAny_seqItems o2 rfl (wpAny_bind (wpAny_updateSeq_pair o2 fun g3 o3 r3 => ?_)))
    refine wpAny_bind (wpAny_letGo (wpAny_pure ?_))
    refine wpAny_bind (wpAny_bind (wpAny_onRaise ?_))
    show wpAny _ _ (Builtin.SmallTypes.nextOf (.ref i2) >>= _) _ _ _
    refine wpAny_bind (wpAny_nextOf_list_end hh (((q2.extBut r1.extBut D.i2z).extBut r2.extBut D.i12.symm).extBut r3.extBut D.TOi2.symm) (((ql.extBut r1.extBut D.l2z).extBut r2.extBut D.l2i1).extBut r3.extBut D.l2TO) hy fun g4 e r4 he => ?_)
    obtain ⟨oe, hoe, hce⟩ := he
    have hz4 : IsZip g4 z TI TO .ellipsis := r4 _ _ D.i2z.symm (r3.extBut _ _ D.TOz.symm (r2.extBut _ _ D.i1z.symm hz1))
    have hez : e ≠ z := fun q => by subst q; rw [hz4] at hoe; cases hoe; simp at hce
    exact wpAny_setField_rec hz4 (by simp) fun g5 _ r5 => hE g5 (s.toks + 1) e (fun c o c1 c2 c3 c4 q => r5.extBut _ _ c1 (r4 _ _ c4 (r3.extBut _ _ c2 (r2.extBut _ _ c3 (r1.extBut _ _ c1 q))))) ⟨oe, r5.extBut _ _ hez hoe, hce⟩
theorem zt_next_item {Q : Option Value → Shared → Prop} (D : ZipApart z TI TO i1 i2 l l) (hz : IsZip s.heap z TI TO .none) (hTI : IsPair s.heap TI (.ref i1) (.ref i2)) (hTO : IsPair s.heap TO a b)
    (q1 : TxI s.heap i1 x t k) (q2 : s.heap.IsListIter i2 l k) (ql : s.heap.IsList l ys) (hx : x.cps[k]? = some c) (hy : ys[k]? = some y)
    (hQ : ∀ h' v, (∃ u, v = .str ⟨#[c]⟩ u) → IsZip h' z TI TO (rawInt s.heap.objs.size) → IsPair h' TO v y → TxI h' i1 x t (k + 1) → h'.IsListIter i2 l (k + 1) → IsPair h' s.heap.objs.size v y → h'.objs.size = s.heap.objs.size + 1 →
      (∀ c o, c ≠ z → c ≠ TO → c ≠ i1 → c ≠ i2 → s.heap.get? c = some o → h'.get? c = some o) → Q (some (.ref s.heap.objs.size)) { s with heap := h', toks := s.toks + 1 }) : wpAny (model P w) A (pyNext (.ref z)) Q E s := by
  have hT : s.TypeIs (.ref z) "zip" := ⟨_, hz, rfl⟩
  unfold pyNext
  exact wpAny_bind (wpAny_attempt (wpAny_callSpecial?_slot (name := Str.ofString "__next__") hT F.slot_zip_next
    (wpAny_call_entry F.slot_zip_next hT F.entry_zip_next (zt_item D hz hTI hTO q1 q2 ql hx hy fun h' v a0 a1 a2 a3 a4 a5 a6 a7 => wpAny_pure (hQ h' v a0 a1 a2 a3 a4 a5 a6 a7)) (F.args_zip_next_1 _))))
theorem zt_next_end {Q : Option Value → Shared → Prop} (hh : A.handled = none) (D : ZipApart z TI TO i1 i2 l l) (hz : IsZip s.heap z TI TO .none) (hTI : IsPair s.heap TI (.ref i1) (.ref i2)) (hTO : IsPair s.heap TO a b)
    (q1 : TxI s.heap i1 x t k) (q2 : s.heap.IsListIter i2 l k) (ql : s.heap.IsList l ys) (hend : x.cps[k]? = none ∨ ys[k]? = none)
    (hQ : ∀ h' tk, (∀ c o, c ≠ z → c ≠ TO → c ≠ i1 → c ≠ i2 → s.heap.get? c = some o → h'.get? c = some o) → Q none { s with heap := h', toks := tk }) : wpAny (model P w) A (pyNext (.ref z)) Q E s := by
  have hT : s.TypeIs (.ref z) "zip" := ⟨_, hz, rfl⟩
  unfold pyNext
  refine wpAny_bind (wpAny_attempt (wpAny_callSpecial?_slot (name := Str.ofString "__next__") hT F.slot_zip_next
    (wpAny_call_entry F.slot_zip_next hT F.entry_zip_next (zt_end hh D hz hTI hTO q1 q2 ql hend fun h' tk e hk he => ?_) (F.args_zip_next_1 _))))
  obtain ⟨o, ho, hc⟩ := he
  refine wpAny_bind (wpAny_isInstance (T := "StopIteration") (b := true) ⟨o, ho, hc⟩ isSubtype_stop ?_)
  exact wpAny_pure (hQ _ _ hk)
/-! ### its making -/
abbrev ztH1 (h : Heap) (x : Str) (t : Tok) : Heap := h.push { cls := .type "str_ascii_iterator", data := .fields #[.str x t, .int 0 0] }
abbrev ztH2 (h : Heap) (x : Str) (t : Tok) (l : Addr) : Heap := (ztH1 h x t).push { cls := .type "list_iterator", data := .fields #[.ref l, .int 0 0] }
abbrev ztH3 (h : Heap) (x : Str) (t : Tok) (l : Addr) : Heap := (ztH2 h x t l).push { cls := .type "tuple", data := .seq #[.ref h.objs.size, .ref (ztH1 h x t).objs.size] }
abbrev ztH4 (h : Heap) (x : Str) (t : Tok) (l : Addr) : Heap := (ztH3 h x t l).push { cls := .type "tuple", data := .seq #[.none, .none] }
abbrev ztH5 (h : Heap) (x : Str) (t : Tok) (l : Addr) : Heap := (ztH4 h x t l).push { cls := .type "zip", data := .fields #[.none, .bool false, .bool false, .ref (ztH2 h x t l).objs.size, .ref (ztH3 h x t l).objs.size] }
theorem zt_new (x : Str) (t : Tok) (l : Addr) (ys : Array Value) (ha : x.cps.all (· < 128) = true) :
    Meets (Builtin.«zip.__new__» ⟨[.type "zip", .str x t, .ref l], []⟩) (fun _ R s => s.heap.IsList l ys ∧ R (.ok (.ret (.ref (ztH4 s.heap x t l).objs.size))) { s with heap := ztH5 s.heap x t l }) :=
  .of_wp fun prog w A R s h => by
    obtain ⟨hp, g, d, tk, os⟩ := s
    obtain ⟨hl, h⟩ := h
    have hsub := sub_zip
    have hL2 : Heap.IsList (Shared.heap ⟨hp.push { cls := .type "str_ascii_iterator", data := .fields #[.str x t, .int 0 0] }, g, d, tk, os⟩) l ys := Heap.IsList.push hl _
    wp_walk using wpAny_pyIter_ascii ha, wpAny_pyIter_list hL2
    exact ⟨_, rfl, h⟩
theorem call_zt {Q : Value → Shared → Prop} (ha : x.cps.all (· < 128) = true) (hl : s.heap.IsList l ys)
    (h : ∀ h', IsZip h' (s.heap.objs.size + 4) (s.heap.objs.size + 2) (s.heap.objs.size + 3) .none → IsPair h' (s.heap.objs.size + 2) (.ref s.heap.objs.size) (.ref (s.heap.objs.size + 1)) →
      IsPair h' (s.heap.objs.size + 3) .none .none → TxI h' s.heap.objs.size x t 0 → h'.IsListIter (s.heap.objs.size + 1) l 0 → h'.objs.size = s.heap.objs.size + 5 →
      (∀ c o, s.heap.get? c = some o → h'.get? c = some o) → Q (.ref (s.heap.objs.size + 4)) { s with heap := h' }) : wpAny (model P w) A (call (.type "zip") [.str x t, .ref l]) Q E s := by
  refine callType_new F.called_zip (by decide) (F.typeCall_zip_2 _ _) (F.newCall_zip_2 _ _) (fun obj => F.args_object_init_3 obj _ _) F.entry_zip_new (zt_new x t l ys ha) ⟨hl, ?_⟩
  have z1 : (ztH1 s.heap x t).objs.size = s.heap.objs.size + 1 := Heap.size_push ..
  have z2 : (ztH2 s.heap x t l).objs.size = s.heap.objs.size + 2 := by rw [Heap.size_push, z1]
  have z3 : (ztH3 s.heap x t l).objs.size = s.heap.objs.size + 3 := by rw [Heap.size_push, z2]
  have z4 : (ztH4 s.heap x t l).objs.size = s.heap.objs.size + 4 := by rw [Heap.size_push, z3]
  have z5 : (ztH5 s.heap x t l).objs.size = s.heap.objs.size + 5 := by rw [Heap.size_push, z4]
  have g5 : (ztH5 s.heap x t l).get? (ztH4 s.heap x t l).objs.size = some _ := Heap.get?_push_size _ rfl
  have g4 : (ztH5 s.heap x t l).get? (ztH3 s.heap x t l).objs.size = some _ := Heap.get?_push_of_some _ (Heap.get?_push_size _ rfl)
  have g3 : (ztH5 s.heap x t l).get? (ztH2 s.heap x t l).objs.size = some _ := Heap.get?_push_of_some _ (Heap.get?_push_of_some _ (Heap.get?_push_size _ rfl))
  have g2 : (ztH5 s.heap x t l).get? (ztH1 s.heap x t).objs.size = some _ := Heap.get?_push_of_some _ (Heap.get?_push_of_some _ (Heap.get?_push_of_some _ (Heap.get?_push_size _ rfl)))
  have g1 : (ztH5 s.heap x t l).get? s.heap.objs.size = some _ := Heap.get?_push_of_some _ (Heap.get?_push_of_some _ (Heap.get?_push_of_some _ (Heap.get?_push_of_some _ (Heap.get?_push_size _ rfl))))
  show _ ∧ _
  rw [z2, z3, z4] at g5
  rw [z1, z2] at g3
  rw [z3] at g4
  rw [z1] at g2
  rw [z4]
  exact ⟨⟨_, g5, rfl⟩, h _ g5 g3 g4 ⟨_, g1, rfl, rfl⟩ ⟨_, g2, rfl, rfl⟩ z5 fun c o q =>
    Heap.get?_push_of_some _ (Heap.get?_push_of_some _ (Heap.get?_push_of_some _ (Heap.get?_push_of_some _ (Heap.get?_push_of_some _ q))))⟩
end
/-! ### the walk -/
def Izt (K : PySem.W.Frag) (x : Str) (b : Addr) : It :=
  ⟨fun i H => ∃ (ys : List V) (c : Nat) (y : V), SqL K H b ys ∧ x.cps[i]? = some c ∧ ys[i]? = some y,
    fun i H v H' => ∃ T c y, v = .ref T ∧ H T = none ∧ x.cps[i]? = some c ∧ H' = upd H T (.tup [.str ⟨#[c]⟩, y]) ∧ ∀ ys, SqL K H b ys → ys[i]? = some y,
    fun i H => ∃ ys : List V, SqL K H b ys ∧ (x.cps.size ≤ i ∨ ys.length ≤ i)⟩
theorem turn_zt {P : Program} {w : World} {K : PySem.W.Frag} {elts : List Expr} {kk : Nat} {tpos : Pos} {x : Str} {t : Tok} {b z TI TO i1 i2 : Addr} (D : ZipApart z TI TO i1 i2 b b) :
    Turn P w K (.Tuple elts kk tpos) (Izt K x b) [z, TI, TO, i1, i2] z (fun i h => IsZip h z TI TO .none ∧ IsPair h TI (.ref i1) (.ref i2) ∧ (∃ x y, IsPair h TO x y) ∧ TxI h i1 x t i ∧ h.IsListIter i2 b i) where
  mem := by simp
  obj := fun i h st c hc => by
    obtain ⟨hz, hTI, ⟨u, v, hTO⟩, ⟨o1, e1, _, d1⟩, ⟨o2, e2, _, d2⟩⟩ := st
    rcases (by simpa using hc : c = z ∨ c = TI ∨ c = TO ∨ c = i1 ∨ c = i2) with q | q | q | q | q <;> subst q
    · exact ⟨_, hz, fun v q => nomatch q⟩
    · exact ⟨_, hTI, fun v q => nomatch q⟩
    · exact ⟨_, hTO, fun v q => nomatch q⟩
    · exact ⟨o1, e1, fun v q => by rw [d1] at q; cases q⟩
    · exact ⟨o2, e2, fun v q => by rw [d2] at q; cases q⟩
  keep := fun i h h' st k => by
    obtain ⟨hz, hTI, ⟨u, v, hTO⟩, ⟨o1, e1, r1⟩, h2⟩ := st
    exact ⟨k z (by simp) _ hz, k TI (by simp) _ hTI, ⟨u, v, k TO (by simp) _ hTO⟩, ⟨o1, k i1 (by simp) _ e1, r1⟩, h2.at fun o q => k i2 (by simp) o q⟩
  item := by
    intro X hP hw hK hc i pins s σ H E I hf st hg
    subst hP hw hK
    obtain ⟨hz, hTI, ⟨x0, y0, hTO⟩, h1, h2⟩ := st
    obtain ⟨ys, c, y, hqy, hx, hy⟩ := hg
    obtain ⟨its, rv, p, _⟩ := I.list hqy
    obtain ⟨u, hu, ru⟩ := rv.get hy
    have zl : z < s.heap.objs.size := Heap.lt_size hz
    refine zt_next_item D hz hTI hTO h1 h2 p.isList hx (y := u) (by simpa using hu) fun h' v hv z' TO' h1' h2' hT hsz hk => ?_
    refine ⟨_, rfl, wpAny_letOwnedTupleGo_zip (s := { s with heap := h', toks := s.toks + 1 }) z' fun h'' z'' sb => ?_⟩
    obtain ⟨tk, rfl⟩ := hv
    have hT2 : h''.get? s.heap.objs.size = some { cls := .type "tuple", data := .seq #[.str ⟨#[c]⟩ tk, u] } := (sb.2 _ (Nat.ne_of_gt zl)).trans hT
    have new : ObjOk X.prog X.w (upd H s.heap.objs.size (.tup [.str ⟨#[c]⟩, y])) h'' s.heap.objs.size (.tup [.str ⟨#[c]⟩, y]) :=
      ⟨by show 2 ≤ sizeLine; decide, [.str ⟨#[c]⟩ tk, u], .cons ⟨tk, rfl⟩ (.cons ru .nil), ⟨_, hT2, rfl, _, rfl⟩⟩
    have I1 : Inv X pins σ (upd H s.heap.objs.size (.tup [.str ⟨#[c]⟩, y])) { s with heap := h'', toks := s.toks + 1 } :=
      I.turnedNew (t' := s.toks + 1) (ch := [z, TI, TO, i1, i2]) (fun e o hb q => (sb.2 e (fun w => hb (by simp [w]))).trans (hk e o (fun w => hb (by simp [w])) (fun w => hb (by simp [w])) (fun w => hb (by simp [w])) (fun w => hb (by simp [w])) q)) hf (Nat.le_refl _) new
    refine ⟨.ref s.heap.objs.size, _, I1, rfl, ⟨_, c, y, rfl, I.hok.fresh (Nat.le_refl _), hx, rfl, fun l hl => by rw [I.list_inj hl hqy]; exact hy⟩, ⟨z'', ?_, ⟨.str ⟨#[c]⟩ tk, u, ?_⟩, ?_, ?_⟩, fun e hcm => ?_⟩
    · exact (sb.2 _ D.TIz).trans (hk _ _ D.TIz D.TITO D.TIi1 D.TIi2 hTI)
    · exact (sb.2 _ D.TOz).trans TO'
    · obtain ⟨o, e, r⟩ := h1'; exact ⟨o, (sb.2 _ D.i1z).trans e, r⟩
    · exact h2'.at fun o q => (sb.2 _ D.i2z).trans q
    · have hlt : e < s.heap.objs.size := by
        rcases (by simpa using hcm : e = z ∨ e = TI ∨ e = TO ∨ e = i1 ∨ e = i2) with q | q | q | q | q <;> subst q
        · exact zl
        · exact Heap.lt_size hTI
        · exact Heap.lt_size hTO
        · obtain ⟨_, e1, _⟩ := h1; exact Heap.lt_size e1
        · obtain ⟨_, e2, _⟩ := h2; exact Heap.lt_size e2
      rw [upd_ne (Nat.ne_of_lt hlt)]
      exact (hf e hcm).1
  done := by
    intro X hP hw hK hc i pins s σ H E I hf st hg
    subst hP hw hK
    obtain ⟨hz, hTI, ⟨x0, y0, hTO⟩, h1, h2⟩ := st
    obtain ⟨ys, hqy, hend⟩ := hg
    obtain ⟨its, rv, p, _⟩ := I.list hqy
    have l2 := rv.length
    have he : x.cps[i]? = none ∨ its.toArray[i]? = none := by
      rcases hend with q | q
      · exact .inl (by simp; omega)
      · exact .inr (by simp; omega)
    exact zt_next_end (I.ok.hd hc) D hz hTI hTO h1 h2 p.isList he fun h' tk hk => ⟨rfl, I.turnedL (t' := tk) (ch := [z, TI, TO, i1, i2]) (fun e o hb q => hk e o (fun w => hb (by simp [w])) (fun w => hb (by simp [w])) (fun w => hb (by simp [w])) (fun w => hb (by simp [w])) q) hf⟩
  self := fun A i s Q E st h => wpAny_pyIter_zip st.1 h
def iZt (K : PySem.W.Frag) (ta : TA) : TI := fun σ H R => ta σ H fun vs H1 => ∃ x b ys, vs = [.str x, .ref b] ∧ x.cps.all (· < 128) = true ∧ SqL K H1 b ys ∧ R (Izt K x b) H1
theorem pi_zt {X : Cx} {e e2 : Expr} {ta : TA} {p pos tpos : Pos} {elts : List Expr} {kk : Nat} (hg : Gl X "zip") (hm : X.mg "zip" = none) (ha : PA X [e, e2] ta)
    (hs : starEach [e, e2] X.env = (false, eval e X.env) :: starEach [e2] X.env) (hpl : (backTo pos (starEach [e2] X.env)).any (·.1) = false) :
    PI X (.Tuple elts kk tpos) (.Call (.Name "zip" p) [e, e2] [] pos) (iZt X.K ta) := by
  refine ⟨fun pins s σ H R I h => ?_⟩
  refine wpAny_Call_Name_kw (ld_blt I hg hm PyProof.Rows.boot_zip (PyProof.Rows.callWith_type1 (thn (ha.run pos pins s σ H _ I h) fun us s1 ⟨vs, H1, I1, r1, q1⟩ => ?_) hs hpl))
  obtain ⟨x, b, ys, ex, hx, hqy, q⟩ := q1
  subst ex
  obtain ⟨u1, u2, rfl, r, r'⟩ := vals2 r1
  obtain ⟨t, rfl⟩ := (show ∃ t, u1 = Value.str x t from r)
  cases r'
  obtain ⟨its, rv, p1, _⟩ := I1.list hqy
  have lb : b < s1.heap.objs.size := p1.lt
  refine call_zt hx p1.isList fun h' hz hTI hTO h1 h2 hsz hk => wpAny_pyIter_zip hz ?_
  have I2 : Inv X pins σ H1 { s1 with heap := h' } := I1.kept (t' := s1.toks) hk
  refine ⟨s1.heap.objs.size + 4, [s1.heap.objs.size + 4, s1.heap.objs.size + 2, s1.heap.objs.size + 3, s1.heap.objs.size, s1.heap.objs.size + 1], _, _, H1, rfl, I2, turn_zt (PySem.W.ktu_apart s1.heap.objs.size b b lb lb), ⟨hz, hTI, ⟨_, _, hTO⟩, h1, h2⟩, fun c hcm => ?_, q⟩
  have hle : s1.heap.objs.size ≤ c := by
    rcases (by simpa using hcm : c = s1.heap.objs.size + 4 ∨ c = s1.heap.objs.size + 2 ∨ c = s1.heap.objs.size + 3 ∨ c = s1.heap.objs.size ∨ c = s1.heap.objs.size + 1) with q | q | q | q | q <;> rw [q] <;> first | exact Nat.le_add_right _ _ | exact Nat.le_refl _
  exact I1.fpOk hle (I1.hok.fresh hle)
variable {G : Gx} {F F' H H' Φ : Hp} {σ : St} {env : En} {M M' : MS} {k j : Nat} {N ps : List Str} {sc : ScX} {e a b c : Expr} {pos p : Pos} {te ta tb tc tm tk tv : DE} {es : List Expr} {tr : DA}
def signsWith (x : Str) (ys : List D) : List D := List.zipWith (fun (c : Nat) y => D.tup [.str ⟨#[c]⟩, y]) x.cps.toList ys
def iZtD (t : DA) : DI := fun env M R E => t env M (fun zs M1 => ∃ x d ys, zs = [.str x, d] ∧ x.cps.all (· < 128) = true ∧ listOf M1 d = some ys ∧ R (signsWith x ys) (keepOf d ys) M1) E
theorem pdi_zt {elts : List Expr} {kk : Nat} {tpos : Pos} {e2 : Expr} (hg : glB sc "zip" = true) (hm : G.mg "zip" = none) (ha : PDA G k N sc [e, e2] tr) (hs : ∀ env, starEach [e, e2] env = (false, eval e env) :: starEach [e2] env := by intro _; rfl) (hpl : ∀ env pos, (backTo pos (starEach [e2] env)).any (·.1) = false := by intro _ _; rfl) :
    PDI G k N sc (.Tuple elts kk tpos) (.Call (.Name "zip" p) [e, e2] [] pos) (iZtD tr) := fun W X ok tk => by
  obtain ⟨g1, g2⟩ := gl_of ok.scp hg
  have hm2 : X.mg "zip" = none := by rw [ok.g] at hm; exact hm
  have hK : X.K = G.K := by rw [ok.g]
  exact PI.imp (pi_zt g1 hm2 (ha W X ok tk) (hs X.env) (hpl X.env pos)) fun σ H R ⟨env, F, M, Φ, Q, E, hE, w, h, np, ep⟩ =>
    ⟨env, F, M, Φ, _, E, hE, w, h, fun ds vs F1 M1 H1 e1 w1 rs q => by
      obtain ⟨x, d, ys, rfl, hx, hl, q⟩ := q
      obtain ⟨v, v', rfl, r, r'⟩ := reps2 rs
      rw [Rep] at r; subst r
      obtain ⟨p, vs, rfl, hs, kp⟩ := keepOf_seq w1 r' hl
      refine ⟨x, p, vs, rfl, hx, by rw [hK]; exact hs, np _ _ _ _ _ _ e1 w1 (fun i F2 M2 Φ2 H2 e2 w2 k2 => ?_) q⟩
      obtain ⟨vs, hs2, rs2⟩ := kp F2 M2 Φ2 H2 e2 w2 k2
      rw [← hK] at hs2
      have hlen : (signsWith x ys).length = min x.cps.size ys.length := by unfold signsWith; rw [List.length_zipWith, Array.length_toList]
      refine ⟨fun hi => ?_, fun hi => ⟨vs, hs2, by rw [← rs2.len]; omega⟩⟩
      rw [hlen] at hi
      have i1 : i < x.cps.size := by omega
      have i2 : i < ys.length := by omega
      obtain ⟨v, h2, h3⟩ := rs2.get (List.getElem?_eq_getElem i2)
      refine ⟨⟨vs, x.cps[i], v, hs2, Array.getElem?_eq_getElem i1, h2⟩, fun u H3 y => ?_⟩
      obtain ⟨T, c, z, rfl, hT, hc, rfl, hz⟩ := y
      have ez := hz vs hs2
      rw [h2] at ez
      cases ez
      rw [Array.getElem?_eq_getElem i1] at hc
      cases hc
      refine ⟨_, .tup [.str ⟨#[x.cps[i]]⟩, ys[i]], w2.newEx hT, w2.new hT, ?_, ?_⟩
      · unfold signsWith
        rw [List.getElem?_zipWith, List.getElem?_eq_getElem i2, Array.getElem?_toList, Array.getElem?_eq_getElem i1]
      · rw [Rep]
        exact ⟨T, _, rfl, SqT.of upd_same, .cons (by rw [Rep]) (.cons (h3.mono (w2.newEx hT)) .nil)⟩, ep⟩
end HD
/-! sorted of at most one thing; defs whose own lists are forgotten at the end -/
namespace HD
open PySem PySem.Spec L2
variable {G : Gx} {F F' H H' Φ : Hp} {σ : St} {env : En} {M M' : MS} {k j : Nat} {N ps : List Str} {sc : ScX} {e a b c : Expr} {pos p : Pos} {te ta tb tc tm tk tv : DE} {es : List Expr} {tr : DA}
def rSort1D : List D → MS → QD → Prop := fun xs M Q => ∃ d ds, xs = [d] ∧ listOf M d = some ds ∧ ds.length ≤ 1 ∧ Q (.lst ds) M
theorem cd_sorted1 : CallD G k (.builtin "sorted") rSort1D := fun X hg hr hc => ⟨fun xs H Q => ∃ a vs, xs = [.ref a] ∧ SqL X.K H a vs ∧ vs.length ≤ 1 ∧ ∀ p, H p = none → Q (.ref p) (upd H p (.lst vs)), fun pins s σ H vs us Q I r h => by
  obtain ⟨a, xs, rfl, hs, hl1, q⟩ := h
  obtain ⟨its, rv, hl, hz⟩ := I.list hs
  obtain ⟨u, rfl, ru⟩ := vals1 r
  obtain rfl : u = Value.ref a := ru
  have ln := rv.length
  refine Srt.sorted_any hl.isList (by rw [← ln]; exact hz) (fun h2 => by omega) fun out hp => ?_
  have e : out = its := by
    match its, out, hp with
    | [], out, hp => exact hp.eq_nil
    | [x], out, hp => exact List.perm_singleton.mp hp
    | x :: y :: r, out, hp => simp at ln; omega
  subst e
  obtain ⟨n, hn⟩ := PyProof.Rows.sortedAll_at s.heap out out.toArray
  exact ⟨.ref (s.heap.objs.size + 1), upd H (s.heap.objs.size + 1) (.lst xs), I.laid (t' := s.toks) (fun b o e => PyProof.Rows.sortedAll_old e) (Nat.le_succ _) ⟨hz, out, n, rv, hn⟩, rfl, q _ (I.hok.fresh (Nat.le_succ _))⟩, fun xs ds F M Φ H Q Qh w rs h np => by
  obtain ⟨d, es, rfl, h1, h2, q⟩ := h
  obtain ⟨v, rfl, r⟩ := reps1 rs
  obtain ⟨p, vs, rfl, hs, rs2⟩ := listOf_seq w r h1
  have hK : X.K = G.K := by rw [hg]
  exact ⟨p, vs, rfl, by rw [hK]; exact hs, by rw [← rs2.len]; exact h2, fun n hn => np _ _ _ _ _ (w.newEx hn) (w.new hn) (by rw [Rep]; exact ⟨n, vs, rfl, upd_same, rs2.mono (w.newEx hn)⟩) q⟩⟩
/-! ### less is told of what may change -/
def Sub (M' M : MS) : Prop := ∀ a o, M' a = some o → M a = some o
theorem Sub.refl (M : MS) : Sub M M := fun _ _ h => h
theorem Sub.put {M : MS} {a : Addr} {o : MO} (h : M a = none) : Sub M (M.put a o) := fun b u e => by
  rw [MS.put_ne (ne_of_M e h)]; exact e
theorem Sub.trans {M M1 M2 : MS} (h : Sub M M1) (g : Sub M1 M2) : Sub M M2 := fun a o e => g a o (h a o e)
theorem Wd.sub (w : Wd G F M Φ H) (h : Sub M' M) : Wd G F M' Φ H :=
  ⟨w.f, fun a o e => w.m a o (h a o e), fun a o e => by
    obtain ⟨h1, h2, h3⟩ := w.φ a o e
    refine ⟨h1, h2, ?_⟩
    cases q : M' a with
    | none => rfl
    | some u => rw [h a u q] at h3; cases h3⟩
/-- what is wanted, where more may be told -/
def lessQ (Q : QD) : QD := fun d M => ∃ M', Sub M' M ∧ Q d M'
def lessE (E : QE) : QE := fun c d M => ∃ M', Sub M' M ∧ E c d M'
theorem lessQ.of {Q : QD} {d : D} (h : Q d M) : lessQ Q d M := ⟨M, Sub.refl M, h⟩
theorem NP.less {Q : QD} {Qh : VK} (np : NP G F Φ Q Qh) : NP G F Φ (lessQ Q) Qh := fun d v F' M' H' e w r ⟨M2, s, q⟩ => np d v F' M2 H' e (w.sub s) r q
theorem EPo.less {E : QE} {W : Value → Option Addr → Hp → Prop} (ep : EPo G F Φ E W) : EPo G F Φ (lessE E) W := fun c d v dx F' M' H' e w r hx ⟨M2, s, q⟩ => ep c d v dx F' M2 H' e (w.sub s) r hx q
theorem Def.less {f : Addr} {S : DSp} (h : Def G k f ps (fun ds M Q E => ∃ Q0 E0, S ds M Q0 E0 ∧ Q = lessQ Q0 ∧ E = lessE E0)) : Def G k f ps S := by
  obtain ⟨fd, b, Fk, l⟩ := h.ex
  exact ⟨h.kp, fd, b, Fk.imp fun vs H Q E ⟨F, M, Φ, ds, Qd, Ed, w, r, hl, s, np, ep⟩ => ⟨F, M, Φ, ds, lessQ Qd, lessE Ed, w, r, hl, ⟨Qd, Ed, s, rfl, rfl⟩, np.less, ep.less⟩, l⟩
/-- THE RULE for a def whose own lists are forgotten -/
theorem def_okL {x qual : Str} {params : Arguments} {body : List Stmt} {scope : Scope} {kws : List (Str × V)} {f : Addr} {fd : FuncData} {S : DSp} {t : DS} (Fd : FunD G.K x qual params body scope [] kws f fd) (hS : FnScope N ps scope)
    (hb : ∀ (kV doc pm : Value) (an : Option Addr) (cdv ct : Value) (us : List Value), us.length = ps.length → bindArgs (PySem.W.fnOf x qual params body scope .none kV doc pm an cdv ct) ⟨us, []⟩ = pure (ps.zip us))
    (ht : PDs G k N ⟨scope, fun _ => true⟩ body t) (h : ∀ ds M Q E, ds.length = ps.length → S ds M Q E → t { nx := fun _ M' => lessQ Q .non M', rt := lessQ Q, ex := fun _ => lessE E } (startD N ds) M) : Def G (k + 1) f ps S :=
  Def.less (def_ok Fd hS hb ht fun ds M Q E hl ⟨Q0, E0, s, hq, he⟩ => by subst hq; subst he; exact h ds M Q0 E0 hl s)
end HD
/-! the forms of turns -/
namespace HD
open PySem PySem.Spec L2
variable {elt t0 i0 t1 i1 t2 i2 : Expr} {f0 f1 f2 : List Expr} {scope : Scope} {pos : Pos}
theorem turn20 : TurnForm elt [⟨t0, i0, f0, 0⟩, ⟨t1, i1, f1, 0⟩] scope pos 0 t0 i0 f0 (some i1) := fun it acc env => by
  unfold behindTests
  simp only [bind_assoc, pure_bind]
  rfl
theorem turn21 : TurnForm elt [⟨t0, i0, f0, 0⟩, ⟨t1, i1, f1, 0⟩] scope pos (0 + 1) t1 i1 f1 none := fun _ _ _ => rfl
theorem turn30 : TurnForm elt [⟨t0, i0, f0, 0⟩, ⟨t1, i1, f1, 0⟩, ⟨t2, i2, f2, 0⟩] scope pos 0 t0 i0 f0 (some i1) := fun it acc env => by
  unfold behindTests
  simp only [bind_assoc, pure_bind]
  rfl
theorem turn31 : TurnForm elt [⟨t0, i0, f0, 0⟩, ⟨t1, i1, f1, 0⟩, ⟨t2, i2, f2, 0⟩] scope pos (0 + 1) t1 i1 f1 (some i2) := fun it acc env => by
  unfold behindTests
  simp only [bind_assoc, pure_bind]
  rfl
theorem turn32 : TurnForm elt [⟨t0, i0, f0, 0⟩, ⟨t1, i1, f1, 0⟩, ⟨t2, i2, f2, 0⟩] scope pos (0 + 1 + 1) t2 i2 f2 none := fun _ _ _ => rfl
variable {G : Gx} {F F' H H' Φ : Hp} {σ : St} {env : En} {M M' : MS} {k j : Nat} {N ps : List Str} {sc : ScX} {ti to : DE} {i o : Expr}
theorem dnin_run {W : WX} : ∀ σ H Qh, tD G W (dDIn true ti to) σ H Qh → tDNotIn (tD G W ti) (tD G W to) σ H Qh := fun σ H Qh ⟨env, F, M, Φ, Q, E, hE, w, h, np, ep⟩ => tD.seq hE w h ep fun d v F1 M1 H1 e1 w1 hE1 r1 q1 ep1 => tD.seq hE1 w1 q1 ep1 fun d2 v2 F2 M2 H2 e2 w2 hE2 r2 q2 ep2 => by
  obtain ⟨ks, ds, z, rfl, hz, q⟩ := q2
  obtain ⟨a, vs, rfl, e, hl, rs, g⟩ := dget_ok (x := .non) w2 r2 (r1.mono e2) hz
  refine ⟨a, _, rfl, g, np _ _ F2 M2 H2 (e1.trans e2) w2 ?_ q⟩
  rw [Rep]
  have q3 := getD_ok (z := z) hl rs
  cases hg : getD' ks ds z with
  | none => rw [hg] at q3; rw [q3]; rfl
  | some u => rw [hg] at q3; obtain ⟨u', h1, _⟩ := q3; rw [h1]; rfl
theorem pt_dnin (hi : PD G k N sc i ti) (ho : PD G k N sc o to) (hm : behindInMarks .NotIn o = false) : PDT G k N sc (.Compare i [.NotIn] [o] pos) (dB (dDIn true ti to)) := fun W X ok tk =>
  PT.imp (pt_cmp (pc_dnotin (room1 ok) (hi W X ok tk) (ho W X ok tk)) hm) fun σ H Q ⟨env, F, M, Φ, Qd, E, hE, w, h, np, ep⟩ => dnin_run σ H _ ⟨env, F, M, Φ, _, E, hE, w, h, fun d v F' M' H' e w' r q => by
    obtain ⟨c, rfl, q⟩ := q
    rw [Rep] at r
    exact ⟨c, r, np c F' M' H' e w' q⟩, ep⟩
end HD
/-! reading readings -/
namespace HD
open PySem PySem.Spec L2
theorem lcT {g : Tg} {tt : DT} {te : DE} {keep : MS → Prop} {env : En} {M : MS} {Q : QD} (f : D → Option D) (hk : keep M) : ∀ (ds acc : List D), (∀ d ∈ ds, ∀ (Ks : D → MS → Prop) (Kn : MS → Prop), (match f d with | some y => Ks y M | none => Kn M) →
      dTg g d env M fun env' M1 => tt env' M1 (fun b M2 => if b = true then te env' M2 Ks E00 else Kn M2) E00) → Q (.lst (acc ++ ds.filterMap f)) M → lcTurns g tt te keep env ds acc M Q
  | [], acc, _, q => ⟨hk, by simpa using q⟩
  | d :: ds, acc, h, q => by
    refine ⟨hk, h d (List.mem_cons_self ..) _ _ ?_⟩
    cases e : f d with
    | none =>
      rw [List.filterMap_cons, e] at q
      exact lcT f hk ds acc (fun d' hd => h d' (List.mem_cons_of_mem _ hd)) q
    | some y =>
      rw [List.filterMap_cons, e] at q
      exact lcT f hk ds (acc ++ [y]) (fun d' hd => h d' (List.mem_cons_of_mem _ hd)) (by simpa using q)
/-- no tests, each item gives its own -/
theorem lcM {g : Tg} {te : DE} {keep : MS → Prop} {env : En} {M : MS} {Q : QD} {α : Type} (i f : α → D) (hk : keep M) (xs : List α) (h : ∀ x ∈ xs, ∀ (K : D → MS → Prop), K (f x) M → dTg g (i x) env M fun env' M1 => te env' M1 K E00) (q : Q (.lst (xs.map f)) M) : lcTurns g dYes te keep env (xs.map i) [] M Q := by
  have gen : ∀ (xs : List α) (acc : List D), (∀ x ∈ xs, ∀ (K : D → MS → Prop), K (f x) M → dTg g (i x) env M fun env' M1 => te env' M1 K E00) → Q (.lst (acc ++ xs.map f)) M → lcTurns g dYes te keep env (xs.map i) acc M Q := by
    intro xs
    induction xs with
    | nil => intro acc _ q; exact ⟨hk, by simpa using q⟩
    | cons x xs ih =>
      intro acc h q
      have z := h x (List.mem_cons_self ..) (fun y M3 => lcTurns g dYes te keep env (xs.map i) (acc ++ [y]) M3 Q) (ih (acc ++ [f x]) (fun y hy => h y (List.mem_cons_of_mem _ hy)) (by simpa using q))
      exact ⟨hk, z⟩
  exact gen xs [] h (by simpa using q)
/-- a loop whose turns keep a word -/
theorem forT {g : Tg} {body : DS} {D' : EndD} {keep : MS → Prop} (I : List D → En → MS → Prop) (h : ∀ d ds env M, I (d :: ds) env M → keep M ∧ dTg g d env M fun env' M1 => body { D' with nx := fun e m => I ds e m, ct := fun e m => I ds e m, bk := D'.nx } env' M1)
    (mono : ∀ (d : D) (ds : List D) (env : En) (M : MS) (K : En → MS → Prop), (∀ e m, I ds e m → K e m) → (dTg g d env M fun env' M1 => body { D' with nx := fun e m => I ds e m, ct := fun e m => I ds e m, bk := D'.nx } env' M1) → dTg g d env M fun env' M1 => body { D' with nx := K, ct := K, bk := D'.nx } env' M1)
    (fin : ∀ env M, I [] env M → keep M ∧ D'.nx env M) : ∀ ds env M, I ds env M → forTurns g body D' keep ds env M
  | [], env, M, i => fin env M i
  | d :: ds, env, M, i => ⟨(h d ds env M i).1, mono d ds env M _ (fun e m j => forT I h mono fin ds e m j) (h d ds env M i).2⟩
/-! ### what leads to an operator's reading -/
section
variable {M : MS} {Q : QD} {d : D} {ds es : List D} {x y : Str} {i j : Int} {a : Addr}
theorem r_lenS (h : x.length ≤ 100000) (q : Q (.int x.length) M) : rLenD [.str x] M Q := ⟨_, rfl, .inr ⟨x, rfl, h, q⟩⟩
theorem r_lenL (h : itemsOf M d = some ds) (q : Q (.int ds.length) M) : rLenD [d] M Q := ⟨_, rfl, .inl ⟨ds, h, q⟩⟩
theorem r_eqI (q : Q (.bl (decide (i = j))) M) : rEqualD (.int i) (.int j) M Q := .inl ⟨_, rfl, q⟩
theorem r_eqS (q : Q (.bl (decide (x = y))) M) : rEqualD (.str x) (.str y) M Q := .inl ⟨_, rfl, q⟩
theorem r_neI (q : Q (.bl (!decide (i = j))) M) : rDiffD (.int i) (.int j) M Q := .inl ⟨_, rfl, q⟩
theorem r_neS (q : Q (.bl (!decide (x = y))) M) : rDiffD (.str x) (.str y) M Q := .inl ⟨_, rfl, q⟩
theorem r_int {c : Int → Int → Prop} {f : Int → Int → D} (h : c i j) (q : Q (f i j) M) : rInt c f (.int i) (.int j) M Q := ⟨i, j, rfl, rfl, h, q⟩
theorem r_addI (q : Q (.int (i + j)) M) : rAddD (.int i) (.int j) M Q := .inl ⟨i, j, rfl, rfl, q⟩
theorem r_addL (h : ds.length + es.length ≤ 100000) (q : Q (.lst (ds ++ es)) M) : rAddD (.lst ds) (.lst es) M Q := .inr (.inl ⟨ds, es, rfl, rfl, h, q⟩)
theorem r_all {bs : List Bool} (h : listOf M d = some ds) (hb : blsOf ds = some bs) (q : Q (.bl (bs.all id)) M) : rAllD [d] M Q := ⟨d, ds, bs, rfl, h, hb, q⟩
theorem r_anyI {ns : List Int} (h : listOf M d = some ds) (hb : intsOf ds = some ns) (q : Q (.bl (ns.any fun n => n != 0)) M) : rAnyD [d] M Q := ⟨d, ds, rfl, h, .inl ⟨ns, hb, q⟩⟩
theorem r_tup (q : Q (.tup ds) M) : rTupD [.lst ds] M Q := ⟨ds, rfl, q⟩
theorem r_list (h : itemsOf M d = some ds) (q : Q (.lst ds) M) : rListD [d] M Q := ⟨d, ds, rfl, h, q⟩
theorem r_in {e : D} {b : Bool} (h : inF M d e = some b) (q : Q (.bl b) M) : rInD d e M Q := ⟨b, h, q⟩
theorem r_notIn {e : D} {b : Bool} (h : inF M d e = some b) (q : Q (.bl (!b)) M) : rNotInD d e M Q := ⟨b, h, q⟩
theorem r_ix {e : D} (h : ixF M d (.int i) = some e) (q : Q e M) : rF ixF d (.int i) M Q := ⟨e, h, q⟩
theorem r_app (h : M a = some (.lst ds)) (hz : ds.length < 100000) (q : Q .non (M.put a (.lst (ds ++ [d])))) : rAppD (.cell a) [d] M Q := ⟨a, ds, d, rfl, rfl, h, hz, q⟩
/-- texts among texts -/
theorem in_strs {xs : List Str} (h : ∀ z ∈ xs, z.cps.size = 1) : ∀ {M : MS}, (xs.map D.str).all flatD = true ∧ ((xs.map D.str).any fun e => eqFD e (.str x)) = decide (x ∈ xs) := by
  intro M
  refine ⟨by rw [List.all_eq_true]; intro d hd; obtain ⟨z, _, rfl⟩ := List.mem_map.mp hd; rfl, ?_⟩
  clear h
  induction xs with
  | nil => simp
  | cons z xs ih =>
    rw [List.map_cons, List.any_cons, ih]
    show (z == x || decide (x ∈ xs)) = decide (x ∈ z :: xs)
    by_cases e : z = x
    · subst e; simp
    · have : (z == x) = false := beq_eq_false_iff_ne.mpr e
      rw [this]; simp [Ne.symm e]
end
/-- several clauses: each item adds its own list -/
theorem tdM {g : Tg} {body : BD} {keep : MS → Prop} {env : En} {M : MS} {K : KD} {α : Type} (i : α → D) (f : α → List D) (hk : keep M) : ∀ (xs : List α) (acc : List D), acc.length + (xs.flatMap f).length ≤ 100000 →
    (∀ x ∈ xs, ∀ (acc : List D) (K' : KD), acc.length + (f x).length ≤ 100000 → K' (acc ++ f x) M → dTg g (i x) env M fun env' M1 => body env' acc M1 K') → K (acc ++ xs.flatMap f) M → turnsD g dYes body keep env (xs.map i) acc M K
  | [], acc, _, _, q => ⟨hk, by simpa using q⟩
  | x :: xs, acc, hl, h, q => by
    rw [List.flatMap_cons, List.length_append] at hl
    have z := h x (List.mem_cons_self ..) acc (fun acc' M3 => turnsD g dYes body keep env (xs.map i) acc' M3 K) (by omega)
      (tdM i f hk xs (acc ++ f x) (by rw [List.length_append]; omega) (fun y hy => h y (List.mem_cons_of_mem _ hy)) (by rw [List.append_assoc, ← List.flatMap_cons]; exact q))
    exact ⟨hk, z⟩
/-! ### fields of cells -/
theorem flds_cell {cs : List Str} {M : MS} {a : Addr} {c : Str} {ns : List Str} {ds : List D} (h : M a = some (.ins c ns ds)) (hc : cs.contains c = true) : fldsOf cs M (.cell a) = some (ns, ds) := by
  unfold fldsOf
  simp only [h, hc, if_true]
theorem flds_not {cs : List Str} {M : MS} {a : Addr} {c : Str} {ns : List Str} {ds : List D} (h : M a = some (.ins c ns ds)) (hc : cs.contains c = false) : fldsOf cs M (.cell a) = none := by
  unfold fldsOf
  simp only [h, hc, Bool.false_eq_true, if_false]
theorem fld_cell {cs : List Str} {M : MS} {a : Addr} {c f : Str} {ns : List Str} {ds : List D} (h : M a = some (.ins c ns ds)) (hc : cs.contains c = true) : fldOf cs M (.cell a) f = (ns.zip ds).lookup f := by
  unfold fldOf
  rw [flds_cell h hc]; rfl
theorem isCls_cell {M : MS} {a : Addr} {c m : Str} {ns : List Str} {ds : List D} (h : M a = some (.ins c ns ds)) (hm : ns.contains m = false) : isCls M c m (.cell a) = true := by
  unfold isCls
  rw [flds_cell h (by simp)]
  simp only [hm, Bool.not_false]
theorem tyD_cell {M : MS} {a : Addr} {c : Str} {ns : List Str} {ds : List D} (h : M a = some (.ins c ns ds)) : tyD M (.cell a) = some (.c c) := by
  unfold tyD
  simp only [h]
end HD
namespace HD
open PySem PySem.Spec PyProof.Rows L2
theorem isNone_ok {v : Value} (h : isNone v = true) : v = .none := by
  cases v <;> first | rfl | cases h
theorem DfA.funD {K : PySem.W.Frag} {d : DfA} (e : dfW K d = d.val) (c : d.ok K = true) (hs : d.sup = none) : ∃ fd, FunD K d.name d.qual d.params d.body d.scope [] [] (d.at_.ad K) fd := by
  obtain ⟨kp, c2⟩ := He.ba c
  unfold dfW at e
  cases q : K.lookup (d.at_.ad K) with
  | none => rw [q] at c2; cases c2
  | some o =>
    obtain ⟨oc, od, dt, osl⟩ := o
    rw [q] at c2 e
    cases dt with
    | func fd =>
      obtain ⟨n1, n2, n3, n4, n5, n6, n7, n8, n9, n10, n11, n12, n13, n14, n15⟩ := fd
      unfold DfA.val at e
      rw [hs] at e
      simp only [Option.some.injEq, Prod.mk.injEq] at e
      obtain ⟨h1, h2, h3, h4, h5, h6, h7, h8⟩ := e
      obtain ⟨k1, k2⟩ := He.ba c2
      obtain ⟨k3, k4⟩ := He.ba k2
      have h8' := isNone_ok k3
      simp only at h8'
      have h7' : n7 = [] := List.map_eq_nil_iff.mp h7
      subst h1 h2 h3 h4 h5 h6 h7' h8 h8'
      exact ⟨_, ⟨oc, od, _, n9, n10, n11, n12, n13, n14, osl, rfl, q, k1, .inl ⟨rfl, rfl⟩, .inl rfl⟩, kp⟩
    | _ => cases c2
theorem codeIn_ref' {K : PySem.W.Frag} {cd : Value} {q : Str} (h : PySem.W.codeIn K cd q = true) : ∃ c, cd = .ref c := by
  cases cd with
  | ref c => exact ⟨c, rfl⟩
  | _ => cases h
/-- a def that says super() -/
theorem DfA.supD {P : Program} {w : World} {K : PySem.W.Frag} {mg : Str → Option Value} {base : Heap} {d : DfA} {D file : Str} (e : dfW K d = d.val) (c : d.ok K = true) (hs : d.sup = some (D, file)) (hf : ((P.main.file : Str) == file) = true)
    (htop : (P.main.scope.names.lookup ("super" : Str)).isSome = false) (hmg : mg "super" = none) :
    ∃ (cc ca : Addr), SupDef ⟨P, w, K, mg, base⟩ ⟨d.name, d.qual, d.params, d.body, d.scope, [("__class__", cc)], ca⟩ (d.at_.ad K) cc (He.ga K D) := by
  obtain ⟨kp, c2⟩ := He.ba c
  unfold dfW at e
  cases q : K.lookup (d.at_.ad K) with
  | none => rw [q] at c2; cases c2
  | some o =>
    obtain ⟨oc, od, dt, osl⟩ := o
    rw [q] at c2 e
    cases dt with
    | func fd =>
      obtain ⟨n1, n2, n3, n4, n5, n6, n7, n8, n9, n10, n11, n12, n13, n14, n15⟩ := fd
      unfold DfA.val at e
      rw [hs] at e
      simp only [Option.some.injEq, Prod.mk.injEq] at e
      obtain ⟨h1, h2, h3, h4, h5, h6, h7, h8⟩ := e
      obtain ⟨k1, k2⟩ := He.ba c2
      obtain ⟨k3, k4⟩ := He.ba k2
      rw [hs] at k4
      have h8' := isNone_ok k3
      simp only at h8'
      obtain ⟨ca, hca⟩ := codeIn_ref' k1
      simp only at hca
      subst hca
      match n7, h7, k4 with
      | [(z, cc)], h7, k4 =>
        simp only [List.map_cons, List.map_nil, List.cons.injEq, and_true] at h7
        subst h7
        unfold supB at k4
        simp only [Bool.and_eq_true] at k4
        obtain ⟨⟨⟨k5, k6⟩, k7⟩, k8⟩ := k4
        subst h1 h2 h3 h4 h5 h6 h8 h8'
        have cell : ∃ (x : Value) (y : Option Addr) (z : Array (Option Value)), K.lookup cc = some ⟨x, y, .cell (some (.ref (He.ga K D))), z⟩ := by
          cases q2 : K.lookup cc with
          | none => rw [q2] at k5; cases k5
          | some o =>
            obtain ⟨x, y, dt, z⟩ := o
            rw [q2] at k5
            cases dt with
            | cell v =>
              cases v with
              | none => cases k5
              | some v =>
                cases v with
                | ref a => exact ⟨x, y, z, by rw [of_decide_eq_true k5]⟩
                | _ => cases k5
            | _ => cases k5
        have fl : ∃ (oc : Obj) (vs : Array Value) (file : Str) (tf : Tok), K.lookup ca = some oc ∧ oc.data = .fields vs ∧ vs[2]? = some (.str file tf) ∧ ((P.main.file : Str) == file) = true := by
          cases q2 : K.lookup ca with
          | none => rw [q2] at k6; cases k6
          | some o =>
            obtain ⟨x, y, dt, z⟩ := o
            rw [q2] at k6
            cases dt with
            | fields vs =>
              simp only at k6
              cases q3 : vs[2]? with
              | none => rw [q3] at k6; cases k6
              | some v =>
                rw [q3] at k6
                cases v with
                | str f t => exact ⟨_, vs, f, t, rfl, rfl, q3, by rw [of_decide_eq_true k6]; exact hf⟩
                | _ => cases k6
            | _ => cases k6
        obtain ⟨cd, hcd⟩ := Option.isSome_iff_exists.mp k7
        exact ⟨cc, ca, ⟨oc, od, n9, n10, n11, n12, n14, osl, q⟩, k1, kp, rfl, cell, fl, htop, ⟨cd, hcd⟩, He.eqO_ok k8, hmg⟩
    | _ => cases c2
theorem obsZG_eq {n : Nat} {fa : List Fq} {fn : List DfA} {g : Addr → Option Obj} {s : Shared} (h : ∀ a, g a = s.heap.get? a) : obsZG n fa fn g = (hookZ n fa fn).obs s := by
  rw [show g = s.heap.get? from funext h] <;> rfl
section
variable {fa : List Fq} {fn : List DfA} {K : PySem.W.Frag} {P : Program} {w : World} {mg : Str → Option Value} {base : Heap}
theorem SaysZ.fact (c : SaysZ fa fn K) (i : Nat) {f : Fq} (h : fa[i]? = some f) : f.ok K = true :=
  List.all_eq_true.mp (He.ba (congrArg (fun z : AlZ => z.1) c)).1 f (List.mem_of_getElem? h)
theorem SaysZ.at_ (c : SaysZ fa fn K) (i : Nat) {d : DfA} (h : fn[i]? = some d) : dfW K d = d.val ∧ d.ok K = true := by
  have e : fn.map (fun d => dfW K d) = fn.map DfA.val := congrArg (fun z : AlZ => z.2) c
  have e2 : (fn.map fun d => dfW K d)[i]? = (fn.map DfA.val)[i]? := by rw [e]
  rw [List.getElem?_map, List.getElem?_map, h] at e2
  exact ⟨Option.some.inj e2, List.all_eq_true.mp (He.ba (congrArg (fun z : AlZ => z.1) c)).2 d (List.mem_of_getElem? h)⟩
theorem SaysZ.def_ (c : SaysZ fa fn K) (i : Nat) {d : DfA} (h : fn[i]? = some d) (hs : d.sup = none) : ∃ fd, FunD K d.name d.qual d.params d.body d.scope [] [] (d.at_.ad K) fd :=
  let ⟨e, o⟩ := c.at_ i h; d.funD e o hs
/-! ### what follows -/
theorem z_prop {c f : Str} {cl : Cls K (He.ga K c)} (h : (Fq.prop c f).ok K = true) : PropOk ⟨P, w, K, mg, base⟩ c f ((Pa.p c f).ad K) := by
  simp only [Fq.ok, Bool.and_eq_true, decide_eq_true_eq] at h
  obtain ⟨⟨⟨h1, h2⟩, h3⟩, h4⟩ := h
  refine ⟨cl, _, h1, h2, h3, ?_⟩
  show ∃ rest, PySem.W.recIn K _ "property" = some (.ref (getter K _) :: rest)
  unfold getter
  cases q : PySem.W.recIn K (He.ma K (He.ga K c) f) "property" with
  | none => rw [q] at h4; cases h4
  | some l =>
    rw [q] at h4
    match l, h4 with
    | .ref g :: r, _ => exact ⟨r, rfl⟩
theorem z_two {x : Str} {i j : Int} (h : (Fq.two x i j).ok K = true) (hm : mg x = some (.ref (He.ga K x))) : GlobD ⟨P, w, K, mg, base⟩ x (.tup [.int i, .int j]) :=
  ⟨.ref (He.ga K x), _, hm, rfl, fun F => by
    rw [Rep]
    refine ⟨_, [.int i, .int j], rfl, He.tupB_ok h F, ?_⟩
    exact .cons (by rw [Rep]) (.cons (by rw [Rep]) .nil)⟩
theorem z_str {x z : Str} (h : ∃ t, mg x = some (.str z t)) : GlobD ⟨P, w, K, mg, base⟩ x (.str z) :=
  let ⟨t, h⟩ := h; ⟨.str z, _, h, ⟨t, rfl⟩, fun F => by rw [Rep]⟩
theorem z_super {c d m e : Str} (h : (Fq.supm c d m e).ok K = true) : SupMeth ⟨P, w, K, mg, base⟩ c (He.ga K d) ((Pa.m e m).ad K) m := by
  simp only [Fq.ok, Bool.and_eq_true, decide_eq_true_eq] at h
  obtain ⟨⟨⟨h1, h2⟩, h3⟩, h4⟩ := h
  exact ⟨h1, h2, h3, h4⟩
end
end HD
namespace HD
open PySem PySem.Spec L2
/-! ## what the data are -/
abbrev Pane := List (Int × Str)
abbrev Blk := List (List Pane)
abbrev Nm := List (Str × Int × Blk)
def dPr (p : Int × Str) : D := .tup [.int p.1, .str p.2]
def dPane (f : Pane) : D := .lst (f.map dPr)
def kPane (f : Pane) : D := .tup (f.map dPr)
def dRow (l : List Pane) : D := .lst (l.map dPane)
def kRow (l : List Pane) : D := .tup (l.map kPane)
def dBlk (b : Blk) : D := .lst (b.map dRow)
def kBlk (b : Blk) : D := .tup (b.map kRow)
def dEnt (x : Str × Int × Blk) : D := .tup [.str x.1, .int x.2.1, dBlk x.2.2]
def kEnt (x : Str × Int × Blk) : D := .tup [.str x.1, .int x.2.1, kBlk x.2.2]
def dNm (n : Nm) : D := .lst (n.map dEnt)
def kNm (n : Nm) : D := .tup (n.map kEnt)
def dLETTERS : D := .str "abcdefghijklmnopqrstuvwxyz"
def dBASES : D := .tup [.int 2, .int 3]
def okName (x : Str) : Prop := ∃ c, x = ⟨#[c]⟩ ∧ 97 ≤ c ∧ c ≤ 122
structure OkNm (b : Int) (n : Nm) : Prop where
  base : b = 2 ∨ b = 3
  len : n.length ≤ 100
  name : ∀ x ∈ n, okName x.1
  nd : (n.map (·.1)).Nodup
  sq : ∀ x ∈ n, (x.2.2.length : Int) = b ∧ ∀ l ∈ x.2.2, (l.length : Int) = b
  pane : ∀ x ∈ n, ∀ l ∈ x.2.2, ∀ f ∈ l, f.length ≤ 100 ∧ ∀ p ∈ f, p.2 ∈ n.map (·.1)
def bookD (b : Int) (n : Nm) : D := .obj "Book" [.int b, kNm n]
def tableD (b : Int) (n : Nm) (sh : List Int) : D := .obj "Table" [bookD b n, .tup (sh.map D.int)]
def sp_is_name : DSp := fun ds M Q E => ∃ x, okName x ∧ ds = [.str x] ∧ Q (.bl true) M
def sp_check_names : DSp := fun ds M Q E => ∃ n : Nm, ds = [dNm n] ∧ n.length ≤ 100 ∧ (∀ x ∈ n, okName x.1) ∧ (n.map (·.1)).Nodup ∧ Q .non M
def sp_is_square : DSp := fun ds M Q E => ∃ (b : Int) (x : Blk), ds = [.int b, dBlk x] ∧ (x.length : Int) = b ∧ (∀ l ∈ x, (l.length : Int) = b) ∧ b ≤ 100 ∧ Q (.bl true) M
def sp_check_blocks : DSp := fun ds M Q E => ∃ b n, ds = [.int b, dNm n] ∧ OkNm b n ∧ Q .non M
def sp_kept_blocks : DSp := fun ds M Q E => ∃ x : Blk, ds = [dBlk x] ∧ x.length ≤ 100 ∧ (∀ l ∈ x, l.length ≤ 100 ∧ ∀ f ∈ l, f.length ≤ 100) ∧ Q (kBlk x) M
def sp_Book__init : DSp := fun ds M Q E => ∃ a b n, ds = [.cell a, .int b, dNm n] ∧ OkNm b n ∧ M a = some (.ins "Book" [] []) ∧ Q .non (M.put a (.ins "Book" ["radix", "kept"] [.int b, kNm n]))
def sp_Book_base : DSp := fun ds M Q E => ∃ b k, ds = [.obj "Book" [.int b, k]] ∧ Q (.int b) M
def sp_Book_names : DSp := fun ds M Q E => ∃ b n, ds = [bookD b n] ∧ n.length ≤ 100 ∧ Q (.lst (n.map fun x => .str x.1)) M
def sp_starts_of : DSp := fun ds M Q E => ∃ b n, ds = [bookD b n] ∧ n.length ≤ 100 ∧ Q (.lst (n.map fun x => .int x.2.1)) M
/-! ## a book without named tables -/
def sysD (b : Int) : D := .obj "System" [.lst [], .lst (List.replicate b.toNat (.lst (List.replicate b.toNat (.lst [])))), .lst []]
def spanM : MO := .ins "Span" ["lines"] [.lst []]
def sp_matrix_of : DSp := fun ds M Q E => ∃ b u l, ds = [bookD b [], u, l] ∧ Q (.lst []) M
def sp_common_divisor : DSp := fun ds M Q E => ds = [.lst []] ∧ Q (.int 0) M
def sp_in_steps : DSp := fun ds M Q E => ds = [.lst []] ∧ Q (.lst []) M
def sp_shares_of : DSp := fun ds M Q E => ds = [.lst [], .lst []] ∧ Q (.lst []) M
def sp_Span__init : DSp := fun ds M Q E => ∃ a, ds = [.cell a] ∧ M a = some (.ins "Span" [] []) ∧ Q .non (M.put a spanM)
def sp_Span_rest : DSp := fun ds M Q E => ∃ a, ds = [.cell a, .lst []] ∧ M a = some spanM ∧ Q (.lst []) M
def sp_Span_take : DSp := fun ds M Q E => ∃ a, ds = [.cell a, .lst []] ∧ M a = some spanM ∧ Q (.bl false) M
def sp_System__init : DSp := fun ds M Q E => ∃ a s m f, ds = [.cell a, s, m, f] ∧ M a = some (.ins "System" [] []) ∧ Q .non (M.put a (.ins "System" ["starts", "matrices", "factors"] [s, m, f]))
def sp_System_block_count : DSp := fun ds M Q E => ∃ s ms f, ds = [.obj "System" [s, .lst ms, f]] ∧ Q (.int ms.length) M
def sp_system_of : DSp := fun ds M Q E => ∃ b : Int, ds = [tableD b [] []] ∧ (b = 2 ∨ b = 3) ∧ Q (sysD b) M
def sp_kept_places : DSp := fun ds M Q E => ∃ b, ds = [sysD b, .lst []] ∧ Q (.lst []) M
def sp_Table__init : DSp := fun ds M Q E => ∃ a b n, ∃ sh : List Int, ds = [.cell a, bookD b n, .lst (sh.map D.int)] ∧ sh.length = n.length ∧ n.length ≤ 100 ∧ M a = some (.ins "Table" [] []) ∧ Q .non (M.put a (.ins "Table" ["told_by", "parts"] [bookD b n, .tup (sh.map D.int)]))
def sp_Table_book : DSp := fun ds M Q E => ∃ x y, ds = [.obj "Table" [x, y]] ∧ Q x M
def sp_Table_shares : DSp := fun ds M Q E => ∃ x ys, ds = [.obj "Table" [x, .tup ys]] ∧ Q (.lst ys) M
def sp_kin_in : DSp := fun ds M Q E => ∃ b, ds = [sysD b] ∧ Q (.lst []) M
def sp_plain_system : DSp := fun ds M Q E => ∃ b : Int, ds = [sysD b] ∧ (b = 2 ∨ b = 3) ∧ Q (.tup [.lst [], tableD b [] []]) M
def sp_rank_of : DSp := fun ds M Q E => ∃ b : Int, ds = [tableD b [] []] ∧ (b = 2 ∨ b = 3) ∧ Q (.int 0) M
/-! ## == -/
def tyCs : List Str := ["Book", "Table", "Shelf", "SmallShelf"]
def tySub (c d : Str) : Bool := decide (c = d) || (decide (c = "SmallShelf") && decide (d = "Shelf"))
def sp_Book__eq : DSp := fun ds M Q E => ∃ r k r' k' n b, ds = [.obj "Book" [.int r, k], .obj "Book" [.int r', k']] ∧ n ≤ 20 ∧ EqT ob0 n k k' b ∧ Q (.bl (decide (r = r') && b)) M
def obB : Ob := fun n c xs ys b => c = "Book" ∧ 21 ≤ n ∧ ∃ r k r' k' m b', xs = [.int r, k] ∧ ys = [.int r', k'] ∧ m ≤ 20 ∧ EqT ob0 m k k' b' ∧ b = (decide (r = r') && b')
def sp_Table__eq : DSp := fun ds M Q E => ∃ x p x' p' n1 n2 b1 b2, ds = [.obj "Table" [x, p], .obj "Table" [x', p']] ∧ n1 ≤ 30 ∧ EqT obB n1 x x' b1 ∧ n2 ≤ 30 ∧ EqT ob0 n2 p p' b2 ∧ Q (.bl (b1 && b2)) M
def obT : Ob := fun n c xs ys b => obB n c xs ys b ∨ (c = "Table" ∧ 31 ≤ n ∧ ∃ x p x' p' n1 n2 b1 b2, xs = [x, p] ∧ ys = [x', p'] ∧ n1 ≤ 30 ∧ EqT obB n1 x x' b1 ∧ n2 ≤ 30 ∧ EqT ob0 n2 p p' b2 ∧ b = (b1 && b2))
/-! ## shelves -/
abbrev CN : Str := "Shelf"
def limD : Option Int → D
  | none => .non
  | some m => .int m
def shO (l : Option Int) (b : Int) (cs ss : List D) : MO := match l with
  | none => .ins "Shelf" ["radix", "calls", "states"] [.int b, .lst cs, .lst ss]
  | some m => .ins "SmallShelf" ["radix", "calls", "states", "greatest"] [.int b, .lst cs, .lst ss, .int m]
def putC (x t : D) : D := .tup [.str "put", x, t]
def dropC (x : D) : D := .tup [.str "drop", x]
def sp_Shelf__init : DSp := fun ds M Q E => ∃ a b, ∃ c : Str, ds = [.cell a, .int b] ∧ (b = 2 ∨ b = 3) ∧ (c = "Shelf" ∨ c = "SmallShelf") ∧ M a = some (.ins c [] []) ∧ Q .non (M.put a (.ins c ["radix", "calls", "states"] [.int b, .lst [], .lst [.dic [] []]]))
def sp_SmallShelf__init : DSp := fun ds M Q E => ∃ a b m, ds = [.cell a, .int b, .int m] ∧ (b = 2 ∨ b = 3) ∧ 0 ≤ m ∧ M a = some (.ins "SmallShelf" [] []) ∧ Q .non (M.put a (shO (some m) b [] [.dic [] []]))
def sp_Shelf_limit : DSp := fun ds M Q E => ∃ a b cs ss, ds = [.cell a] ∧ M a = some (shO none b cs ss) ∧ Q .non M
def sp_SmallShelf_limit : DSp := fun ds M Q E => ∃ a b cs ss m, ds = [.cell a] ∧ M a = some (shO (some m) b cs ss) ∧ Q (.int m) M
def sp_Shelf__eq : DSp := fun ds M Q E => ∃ a l b cs ss, M a = some (shO l b cs ss) ∧ ((∃ x t, ds = [.cell a, x] ∧ tyD M x = some t ∧ okTy tyCs t = true ∧ isTy tySub "Shelf" t = false ∧ Q (.bl false) M) ∨
  ∃ a' l' b' cs' ss', ds = [.cell a, .cell a'] ∧ M a' = some (shO l' b' cs' ss') ∧ ((b ≠ b' ∧ Q (.bl false) M) ∨ (b = b' ∧ l ≠ l' ∧ Q (.bl false) M) ∨ (b = b' ∧ l = l' ∧ ∃ n r, n ≤ 40 ∧ EqT obT n (.lst cs) (.lst cs') r ∧ Q (.bl r) M)))
def sp_Shelf_titles : DSp := fun ds M Q E => ∃ a l b cs ss ts vs, ds = [.cell a] ∧ M a = some (shO l b cs (ss ++ [.dic (ts.map Sum.inr) vs])) ∧ ts.length < 64 ∧ ∀ ys : List Str, ys.Perm ts → PyProof.Rows.sortedS ys = true → Q (.lst (ys.map D.str)) M
def sp_Shelf_check_title : DSp := fun ds M Q E => ∃ a l b cs ss ks vs x z, ds = [.cell a, .str x] ∧ M a = some (shO l b cs (ss ++ [.dic ks vs])) ∧ getD' ks vs (.inr x) = some z ∧ Q .non M
def sp_Shelf_check_base : DSp := fun ds M Q E => ∃ a l b cs ss n sh, ds = [.cell a, tableD b n sh] ∧ M a = some (shO l b cs ss) ∧ Q .non M
def sp_Shelf_keep : DSp := fun ds M Q E => ∃ a l b cs ss c s, ds = [.cell a, c, s] ∧ M a = some (shO l b cs ss) ∧ cs.length < 1000 ∧ ss.length < 1000 ∧ Q .non (M.put a (shO l b (cs ++ [c]) (ss ++ [s])))
def sp_Shelf_put : DSp := fun ds M Q E => ∃ a l b cs ss ks vs x n sh, ds = [.cell a, .str x, tableD b n sh] ∧ okName x ∧ M a = some (shO l b cs (ss ++ [.dic ks vs])) ∧ cs.length < 900 ∧ ss.length < 900 ∧ ks.length < 900 ∧ (b = 2 ∨ b = 3) ∧ (l = none ∨ ∃ m, l = some m ∧ 0 ≤ m ∧ n = [] ∧ sh = []) ∧
  Q .non (M.put a (shO l b (cs ++ [putC (.str x) (tableD b n sh)]) (ss ++ [.dic ks vs] ++ [.dic (kput ks (.inr x)) (dput ks vs (.inr x) (tableD b n sh))])))
def sp_Shelf_drop : DSp := fun ds M Q E => ∃ a l b cs ss z1 z2, ds = [.cell a, .str "b"] ∧ M a = some (shO l b cs (ss ++ [.dic [.inr "a", .inr "b"] [z1, z2]])) ∧ cs.length < 900 ∧ ss.length < 900 ∧
  Q .non (M.put a (shO l b (cs ++ [dropC (.str "b")]) (ss ++ [.dic [.inr "a", .inr "b"] [z1, z2]] ++ [.dic [.inr "a"] [z1]])))
def sp_Shelf_undo : DSp := fun ds M Q E => ∃ a l b cs c ss s, ds = [.cell a] ∧ M a = some (shO l b (cs ++ [c]) (ss ++ [s])) ∧ Q .non (M.put a (shO l b cs ss))
def sp_Shelf_table_on : DSp := fun ds M Q E => ∃ a l b cs ss ks vs x z, ds = [.cell a, .str x] ∧ M a = some (shO l b cs (ss ++ [.dic ks vs])) ∧ getD' ks vs (.inr x) = some z ∧ Q z M
/-! ## the law's own -/
def PoolM (K : Int) (o : MO) : Prop := ∃ x y z : Int, o = .lst [.int x, .int y, .int z] ∧ 0 ≤ x ∧ 0 ≤ y ∧ y ≤ 2 ^ 64 ∧ 0 ≤ z ∧ z ≤ K
def KM : Int := 1000000
def sp_L_pool : DSp := fun ds M Q E => ∃ (ns : List Int) (i : Int), ds = [.ro (ns.map D.int), .int i] ∧ 0 ≤ i ∧ i ≤ 100 ∧ ns.length ≤ 63 ∧ ∀ p o, M p = none → PoolM 0 o → Q (.cell p) (M.put p o)
def sp_L_draw : DSp := fun ds M Q E => ∃ a n K o, ds = [.cell a, .int n] ∧ 0 < n ∧ n ≤ 100 ∧ M a = some o ∧ PoolM K o ∧ K < KM ∧ ∀ r o', 0 ≤ r → r < n → PoolM (K + 1) o' → Q (.int r) (M.put a o')
def sp_L_factor : DSp := fun ds M Q E => ∃ a K o, ds = [.cell a] ∧ M a = some o ∧ PoolM K o ∧ K + 4 < KM ∧ ∀ r o', PoolM (K + 4) o' → Q (.int r) (M.put a o')
def lsD (ls : List Str) : D := .lst (ls.map D.str)
def sp_L_pane : DSp := fun ds M Q E => ∃ a ls K o, ds = [.cell a, lsD ls] ∧ ls ≠ [] ∧ ls.length ≤ 6 ∧ M a = some o ∧ PoolM K o ∧ K + 20 < KM ∧ ∀ (f : Pane) o', f.length ≤ 3 → (∀ p ∈ f, p.2 ∈ ls) → PoolM (K + 20) o' → Q (dPane f) (M.put a o')
def kindD (b : Int) (n : Nm) : D := .tup [.int b, dNm n]
def sp_L_kind : DSp := fun ds M Q E => ∃ a K o, ds = [.cell a, .int 3] ∧ M a = some o ∧ PoolM K o ∧ K + 1000 < KM ∧ ∀ b n o', OkNm b n → n ≠ [] → n.length ≤ 3 → PoolM (K + 1000) o' → Q (kindD b n) (M.put a o')
def sp_L_made : DSp := fun ds M Q E => ∃ b n, ds = [kindD b n] ∧ OkNm b n ∧ Q (bookD b n) M
def sp_L_parts : DSp := fun ds M Q E => ∃ a b n K o, ds = [.cell a, kindD b n] ∧ n ≠ [] ∧ n.length ≤ 3 ∧ M a = some o ∧ PoolM K o ∧ K + 10 < KM ∧ ∀ (sh : List Int) o', sh.length = n.length → PoolM (K + 10) o' → Q (.lst (sh.map D.int)) (M.put a o')
def toldD (b : Int) (n : Nm) (sh : List Int) : D := .tup [kindD b n, .lst (sh.map D.int)]
def sp_L_base_table : DSp := fun ds M Q E => ∃ a b K o, ds = [.cell a, .int b, .int 3] ∧ (b = 2 ∨ b = 3) ∧ M a = some o ∧ PoolM K o ∧ K + 1100 < KM ∧ ∀ n (sh : List Int) o', OkNm b n → sh.length = n.length → n.length ≤ 3 → PoolM (K + 1100) o' → Q (toldD b n sh) (M.put a o')
def sp_L_table_made : DSp := fun ds M Q E => ∃ b n, ∃ sh : List Int, ds = [toldD b n sh] ∧ OkNm b n ∧ sh.length = n.length ∧ Q (tableD b n sh) M
def sp_L_others_right : DSp := fun ds M Q E => ∃ b : Int, ds = [.int b] ∧ (b = 2 ∨ b = 3) ∧ Q (.bl true) M
def sp_L_right : DSp := fun ds M Q E => ∃ a K o, ds = [.cell a] ∧ M a = some o ∧ PoolM K o ∧ K + 2000 < KM ∧ ∀ o', PoolM (K + 2000) o' → Q (.bl true) (M.put a o')
/-! ## == of shelves -/
def EqSh (G : Gx) (c : Str) : Prop := ∃ f, EqCls G 42 c f sp_Shelf__eq
theorem od_sh {G : Gx} {k : Nat} {c : Str} (T : Tys G tyCs tySub) (hc : tyCs.contains c = true) (E : EqSh G c) (hk : 42 ≤ k) : OpD G k (compareOp .Eq) (rOwnEq tyCs tySub c sp_Shelf__eq) := Exists.elim E fun _ E => od_own T hc E hk
theorem od_shB {G : Gx} {k : Nat} (T : Tys G tyCs tySub) (E : EqSh G "SmallShelf") (hne : G.ca "SmallShelf" ≠ G.ca "Shelf") (hk : 42 ≤ k) : OpD G k (compareOp .Eq) (rOwnRev tyCs tySub "Shelf" "SmallShelf" sp_Shelf__eq) := Exists.elim E fun _ E => od_back T (by decide) (by decide) (by decide) hne E hk
def NeSh (G : Gx) : Prop := PySem.W.findIn G.K (.ref (G.ca "Shelf")) "__ne__" = some (some (.builtin "object.__ne__"))
theorem od_shN {G : Gx} {k : Nat} (T : Tys G tyCs tySub) (E : EqSh G "Shelf") (hne : NeSh G) (hk : 43 ≤ k) : OpD G k (compareOp .NotEq) (rOwnNe tyCs tySub "Shelf" sp_Shelf__eq) := Exists.elim E fun _ E => od_ownNe T (by decide) E hk hne
abbrev rShS : RD := rOwnEq tyCs tySub "Shelf" sp_Shelf__eq
abbrev rShT : RD := rOwnEq tyCs tySub "SmallShelf" sp_Shelf__eq
abbrev rShB : RD := rOwnRev tyCs tySub "Shelf" "SmallShelf" sp_Shelf__eq
abbrev rShN : RD := rOwnNe tyCs tySub "Shelf" sp_Shelf__eq
end HD
namespace HD
open PySem PySem.Spec L2
/-! ### is_name -/
abbrev N_is_name : List Str := ["name"]
def t_is_name : DS := sRet (dAndV (dOp rEqualD (dCall rLenD (dCons (dVar 0) (dNil))) (dC (.int 1))) (dOp rInD (dVar 0) (dC dLETTERS)))
theorem sc_is_name : FnScope N_is_name ["name"] (defScope s_is_name) := ⟨rfl, rfl, rfl, by decide +kernel, rfl, by decide +kernel, by decide +kernel⟩
theorem pds_is_name {G : Gx} (m_len : G.mg "len" = none) (g_LETTERS : GlobD G "LETTERS" dLETTERS) : PDs G 0 N_is_name ⟨defScope s_is_name, fun _ => true⟩ (defBody s_is_name) t_is_name :=
  pdss_one (psd_ret (pd_and (pd_cmp od_eq (pd_callB cd_len (by decide +kernel) m_len (by decide +kernel) (pda_cons (pd_var 0 rfl (by decide +kernel)) (pda_nil)) (by decide)) (pd_int) rfl) (pd_one (pd_cmp od_in (pd_var 0 rfl (by decide +kernel)) (pd_globD g_LETTERS (by decide +kernel)) rfl))))
/-! ### check_names -/
abbrev N_check_names : List Str := ["named", "seen", "name", "start", "blocks"]
def b_check_names_0 : DS := sSeq (sIf (dOr (dNot (dTru (dCallF 1 sp_is_name (dCons (dVar 2) (dNil))))) (dB (dOp rInD (dVar 2) (dVar 1)))) (sNever) (sNext)) (sDrop (dMt rAppD (dVar 1) (dCons (dVar 2) (dNil))))
def t_check_names : DS := sSeq (sAsg (dNew (dNil)) (.nm 1)) (sFor (iLst (dVar 0)) (.tp [2, 3, 4]) (b_check_names_0))
theorem sc_check_names : FnScope N_check_names ["named"] (defScope s_check_names) := ⟨rfl, rfl, rfl, by decide +kernel, rfl, by decide +kernel, by decide +kernel⟩
theorem pds_check_names {G : Gx} {f_is_name : Addr} (d_is_name : Def G 1 f_is_name ["name"] sp_is_name) (m_is_name : G.mg "is_name" = some (.ref f_is_name)) : PDs G 1 N_check_names ⟨defScope s_check_names, fun _ => true⟩ (defBody s_check_names) t_check_names :=
  pdss_cons (psd_asg (pd_new (pda_nil)) (pgd_nm 1 rfl (by decide +kernel))) (pdss_one (psd_for (pdi_lst (pd_var 0 rfl (by decide +kernel))) (pgd_tup (pgsd_cons 2 rfl (by decide +kernel) (pgsd_cons 3 rfl (by decide +kernel) (pgsd_cons 4 rfl (by decide +kernel) (pgsd_nil))))) (pdss_cons (psd_if (PDW.pt (pwd_or (pt_notD (pt_truD (fun _ _ => rfl) (pd_call d_is_name (by decide) m_is_name (by decide +kernel) (pda_cons (pd_var 2 rfl (by decide +kernel)) (pda_nil))))) (pwd_or1 (pt_cmpD od_in (pd_var 2 rfl (by decide +kernel)) (pd_var 1 rfl (by decide +kernel)) rfl)))) (pdss_one (psd_never)) (pdss_nil)) (pdss_one (psd_expr (pd_mt PySem.F.plainAttrs_list PySem.F.slot_list_append PySem.F.type_list_append md_append (pd_var 1 rfl (by decide +kernel)) (pda_cons (pd_var 2 rfl (by decide +kernel)) (pda_nil))))))))
/-! ### is_square -/
abbrev N_is_square : List Str := ["base", "blocks", "line"]
def t_is_square : DS := sRet (dAndV (dOp rEqualD (dCall rLenD (dCons (dVar 1) (dNil))) (dVar 0)) (dCall rAllD (dCons (dLc (iLst (dVar 1)) (.nm 2) (dYes) (dOp rEqualD (dCall rLenD (dCons (dVar 2) (dNil))) (dVar 0)) [2]) (dNil))))
theorem sc_is_square : FnScope N_is_square ["base", "blocks"] (defScope s_is_square) := ⟨rfl, rfl, rfl, by decide +kernel, rfl, by decide +kernel, by decide +kernel⟩
theorem pds_is_square {G : Gx} (m_len : G.mg "len" = none) (m_all : G.mg "all" = none) : PDs G 0 N_is_square ⟨defScope s_is_square, fun _ => true⟩ (defBody s_is_square) t_is_square :=
  pdss_one (psd_ret (pd_and (pd_cmp od_eq (pd_callB cd_len (by decide +kernel) m_len (by decide +kernel) (pda_cons (pd_var 1 rfl (by decide +kernel)) (pda_nil)) (by decide)) (pd_var 0 rfl (by decide +kernel)) rfl) (pd_one (pd_callB cd_all (by decide +kernel) m_all (by decide +kernel) (pda_cons (pd_lc [("line", 2)] (by decide +kernel) (by decide) (pdi_lst (pd_var 1 rfl (by decide +kernel))) (pgd_nm 2 rfl (by decide +kernel)) (pdts_nil) (pd_cmp od_eq (pd_callB cd_len (by decide +kernel) m_len (by decide +kernel) (pda_cons (pd_var 2 rfl (by decide +kernel)) (pda_nil)) (by decide)) (pd_var 0 rfl (by decide +kernel)) rfl)) (pda_nil)) (by decide)))))
/-! ### check_blocks -/
abbrev N_check_blocks : List Str := ["base", "named", "known", "name", "start", "blocks", "others", "line", "formula", "coefficient", "other"]
def b_check_blocks_0 : DS := sSeq (sSetLc 6 (dLcN (iLst (dVar 5)) (.nm 7) (dYes) [7, 8, 9, 10] (nextD (iLst (dVar 7)) (.nm 8) (dYes) [8, 9, 10] (nextD (iLst (dVar 8)) (.tp [9, 10]) (dYes) [9, 10] (emitD (dVar 10)))))) (sIf (dOr (dNot (dTru (dCallF 2 sp_is_square (dCons (dVar 0) (dCons (dVar 5) (dNil)))))) (dNot (dTru (dCall rAllD (dCons (dLc (iLst (dVar 6)) (.nm 10) (dYes) (dOp rInD (dVar 10) (dVar 2)) [10]) (dNil)))))) (sNever) (sNext))
def t_check_blocks : DS := sSeq (sAsg (dLc (iLst (dVar 1)) (.tp [3, 4, 5]) (dYes) (dVar 3) [3, 4, 5]) (.nm 2)) (sFor (iLst (dVar 1)) (.tp [3, 4, 5]) (b_check_blocks_0))
theorem sc_check_blocks : FnScope N_check_blocks ["base", "named"] (defScope s_check_blocks) := ⟨rfl, rfl, rfl, by decide +kernel, rfl, by decide +kernel, by decide +kernel⟩
theorem pds_check_blocks {G : Gx} {f_is_square : Addr} (d_is_square : Def G 1 f_is_square ["base", "blocks"] sp_is_square) (m_is_square : G.mg "is_square" = some (.ref f_is_square)) (m_all : G.mg "all" = none) : PDs G 1 N_check_blocks ⟨defScope s_check_blocks, fun _ => true⟩ (defBody s_check_blocks) t_check_blocks :=
  pdss_cons (psd_asg (pd_lc [("name", 3), ("start", 4), ("blocks", 5)] (by decide +kernel) (by decide) (pdi_lst (pd_var 1 rfl (by decide +kernel))) (pgd_tup (pgsd_cons 3 rfl (by decide +kernel) (pgsd_cons 4 rfl (by decide +kernel) (pgsd_cons 5 rfl (by decide +kernel) (pgsd_nil))))) (pdts_nil) (pd_var 3 rfl (by decide +kernel))) (pgd_nm 2 rfl (by decide +kernel))) (pdss_one (psd_for (pdi_lst (pd_var 1 rfl (by decide +kernel))) (pgd_tup (pgsd_cons 3 rfl (by decide +kernel) (pgsd_cons 4 rfl (by decide +kernel) (pgsd_cons 5 rfl (by decide +kernel) (pgsd_nil))))) (pdss_cons (psd_setLcN 6 [("line", 7), ("formula", 8), ("coefficient", 9), ("other", 10)] rfl (by decide +kernel) rfl rfl (by decide +kernel) turn30 (by decide +kernel) (by decide) (by decide) (pdi_lst (pd_var 5 rfl (by decide +kernel))) (pgd_nm 7 rfl (by decide +kernel)) (pdts_nil) (pdb_next [8, 9, 10] rfl turn31 (by decide) (by decide) (pdi_lst (pd_var 7 rfl (by decide +kernel))) (pgd_nm 8 rfl (by decide +kernel)) (pdts_nil) (pdb_next [9, 10] rfl turn32 (by decide) (by decide) (pdi_lst (pd_var 8 rfl (by decide +kernel))) (pgd_tup (pgsd_cons 9 rfl (by decide +kernel) (pgsd_cons 10 rfl (by decide +kernel) (pgsd_nil)))) (pdts_nil) (pdb_emit (pd_var 10 rfl (by decide +kernel)))))) (pdss_one (psd_if (PDW.pt (pwd_or (pt_notD (pt_truD (fun _ _ => rfl) (pd_call d_is_square (by decide) m_is_square (by decide +kernel) (pda_cons (pd_var 0 rfl (by decide +kernel)) (pda_cons (pd_var 5 rfl (by decide +kernel)) (pda_nil)))))) (pwd_or1 (pt_notD (pt_truD (fun _ _ => rfl) (pd_callB cd_all (by decide +kernel) m_all (by decide +kernel) (pda_cons (pd_lc [("other", 10)] (by decide +kernel) (by decide) (pdi_lst (pd_var 6 rfl (by decide +kernel))) (pgd_nm 10 rfl (by decide +kernel)) (pdts_nil) (pd_cmp od_in (pd_var 10 rfl (by decide +kernel)) (pd_var 2 rfl (by decide +kernel)) rfl)) (pda_nil)) (by decide))))))) (pdss_one (psd_never)) (pdss_nil))))))
/-! ### kept_blocks -/
abbrev N_kept_blocks : List Str := ["blocks", "formula", "line"]
def t_kept_blocks : DS := sRet (dCall rTupD (dCons (dLc (iLst (dVar 0)) (.nm 2) (dYes) (dCall rTupD (dCons (dLc (iLst (dVar 2)) (.nm 1) (dYes) (dCall rTupD (dCons (dVar 1) (dNil))) [1]) (dNil))) [2]) (dNil)))
theorem sc_kept_blocks : FnScope N_kept_blocks ["blocks"] (defScope s_kept_blocks) := ⟨rfl, rfl, rfl, by decide +kernel, rfl, by decide +kernel, by decide +kernel⟩
theorem pds_kept_blocks {G : Gx} (m_tuple : G.mg "tuple" = none) : PDs G 0 N_kept_blocks ⟨defScope s_kept_blocks, fun _ => true⟩ (defBody s_kept_blocks) t_kept_blocks :=
  pdss_one (psd_ret (pd_callTy cd_tuple (by decide +kernel) m_tuple (by decide +kernel) (pda_cons (pd_lc [("line", 2)] (by decide +kernel) (by decide) (pdi_lst (pd_var 0 rfl (by decide +kernel))) (pgd_nm 2 rfl (by decide +kernel)) (pdts_nil) (pd_callTy cd_tuple (by decide +kernel) m_tuple (by decide +kernel) (pda_cons (pd_lc [("formula", 1)] (by decide +kernel) (by decide) (pdi_lst (pd_var 2 rfl (by decide +kernel))) (pgd_nm 1 rfl (by decide +kernel)) (pdts_nil) (pd_callTy cd_tuple (by decide +kernel) m_tuple (by decide +kernel) (pda_cons (pd_var 1 rfl (by decide +kernel)) (pda_nil)) (by decide))) (pda_nil)) (by decide))) (pda_nil)) (by decide)))
/-! ### Book.__init__ -/
abbrev N_Book__init : List Str := ["self", "base", "named", "name", "start", "blocks"]
def t_Book__init : DS := sSeq (sIf (dB (dOp rNotInD (dVar 1) (dC dBASES))) (sNever) (sNext)) (sSeq (sDrop (dCallF 1 sp_check_names (dCons (dVar 2) (dNil)))) (sSeq (sDrop (dCallF 2 sp_check_blocks (dCons (dVar 1) (dCons (dVar 2) (dNil))))) (sSeq (sFldD ["Book", "Shelf", "SmallShelf"] "radix" (dVar 0) (dVar 1)) (sFldD ["Book"] "kept" (dVar 0) (dCall rTupD (dCons (dLc (iLst (dVar 2)) (.tp [3, 4, 5]) (dYes) (dTup (dCons (dVar 3) (dCons (dVar 4) (dCons (dCallF 1 sp_kept_blocks (dCons (dVar 5) (dNil))) (dNil))))) [3, 4, 5]) (dNil)))))))
theorem sc_Book__init : FnScope N_Book__init ["self", "base", "named"] (defScope s_Book__init) := ⟨rfl, rfl, rfl, by decide +kernel, rfl, by decide +kernel, by decide +kernel⟩
theorem pds_Book__init {G : Gx} {f_check_names f_check_blocks f_kept_blocks : Addr} (g_BASES : GlobD G "BASES" dBASES) (d_check_names : Def G 2 f_check_names ["named"] sp_check_names) (m_check_names : G.mg "check_names" = some (.ref f_check_names)) (d_check_blocks : Def G 2 f_check_blocks ["base", "named"] sp_check_blocks) (m_check_blocks : G.mg "check_blocks" = some (.ref f_check_blocks)) (c_radix : ClsFld G ["Book", "Shelf", "SmallShelf"] "radix") (m_tuple : G.mg "tuple" = none) (d_kept_blocks : Def G 1 f_kept_blocks ["blocks"] sp_kept_blocks) (m_kept_blocks : G.mg "kept_blocks" = some (.ref f_kept_blocks)) (c_kept : ClsFld G ["Book"] "kept") : PDs G 2 N_Book__init ⟨defScope s_Book__init, fun _ => true⟩ (defBody s_Book__init) t_Book__init :=
  pdss_cons (psd_if (pt_cmpD od_notIn (pd_var 1 rfl (by decide +kernel)) (pd_globD g_BASES (by decide +kernel)) rfl) (pdss_one (psd_never)) (pdss_nil)) (pdss_cons (psd_expr (pd_call d_check_names (by decide) m_check_names (by decide +kernel) (pda_cons (pd_var 2 rfl (by decide +kernel)) (pda_nil)))) (pdss_cons (psd_expr (pd_call d_check_blocks (by decide) m_check_blocks (by decide +kernel) (pda_cons (pd_var 1 rfl (by decide +kernel)) (pda_cons (pd_var 2 rfl (by decide +kernel)) (pda_nil))))) (pdss_cons (psd_fld c_radix (pd_var 0 rfl (by decide +kernel)) (pd_var 1 rfl (by decide +kernel))) (pdss_one (psd_fld c_kept (pd_var 0 rfl (by decide +kernel)) (pd_callTy cd_tuple (by decide +kernel) m_tuple (by decide +kernel) (pda_cons (pd_lc [("name", 3), ("start", 4), ("blocks", 5)] (by decide +kernel) (by decide) (pdi_lst (pd_var 2 rfl (by decide +kernel))) (pgd_tup (pgsd_cons 3 rfl (by decide +kernel) (pgsd_cons 4 rfl (by decide +kernel) (pgsd_cons 5 rfl (by decide +kernel) (pgsd_nil))))) (pdts_nil) (pd_tup (pda_cons (pd_var 3 rfl (by decide +kernel)) (pda_cons (pd_var 4 rfl (by decide +kernel)) (pda_cons (pd_call d_kept_blocks (by decide) m_kept_blocks (by decide +kernel) (pda_cons (pd_var 5 rfl (by decide +kernel)) (pda_nil))) (pda_nil)))))) (pda_nil)) (by decide)))))))
/-! ### Book.__eq__ -/
abbrev N_Book__eq : List Str := ["self", "other"]
def t_Book__eq (G : Gx) : DS := sRet (dAndV (dCall (rIsiD tyCs tySub "Book" (G.ca "Book")) (dCons (dVar 1) (dCons (dC (.cell (G.ca "Book"))) dNil))) (dAndV (dOp rEqualD (dFld ["Book", "Shelf", "SmallShelf"] "radix" (dVar 0)) (dFld ["Book", "Shelf", "SmallShelf"] "radix" (dVar 1))) (dOp (rEqX ob0 20) (dFld ["Book"] "kept" (dVar 0)) (dFld ["Book"] "kept" (dVar 1)))))
theorem sc_Book__eq : FnScope N_Book__eq ["self", "other"] (defScope s_Book__eq) := ⟨rfl, rfl, rfl, by decide +kernel, rfl, by decide +kernel, by decide +kernel⟩
theorem pds_Book__eq {G : Gx} (ty : Tys G tyCs tySub) (m_isinstance : G.mg "isinstance" = none) (kc_Book : G.mg "Book" = some (.ref (G.ca "Book"))) (c_radix : ClsFld G ["Book", "Shelf", "SmallShelf"] "radix") (c_kept : ClsFld G ["Book"] "kept") : PDs G 20 N_Book__eq ⟨defScope s_Book__eq, fun _ => true⟩ (defBody s_Book__eq) (t_Book__eq G) :=
  pdss_one (psd_ret (pd_and (pd_callB (cd_isi ty (by decide)) (by decide +kernel) m_isinstance (by decide +kernel) (pda_cons (pd_var 1 rfl (by decide +kernel)) (pda_cons (pd_cls (by decide +kernel) kc_Book) pda_nil)) (by decide)) (pd_and (pd_cmp od_eq (pd_fld c_radix (pd_var 0 rfl (by decide +kernel))) (pd_fld c_radix (pd_var 1 rfl (by decide +kernel))) rfl) (pd_one (pd_cmp (od_eqX ob0_ok) (pd_fld c_kept (pd_var 0 rfl (by decide +kernel))) (pd_fld c_kept (pd_var 1 rfl (by decide +kernel))) rfl)))))
/-! ### Book.base -/
abbrev N_Book_base : List Str := ["self"]
def t_Book_base : DS := sRet (dFld ["Book", "Shelf", "SmallShelf"] "radix" (dVar 0))
theorem sc_Book_base : FnScope N_Book_base ["self"] (defScope s_Book_base) := ⟨rfl, rfl, rfl, by decide +kernel, rfl, by decide +kernel, by decide +kernel⟩
theorem pds_Book_base {G : Gx} (c_radix : ClsFld G ["Book", "Shelf", "SmallShelf"] "radix") : PDs G 0 N_Book_base ⟨defScope s_Book_base, fun _ => true⟩ (defBody s_Book_base) t_Book_base :=
  pdss_one (psd_ret (pd_fld c_radix (pd_var 0 rfl (by decide +kernel))))
/-! ### Book.names -/
abbrev N_Book_names : List Str := ["self", "name", "start", "blocks"]
def t_Book_names : DS := sRet (dLc (iTupD (dFld ["Book"] "kept" (dVar 0))) (.tp [1, 2, 3]) (dYes) (dVar 1) [1, 2, 3])
theorem sc_Book_names : FnScope N_Book_names ["self"] (defScope s_Book_names) := ⟨rfl, rfl, rfl, by decide +kernel, rfl, by decide +kernel, by decide +kernel⟩
theorem pds_Book_names {G : Gx} (c_kept : ClsFld G ["Book"] "kept") : PDs G 0 N_Book_names ⟨defScope s_Book_names, fun _ => true⟩ (defBody s_Book_names) t_Book_names :=
  pdss_one (psd_ret (pd_lc [("name", 1), ("start", 2), ("blocks", 3)] (by decide +kernel) (by decide) (pdi_tup (pd_fld c_kept (pd_var 0 rfl (by decide +kernel)))) (pgd_tup (pgsd_cons 1 rfl (by decide +kernel) (pgsd_cons 2 rfl (by decide +kernel) (pgsd_cons 3 rfl (by decide +kernel) (pgsd_nil))))) (pdts_nil) (pd_var 1 rfl (by decide +kernel))))
/-! ### starts_of -/
abbrev N_starts_of : List Str := ["book", "name", "start", "blocks"]
def t_starts_of : DS := sRet (dLc (iTupD (dFld ["Book"] "kept" (dVar 0))) (.tp [1, 2, 3]) (dYes) (dVar 2) [1, 2, 3])
theorem sc_starts_of : FnScope N_starts_of ["book"] (defScope s_starts_of) := ⟨rfl, rfl, rfl, by decide +kernel, rfl, by decide +kernel, by decide +kernel⟩
theorem pds_starts_of {G : Gx} (c_kept : ClsFld G ["Book"] "kept") : PDs G 0 N_starts_of ⟨defScope s_starts_of, fun _ => true⟩ (defBody s_starts_of) t_starts_of :=
  pdss_one (psd_ret (pd_lc [("name", 1), ("start", 2), ("blocks", 3)] (by decide +kernel) (by decide) (pdi_tup (pd_fld c_kept (pd_var 0 rfl (by decide +kernel)))) (pgd_tup (pgsd_cons 1 rfl (by decide +kernel) (pgsd_cons 2 rfl (by decide +kernel) (pgsd_cons 3 rfl (by decide +kernel) (pgsd_nil))))) (pdts_nil) (pd_var 2 rfl (by decide +kernel))))
/-! ### matrix_of -/
abbrev N_matrix_of : List Str := ["book", "upper", "left", "names", "found", "name", "start", "blocks", "line", "coefficient", "other"]
def b_matrix_of_0 : DS := sNever
def b_matrix_of_1 : DS := sSeq (sAsg (dOp rRepN (dLst (dCons (dC (.int 0)) (dNil))) (dCall rLenD (dCons (dVar 3) (dNil)))) (.nm 8)) (sSeq (sFor (iTupD (dOp (rF ixF) (dOp (rF ixF) (dVar 7) (dVar 1)) (dVar 2))) (.tp [9, 10]) (b_matrix_of_0)) (sDrop (dMt rAppD (dVar 4) (dCons (dFrz 8) (dNil)))))
def t_matrix_of : DS := sSeq (sPar [3, 4] (dCons (dProp "Book" 1 sp_Book_names (dVar 0)) (dCons (dNew (dNil)) (dNil)))) (sSeq (sFor (iTupD (dFld ["Book"] "kept" (dVar 0))) (.tp [5, 6, 7]) (b_matrix_of_1)) (sRet (dFrz 4)))
theorem sc_matrix_of : FnScope N_matrix_of ["book", "upper", "left"] (defScope s_matrix_of) := ⟨rfl, rfl, rfl, by decide +kernel, rfl, by decide +kernel, by decide +kernel⟩
theorem pds_matrix_of {G : Gx} {f_Book_names : Addr} (d_Book_names : Def G 1 f_Book_names ["self"] sp_Book_names) (p_Book_names : PropOk G "Book" "names" f_Book_names) (c_kept : ClsFld G ["Book"] "kept") (m_len : G.mg "len" = none) : PDs G 2 N_matrix_of ⟨defScope s_matrix_of, fun _ => true⟩ (defBody s_matrix_of) t_matrix_of :=
  pdss_cons (psd_par rfl rfl (by decide) (by decide +kernel) (by decide +kernel) (pda_cons (pd_prop d_Book_names (by decide) p_Book_names (pd_var 0 rfl (by decide +kernel))) (pda_cons (pd_new (pda_nil)) (pda_nil)))) (pdss_cons (psd_for (pdi_tup (pd_fld c_kept (pd_var 0 rfl (by decide +kernel)))) (pgd_tup (pgsd_cons 5 rfl (by decide +kernel) (pgsd_cons 6 rfl (by decide +kernel) (pgsd_cons 7 rfl (by decide +kernel) (pgsd_nil))))) (pdss_cons (psd_asg (pd_op od_repN (pd_lst (pda_cons (pd_int) (pda_nil))) (pd_callB cd_len (by decide +kernel) m_len (by decide +kernel) (pda_cons (pd_var 3 rfl (by decide +kernel)) (pda_nil)) (by decide))) (pgd_nm 8 rfl (by decide +kernel))) (pdss_cons (psd_for (pdi_tup (pd_ix (pd_ix (pd_var 7 rfl (by decide +kernel)) (pd_var 1 rfl (by decide +kernel)) (fun _ _ => rfl)) (pd_var 2 rfl (by decide +kernel)) (fun _ _ => rfl))) (pgd_tup (pgsd_cons 9 rfl (by decide +kernel) (pgsd_cons 10 rfl (by decide +kernel) (pgsd_nil)))) (pdss_one (psd_never))) (pdss_one (psd_expr (pd_mt PySem.F.plainAttrs_list PySem.F.slot_list_append PySem.F.type_list_append md_append (pd_var 4 rfl (by decide +kernel)) (pda_cons (pd_frz 8 rfl (by decide +kernel)) (pda_nil)))))))) (pdss_one (psd_ret (pd_frz 4 rfl (by decide +kernel)))))
/-! ### common_divisor -/
abbrev N_common_divisor : List Str := ["numbers", "found", "number", "one", "other"]
def b_common_divisor_0 : DS := sSeq (sPar [3, 4] (dCons (dCall rAbsD (dCons (dVar 2) (dNil))) (dCons (dVar 1) (dNil)))) (sSeq (sNever) (sAsg (dVar 3) (.nm 1)))
def t_common_divisor : DS := sSeq (sAsg (dC (.int 0)) (.nm 1)) (sSeq (sFor (iLst (dVar 0)) (.nm 2) (b_common_divisor_0)) (sRet (dVar 1)))
theorem sc_common_divisor : FnScope N_common_divisor ["numbers"] (defScope s_common_divisor) := ⟨rfl, rfl, rfl, by decide +kernel, rfl, by decide +kernel, by decide +kernel⟩
theorem pds_common_divisor {G : Gx} (m_abs : G.mg "abs" = none) : PDs G 0 N_common_divisor ⟨defScope s_common_divisor, fun _ => true⟩ (defBody s_common_divisor) t_common_divisor :=
  pdss_cons (psd_asg (pd_int) (pgd_nm 1 rfl (by decide +kernel))) (pdss_cons (psd_for (pdi_lst (pd_var 0 rfl (by decide +kernel))) (pgd_nm 2 rfl (by decide +kernel)) (pdss_cons (psd_par rfl rfl (by decide) (by decide +kernel) (by decide +kernel) (pda_cons (pd_callB cd_abs (by decide +kernel) m_abs (by decide +kernel) (pda_cons (pd_var 2 rfl (by decide +kernel)) (pda_nil)) (by decide)) (pda_cons (pd_var 1 rfl (by decide +kernel)) (pda_nil)))) (pdss_cons (psd_never) (pdss_one (psd_asg (pd_var 3 rfl (by decide +kernel)) (pgd_nm 1 rfl (by decide +kernel))))))) (pdss_one (psd_ret (pd_var 1 rfl (by decide +kernel)))))
/-! ### in_steps -/
abbrev N_in_steps : List Str := ["rows", "found", "spot", "lead", "number", "row"]
def b_in_steps_0 : DS := sSeq (sAsg (dNever) (.nm 0)) (sNever)
def t_in_steps : DS := sSeq (sAsg (dNew (dNil)) (.nm 1)) (sSeq (sFor (iRngD1 (dCons (dIf (dB (dOp rDiffD (dVar 0) (dLst (dNil)))) (dCall rLenD (dCons (dOp (rF ixF) (dVar 0) (dC (.int 0))) (dNil))) (dC (.int 0))) (dNil))) (.nm 2) (b_in_steps_0)) (sRet (dFrz 1)))
theorem sc_in_steps : FnScope N_in_steps ["rows"] (defScope s_in_steps) := ⟨rfl, rfl, rfl, by decide +kernel, rfl, by decide +kernel, by decide +kernel⟩
theorem pds_in_steps {G : Gx} (m_range : G.mg "range" = none) (m_len : G.mg "len" = none) : PDs G 2 N_in_steps ⟨defScope s_in_steps, fun _ => true⟩ (defBody s_in_steps) t_in_steps :=
  pdss_cons (psd_asg (pd_new (pda_nil)) (pgd_nm 1 rfl (by decide +kernel))) (pdss_cons (psd_for (pdi_rng1 (by decide +kernel) m_range (pda_cons (pd_ifExp (pt_cmpD od_ne (pd_var 0 rfl (by decide +kernel)) (pd_lst (pda_nil)) rfl) (pd_callB cd_len (by decide +kernel) m_len (by decide +kernel) (pda_cons (pd_ix (pd_var 0 rfl (by decide +kernel)) (pd_int) (fun _ _ => rfl)) (pda_nil)) (by decide)) (pd_int)) (pda_nil))) (pgd_nm 2 rfl (by decide +kernel)) (pdss_cons (psd_asg (pd_never) (pgd_nm 0 rfl (by decide +kernel))) (pdss_one (psd_never)))) (pdss_one (psd_ret (pd_frz 1 rfl (by decide +kernel)))))
/-! ### shares_of -/
abbrev N_shares_of : List Str := ["basis", "vector", "found", "row", "spot", "often"]
def b_shares_of_0 : DS := sSeq (sAsg (dNever) (.nm 4)) (sSeq (sAsg (dOp rFdivD (dOp (rF ixF) (dVar 1) (dVar 4)) (dOp (rF ixF) (dVar 3) (dVar 4))) (.nm 5)) (sSeq (sAsg (dNever) (.nm 1)) (sDrop (dMt rAppD (dVar 2) (dCons (dVar 5) (dNil))))))
def t_shares_of : DS := sSeq (sAsg (dNew (dNil)) (.nm 2)) (sSeq (sFor (iLst (dVar 0)) (.nm 3) (b_shares_of_0)) (sRet (dIf (dTru (dCall rAnyD (dCons (dVar 1) (dNil)))) (dC .non) (dFrz 2))))
theorem sc_shares_of : FnScope N_shares_of ["basis", "vector"] (defScope s_shares_of) := ⟨rfl, rfl, rfl, by decide +kernel, rfl, by decide +kernel, by decide +kernel⟩
theorem pds_shares_of {G : Gx} (m_any : G.mg "any" = none) : PDs G 1 N_shares_of ⟨defScope s_shares_of, fun _ => true⟩ (defBody s_shares_of) t_shares_of :=
  pdss_cons (psd_asg (pd_new (pda_nil)) (pgd_nm 2 rfl (by decide +kernel))) (pdss_cons (psd_for (pdi_lst (pd_var 0 rfl (by decide +kernel))) (pgd_nm 3 rfl (by decide +kernel)) (pdss_cons (psd_asg (pd_never) (pgd_nm 4 rfl (by decide +kernel))) (pdss_cons (psd_asg (pd_op od_fdiv (pd_ix (pd_var 1 rfl (by decide +kernel)) (pd_var 4 rfl (by decide +kernel)) (fun _ _ => rfl)) (pd_ix (pd_var 3 rfl (by decide +kernel)) (pd_var 4 rfl (by decide +kernel)) (fun _ _ => rfl))) (pgd_nm 5 rfl (by decide +kernel))) (pdss_cons (psd_asg (pd_never) (pgd_nm 1 rfl (by decide +kernel))) (pdss_one (psd_expr (pd_mt PySem.F.plainAttrs_list PySem.F.slot_list_append PySem.F.type_list_append md_append (pd_var 2 rfl (by decide +kernel)) (pda_cons (pd_var 5 rfl (by decide +kernel)) (pda_nil))))))))) (pdss_one (psd_ret (pd_ifExp (pt_truD (fun _ _ => rfl) (pd_callB cd_any (by decide +kernel) m_any (by decide +kernel) (pda_cons (pd_var 1 rfl (by decide +kernel)) (pda_nil)) (by decide))) (pd_non) (pd_frz 2 rfl (by decide +kernel))))))
/-! ### Span.__init__ -/
abbrev N_Span__init : List Str := ["self"]
def t_Span__init : DS := sFldD ["Span"] "lines" (dVar 0) (dLst (dNil))
theorem sc_Span__init : FnScope N_Span__init ["self"] (defScope s_Span__init) := ⟨rfl, rfl, rfl, by decide +kernel, rfl, by decide +kernel, by decide +kernel⟩
theorem pds_Span__init {G : Gx} (c_lines : ClsFld G ["Span"] "lines") : PDs G 0 N_Span__init ⟨defScope s_Span__init, fun _ => true⟩ (defBody s_Span__init) t_Span__init :=
  pdss_one (psd_fld c_lines (pd_var 0 rfl (by decide +kernel)) (pd_lst (pda_nil)))
/-! ### Span.rest -/
abbrev N_Span_rest : List Str := ["self", "vector", "spot", "row", "number", "divisor"]
def b_Span_rest_0 : DS := sIf (dB (dOp rDiffD (dOp (rF ixF) (dVar 1) (dVar 2)) (dC (.int 0)))) (sAsg (dNever) (.nm 1)) (sNext)
def t_Span_rest : DS := sSeq (sFor (iLst (dFld ["Span"] "lines" (dVar 0))) (.tp [2, 3]) (b_Span_rest_0)) (sSeq (sAsg (dCallF 1 sp_common_divisor (dCons (dVar 1) (dNil))) (.nm 5)) (sRet (dIf (dB (dOp rGtD (dVar 5) (dC (.int 1)))) (dLc (iLst (dVar 1)) (.nm 4) (dYes) (dOp rFdivD (dVar 4) (dVar 5)) [4]) (dCall rListD (dCons (dVar 1) (dNil))))))
theorem sc_Span_rest : FnScope N_Span_rest ["self", "vector"] (defScope s_Span_rest) := ⟨rfl, rfl, rfl, by decide +kernel, rfl, by decide +kernel, by decide +kernel⟩
theorem pds_Span_rest {G : Gx} {f_common_divisor : Addr} (c_lines : ClsFld G ["Span"] "lines") (d_common_divisor : Def G 1 f_common_divisor ["numbers"] sp_common_divisor) (m_common_divisor : G.mg "common_divisor" = some (.ref f_common_divisor)) (m_list : G.mg "list" = none) : PDs G 1 N_Span_rest ⟨defScope s_Span_rest, fun _ => true⟩ (defBody s_Span_rest) t_Span_rest :=
  pdss_cons (psd_for (pdi_lst (pd_fld c_lines (pd_var 0 rfl (by decide +kernel)))) (pgd_tup (pgsd_cons 2 rfl (by decide +kernel) (pgsd_cons 3 rfl (by decide +kernel) (pgsd_nil)))) (pdss_one (psd_if (pt_cmpD od_ne (pd_ix (pd_var 1 rfl (by decide +kernel)) (pd_var 2 rfl (by decide +kernel)) (fun _ _ => rfl)) (pd_int) rfl) (pdss_one (psd_asg (pd_never) (pgd_nm 1 rfl (by decide +kernel)))) (pdss_nil)))) (pdss_cons (psd_asg (pd_call d_common_divisor (by decide) m_common_divisor (by decide +kernel) (pda_cons (pd_var 1 rfl (by decide +kernel)) (pda_nil))) (pgd_nm 5 rfl (by decide +kernel))) (pdss_one (psd_ret (pd_ifExp (pt_cmpD od_gt (pd_var 5 rfl (by decide +kernel)) (pd_int) rfl) (pd_lc [("number", 4)] (by decide +kernel) (by decide) (pdi_lst (pd_var 1 rfl (by decide +kernel))) (pgd_nm 4 rfl (by decide +kernel)) (pdts_nil) (pd_op od_fdiv (pd_var 4 rfl (by decide +kernel)) (pd_var 5 rfl (by decide +kernel)))) (pd_callTy cd_list (by decide +kernel) m_list (by decide +kernel) (pda_cons (pd_var 1 rfl (by decide +kernel)) (pda_nil)) (by decide))))))
/-! ### Span.take -/
abbrev N_Span_take : List Str := ["self", "vector", "left"]
def t_Span_take : DS := sSeq (sAsg (dMeth "Span" "rest" 2 sp_Span_rest (dVar 0) (dCons (dVar 1) (dNil))) (.nm 2)) (sSeq (sIf (dNot (dTru (dCall rAnyD (dCons (dVar 2) (dNil))))) (sRet (dC (.bl false))) (sNext)) (sSeq (sDrop (dMt rAppD (dFld ["Span"] "lines" (dVar 0)) (dCons (dTup (dCons (dNever) (dCons (dVar 2) (dNil)))) (dNil)))) (sRet (dC (.bl true)))))
theorem sc_Span_take : FnScope N_Span_take ["self", "vector"] (defScope s_Span_take) := ⟨rfl, rfl, rfl, by decide +kernel, rfl, by decide +kernel, by decide +kernel⟩
theorem pds_Span_take {G : Gx} {f_Span_rest : Addr} (d_Span_rest : Def G 2 f_Span_rest ["self", "vector"] sp_Span_rest) (o_Span_rest : MethOk G "Span" "rest" f_Span_rest) (m_any : G.mg "any" = none) (c_lines : ClsFld G ["Span"] "lines") : PDs G 2 N_Span_take ⟨defScope s_Span_take, fun _ => true⟩ (defBody s_Span_take) t_Span_take :=
  pdss_cons (psd_asg (pd_meth d_Span_rest (by decide) o_Span_rest (pd_var 0 rfl (by decide +kernel)) (pda_cons (pd_var 1 rfl (by decide +kernel)) (pda_nil)) (fun _ => ⟨_, rfl⟩)) (pgd_nm 2 rfl (by decide +kernel))) (pdss_cons (psd_if (pt_notD (pt_truD (fun _ _ => rfl) (pd_callB cd_any (by decide +kernel) m_any (by decide +kernel) (pda_cons (pd_var 2 rfl (by decide +kernel)) (pda_nil)) (by decide)))) (pdss_one (psd_ret (pd_bl))) (pdss_nil)) (pdss_cons (psd_expr (pd_mt PySem.F.plainAttrs_list PySem.F.slot_list_append PySem.F.type_list_append md_append (pd_fld c_lines (pd_var 0 rfl (by decide +kernel))) (pda_cons (pd_tup (pda_cons (pd_never) (pda_cons (pd_var 2 rfl (by decide +kernel)) (pda_nil)))) (pda_nil)))) (pdss_one (psd_ret (pd_bl)))))
/-! ### System.__init__ -/
abbrev N_System__init : List Str := ["self", "starts", "matrices", "factors"]
def t_System__init : DS := sSeq (sFldD ["System"] "starts" (dVar 0) (dVar 1)) (sSeq (sFldD ["System"] "matrices" (dVar 0) (dVar 2)) (sFldD ["System"] "factors" (dVar 0) (dVar 3)))
theorem sc_System__init : FnScope N_System__init ["self", "starts", "matrices", "factors"] (defScope s_System__init) := ⟨rfl, rfl, rfl, by decide +kernel, rfl, by decide +kernel, by decide +kernel⟩
theorem pds_System__init {G : Gx} (c_starts : ClsFld G ["System"] "starts") (c_matrices : ClsFld G ["System"] "matrices") (c_factors : ClsFld G ["System"] "factors") : PDs G 0 N_System__init ⟨defScope s_System__init, fun _ => true⟩ (defBody s_System__init) t_System__init :=
  pdss_cons (psd_fld c_starts (pd_var 0 rfl (by decide +kernel)) (pd_var 1 rfl (by decide +kernel))) (pdss_cons (psd_fld c_matrices (pd_var 0 rfl (by decide +kernel)) (pd_var 2 rfl (by decide +kernel))) (pdss_one (psd_fld c_factors (pd_var 0 rfl (by decide +kernel)) (pd_var 3 rfl (by decide +kernel)))))
/-! ### System.block_count -/
abbrev N_System_block_count : List Str := ["self"]
def t_System_block_count : DS := sRet (dCall rLenD (dCons (dFld ["System"] "matrices" (dVar 0)) (dNil)))
theorem sc_System_block_count : FnScope N_System_block_count ["self"] (defScope s_System_block_count) := ⟨rfl, rfl, rfl, by decide +kernel, rfl, by decide +kernel, by decide +kernel⟩
theorem pds_System_block_count {G : Gx} (m_len : G.mg "len" = none) (c_matrices : ClsFld G ["System"] "matrices") : PDs G 0 N_System_block_count ⟨defScope s_System_block_count, fun _ => true⟩ (defBody s_System_block_count) t_System_block_count :=
  pdss_one (psd_ret (pd_callB cd_len (by decide +kernel) m_len (by decide +kernel) (pda_cons (pd_fld c_matrices (pd_var 0 rfl (by decide +kernel))) (pda_nil)) (by decide)))
/-! ### system_of -/
abbrev N_system_of : List Str := ["table", "book", "matrices", "left", "upper"]
def t_system_of : DS := sSeq (sAsg (dProp "Table" 1 sp_Table_book (dVar 0)) (.nm 1)) (sSeq (sSetLc 2 (dLc (iRngD1 (dCons (dProp "Book" 1 sp_Book_base (dVar 1)) (dNil))) (.nm 4) (dYes) (dLc (iRngD1 (dCons (dProp "Book" 1 sp_Book_base (dVar 1)) (dNil))) (.nm 3) (dYes) (dCallF 3 sp_matrix_of (dCons (dVar 1) (dCons (dVar 4) (dCons (dVar 3) (dNil))))) [3]) [4])) (sRet (dMake "System" 4 sp_System__init (dCons (dCallF 1 sp_starts_of (dCons (dVar 1) (dNil))) (dCons (dVar 2) (dCons (dProp "Table" 1 sp_Table_shares (dVar 0)) (dNil)))))))
theorem sc_system_of : FnScope N_system_of ["table"] (defScope s_system_of) := ⟨rfl, rfl, rfl, by decide +kernel, rfl, by decide +kernel, by decide +kernel⟩
theorem pds_system_of {G : Gx} {f_Table_book f_Book_base f_matrix_of f_System__init f_Table_shares f_starts_of : Addr} (d_Table_book : Def G 1 f_Table_book ["self"] sp_Table_book) (p_Table_book : PropOk G "Table" "book" f_Table_book) (m_range : G.mg "range" = none) (d_Book_base : Def G 1 f_Book_base ["self"] sp_Book_base) (p_Book_base : PropOk G "Book" "base" f_Book_base) (d_matrix_of : Def G 3 f_matrix_of ["book", "upper", "left"] sp_matrix_of) (m_matrix_of : G.mg "matrix_of" = some (.ref f_matrix_of)) (d_System__init : Def G 1 f_System__init ["self", "starts", "matrices", "factors"] sp_System__init) (k_System : MakeOk G "System" f_System__init) (d_Table_shares : Def G 1 f_Table_shares ["self"] sp_Table_shares) (p_Table_shares : PropOk G "Table" "shares" f_Table_shares) (d_starts_of : Def G 1 f_starts_of ["book"] sp_starts_of) (m_starts_of : G.mg "starts_of" = some (.ref f_starts_of)) : PDs G 3 N_system_of ⟨defScope s_system_of, fun _ => true⟩ (defBody s_system_of) t_system_of :=
  pdss_cons (psd_asg (pd_prop d_Table_book (by decide) p_Table_book (pd_var 0 rfl (by decide +kernel))) (pgd_nm 1 rfl (by decide +kernel))) (pdss_cons (psd_setLc 2 [("upper", 4)] rfl (by decide +kernel) rfl rfl (by decide +kernel)  (by decide +kernel) (by decide) (pdi_rng1 (by decide +kernel) m_range (pda_cons (pd_prop d_Book_base (by decide) p_Book_base (pd_var 1 rfl (by decide +kernel))) (pda_nil))) (pgd_nm 4 rfl (by decide +kernel)) (pdts_nil) (pd_lc [("left", 3)] (by decide +kernel) (by decide) (pdi_rng1 (by decide +kernel) m_range (pda_cons (pd_prop d_Book_base (by decide) p_Book_base (pd_var 1 rfl (by decide +kernel))) (pda_nil))) (pgd_nm 3 rfl (by decide +kernel)) (pdts_nil) (pd_call d_matrix_of (by decide) m_matrix_of (by decide +kernel) (pda_cons (pd_var 1 rfl (by decide +kernel)) (pda_cons (pd_var 4 rfl (by decide +kernel)) (pda_cons (pd_var 3 rfl (by decide +kernel)) (pda_nil))))))) (pdss_one (psd_ret (pd_make d_System__init (by decide) k_System (by decide +kernel) (pda_cons (pd_call d_starts_of (by decide) m_starts_of (by decide +kernel) (pda_cons (pd_var 1 rfl (by decide +kernel)) (pda_nil))) (pda_cons (pd_var 2 rfl (by decide +kernel)) (pda_cons (pd_prop d_Table_shares (by decide) p_Table_shares (pd_var 0 rfl (by decide +kernel))) (pda_nil))))))))
/-! ### kept_places -/
abbrev N_kept_places : List Str := ["system", "rows", "span", "found", "waiting", "later", "place", "column", "row"]
def b_kept_places_0 : DS := sIf (dTru (dMeth "Span" "take" 2 sp_Span_take (dVar 2) (dCons (dLc (iLst (dVar 1)) (.nm 8) (dYes) (dNever) [8]) (dNil)))) (sSeq (sDrop (dMt rAppD (dVar 3) (dCons (dTup (dCons (dVar 6) (dCons (dVar 7) (dNil)))) (dNil)))) (sDrop (dMt rExtD (dVar 5) (dCons (dNever) (dNil))))) (sNext)
def b_kept_places_1 : DS := sSeq (sAsg (dNew (dNil)) (.nm 5)) (sSeq (sFor (iLst (dCall rSort1D (dCons (dVar 4) (dNil)))) (.tp [6, 7]) (b_kept_places_0)) (sAsg (dFrz 5) (.nm 4)))
def t_kept_places : DS := sSeq (sPar [2, 3, 4] (dCons (dMakeC "Span" 1 sp_Span__init dNil) (dCons (dNew (dNil)) (dCons (dLst (dCons (dTup (dCons (dTup (dCons (dC (.int 0)) (dCons (dC (.int 0)) (dCons (dC (.int 0)) (dNil))))) (dCons (dFld ["System"] "starts" (dVar 0)) (dNil)))) (dNil))) (dNil))))) (sSeq (sWhile (dB (dOp rDiffD (dVar 4) (dLst (dNil)))) (b_kept_places_1)) (sRet (dFrz 3)))
theorem sc_kept_places : FnScope N_kept_places ["system", "rows"] (defScope s_kept_places) := ⟨rfl, rfl, rfl, by decide +kernel, rfl, by decide +kernel, by decide +kernel⟩
theorem pds_kept_places {G : Gx} {f_Span__init f_Span_take : Addr} (c_starts : ClsFld G ["System"] "starts") (d_Span__init : Def G 1 f_Span__init ["self"] sp_Span__init) (k_Span : MakeOk G "Span" f_Span__init) (m_sorted : G.mg "sorted" = none) (d_Span_take : Def G 3 f_Span_take ["self", "vector"] sp_Span_take) (o_Span_take : MethOk G "Span" "take" f_Span_take) : PDs G 3 N_kept_places ⟨defScope s_kept_places, fun _ => true⟩ (defBody s_kept_places) t_kept_places :=
  pdss_cons (psd_par3 rfl rfl rfl (by decide) (by decide) (by decide) (by decide +kernel) (by decide +kernel) (by decide +kernel) (pda_cons (pd_makeC0 d_Span__init (by decide) k_Span (by decide +kernel)) (pda_cons (pd_new (pda_nil)) (pda_cons (pd_lst (pda_cons (pd_tup (pda_cons (pd_tup (pda_cons (pd_int) (pda_cons (pd_int) (pda_cons (pd_int) (pda_nil))))) (pda_cons (pd_fld c_starts (pd_var 0 rfl (by decide +kernel))) (pda_nil)))) (pda_nil))) (pda_nil))))) (pdss_cons (psd_while (pt_cmpD od_ne (pd_var 4 rfl (by decide +kernel)) (pd_lst (pda_nil)) rfl) (pdss_cons (psd_asg (pd_new (pda_nil)) (pgd_nm 5 rfl (by decide +kernel))) (pdss_cons (psd_for (pdi_lst (pd_callB cd_sorted1 (by decide +kernel) m_sorted (by decide +kernel) (pda_cons (pd_var 4 rfl (by decide +kernel)) (pda_nil)) (by decide))) (pgd_tup (pgsd_cons 6 rfl (by decide +kernel) (pgsd_cons 7 rfl (by decide +kernel) (pgsd_nil)))) (pdss_one (psd_if (pt_truD (fun _ _ => rfl) (pd_meth d_Span_take (by decide) o_Span_take (pd_var 2 rfl (by decide +kernel)) (pda_cons (pd_lc [("row", 8)] (by decide +kernel) (by decide) (pdi_lst (pd_var 1 rfl (by decide +kernel))) (pgd_nm 8 rfl (by decide +kernel)) (pdts_nil) (pd_never)) (pda_nil)) (fun _ => ⟨_, rfl⟩))) (pdss_cons (psd_expr (pd_mt PySem.F.plainAttrs_list PySem.F.slot_list_append PySem.F.type_list_append md_append (pd_var 3 rfl (by decide +kernel)) (pda_cons (pd_tup (pda_cons (pd_var 6 rfl (by decide +kernel)) (pda_cons (pd_var 7 rfl (by decide +kernel)) (pda_nil)))) (pda_nil)))) (pdss_one (psd_expr (pd_mt PySem.F.plainAttrs_list PySem.F.slot_list_extend PySem.F.type_list_extend md_extend (pd_var 5 rfl (by decide +kernel)) (pda_cons (pd_never) (pda_nil)))))) (pdss_nil)))) (pdss_one (psd_asg (pd_frz 5 rfl (by decide +kernel)) (pgd_nm 4 rfl (by decide +kernel))))))) (pdss_one (psd_ret (pd_frz 3 rfl (by decide +kernel)))))
/-! ### Table.__init__ -/
abbrev N_Table__init : List Str := ["self", "book", "shares"]
def t_Table__init : DS := sSeq (sIf (dB (dOp rDiffD (dCall rLenD (dCons (dVar 2) (dNil))) (dCall rLenD (dCons (dProp "Book" 1 sp_Book_names (dVar 1)) (dNil))))) (sNever) (sNext)) (sSeq (sFldD ["Table"] "told_by" (dVar 0) (dVar 1)) (sFldD ["Table"] "parts" (dVar 0) (dCall rTupD (dCons (dVar 2) (dNil)))))
theorem sc_Table__init : FnScope N_Table__init ["self", "book", "shares"] (defScope s_Table__init) := ⟨rfl, rfl, rfl, by decide +kernel, rfl, by decide +kernel, by decide +kernel⟩
theorem pds_Table__init {G : Gx} {f_Book_names : Addr} (m_len : G.mg "len" = none) (d_Book_names : Def G 1 f_Book_names ["self"] sp_Book_names) (p_Book_names : PropOk G "Book" "names" f_Book_names) (c_told_by : ClsFld G ["Table"] "told_by") (m_tuple : G.mg "tuple" = none) (c_parts : ClsFld G ["Table"] "parts") : PDs G 2 N_Table__init ⟨defScope s_Table__init, fun _ => true⟩ (defBody s_Table__init) t_Table__init :=
  pdss_cons (psd_if (pt_cmpD od_ne (pd_callB cd_len (by decide +kernel) m_len (by decide +kernel) (pda_cons (pd_var 2 rfl (by decide +kernel)) (pda_nil)) (by decide)) (pd_callB cd_len (by decide +kernel) m_len (by decide +kernel) (pda_cons (pd_prop d_Book_names (by decide) p_Book_names (pd_var 1 rfl (by decide +kernel))) (pda_nil)) (by decide)) rfl) (pdss_one (psd_never)) (pdss_nil)) (pdss_cons (psd_fld c_told_by (pd_var 0 rfl (by decide +kernel)) (pd_var 1 rfl (by decide +kernel))) (pdss_one (psd_fld c_parts (pd_var 0 rfl (by decide +kernel)) (pd_callTy cd_tuple (by decide +kernel) m_tuple (by decide +kernel) (pda_cons (pd_var 2 rfl (by decide +kernel)) (pda_nil)) (by decide)))))
/-! ### Table.__eq__ -/
abbrev N_Table__eq : List Str := ["self", "other"]
def t_Table__eq (G : Gx) : DS := sRet (dAndV (dCall (rIsiD tyCs tySub "Table" (G.ca "Table")) (dCons (dVar 1) (dCons (dC (.cell (G.ca "Table"))) dNil))) (dAndV (dOp (rEqX obB 30) (dFld ["Table"] "told_by" (dVar 0)) (dFld ["Table"] "told_by" (dVar 1))) (dOp (rEqX ob0 30) (dFld ["Table"] "parts" (dVar 0)) (dFld ["Table"] "parts" (dVar 1)))))
theorem sc_Table__eq : FnScope N_Table__eq ["self", "other"] (defScope s_Table__eq) := ⟨rfl, rfl, rfl, by decide +kernel, rfl, by decide +kernel, by decide +kernel⟩
theorem pds_Table__eq {G : Gx} (ty : Tys G tyCs tySub) (m_isinstance : G.mg "isinstance" = none) (kc_Table : G.mg "Table" = some (.ref (G.ca "Table"))) (obB_ok : ObOk G obB) (c_told_by : ClsFld G ["Table"] "told_by") (c_parts : ClsFld G ["Table"] "parts") : PDs G 30 N_Table__eq ⟨defScope s_Table__eq, fun _ => true⟩ (defBody s_Table__eq) (t_Table__eq G) :=
  pdss_one (psd_ret (pd_and (pd_callB (cd_isi ty (by decide)) (by decide +kernel) m_isinstance (by decide +kernel) (pda_cons (pd_var 1 rfl (by decide +kernel)) (pda_cons (pd_cls (by decide +kernel) kc_Table) pda_nil)) (by decide)) (pd_and (pd_cmp (od_eqX obB_ok) (pd_fld c_told_by (pd_var 0 rfl (by decide +kernel))) (pd_fld c_told_by (pd_var 1 rfl (by decide +kernel))) rfl) (pd_one (pd_cmp (od_eqX ob0_ok) (pd_fld c_parts (pd_var 0 rfl (by decide +kernel))) (pd_fld c_parts (pd_var 1 rfl (by decide +kernel))) rfl)))))
/-! ### Table.book -/
abbrev N_Table_book : List Str := ["self"]
def t_Table_book : DS := sRet (dFld ["Table"] "told_by" (dVar 0))
theorem sc_Table_book : FnScope N_Table_book ["self"] (defScope s_Table_book) := ⟨rfl, rfl, rfl, by decide +kernel, rfl, by decide +kernel, by decide +kernel⟩
theorem pds_Table_book {G : Gx} (c_told_by : ClsFld G ["Table"] "told_by") : PDs G 0 N_Table_book ⟨defScope s_Table_book, fun _ => true⟩ (defBody s_Table_book) t_Table_book :=
  pdss_one (psd_ret (pd_fld c_told_by (pd_var 0 rfl (by decide +kernel))))
/-! ### Table.shares -/
abbrev N_Table_shares : List Str := ["self"]
def t_Table_shares : DS := sRet (dCall rListD (dCons (dFld ["Table"] "parts" (dVar 0)) (dNil)))
theorem sc_Table_shares : FnScope N_Table_shares ["self"] (defScope s_Table_shares) := ⟨rfl, rfl, rfl, by decide +kernel, rfl, by decide +kernel, by decide +kernel⟩
theorem pds_Table_shares {G : Gx} (m_list : G.mg "list" = none) (c_parts : ClsFld G ["Table"] "parts") : PDs G 0 N_Table_shares ⟨defScope s_Table_shares, fun _ => true⟩ (defBody s_Table_shares) t_Table_shares :=
  pdss_one (psd_ret (pd_callTy cd_list (by decide +kernel) m_list (by decide +kernel) (pda_cons (pd_fld c_parts (pd_var 0 rfl (by decide +kernel))) (pda_nil)) (by decide)))
/-! ### kin_in -/
abbrev N_kin_in : List Str := ["system", "found", "waiting", "factors", "upper", "left"]
def b_kin_in_0 : DS := sDrop (dMt rAppD (dVar 2) (dCons (dNever) (dNil)))
def b_kin_in_1 : DS := sSeq (sAsg (dMt rPopD (dVar 2) dNil) (.nm 3)) (sIf (dB (dOp rIsND (dCallF 2 sp_shares_of (dCons (dVar 1) (dCons (dVar 3) (dNil)))) (dC .non))) (sSeq (sAsg (dCallF 1 sp_in_steps (dCons (dLst (dStar (dVar 1) (dCons (dVar 3) (dNil)))) (dNil))) (.nm 1)) (sFor (iLst (dNever)) (.tp [4, 5]) (b_kin_in_0))) (sNext))
def t_kin_in : DS := sSeq (sPar [1, 2] (dCons (dLst (dNil)) (dCons (dNew (dCons (dCall rListD (dCons (dFld ["System"] "factors" (dVar 0)) (dNil))) (dNil))) (dNil)))) (sSeq (sWhile (dB (dOp rDiffD (dVar 2) (dLst (dNil)))) (b_kin_in_1)) (sRet (dVar 1)))
theorem sc_kin_in : FnScope N_kin_in ["system"] (defScope s_kin_in) := ⟨rfl, rfl, rfl, by decide +kernel, rfl, by decide +kernel, by decide +kernel⟩
theorem pds_kin_in {G : Gx} {f_shares_of f_in_steps : Addr} (m_list : G.mg "list" = none) (c_factors : ClsFld G ["System"] "factors") (d_shares_of : Def G 2 f_shares_of ["basis", "vector"] sp_shares_of) (m_shares_of : G.mg "shares_of" = some (.ref f_shares_of)) (d_in_steps : Def G 3 f_in_steps ["rows"] sp_in_steps) (m_in_steps : G.mg "in_steps" = some (.ref f_in_steps)) : PDs G 3 N_kin_in ⟨defScope s_kin_in, fun _ => true⟩ (defBody s_kin_in) t_kin_in :=
  pdss_cons (psd_par rfl rfl (by decide) (by decide +kernel) (by decide +kernel) (pda_cons (pd_lst (pda_nil)) (pda_cons (pd_new (pda_cons (pd_callTy cd_list (by decide +kernel) m_list (by decide +kernel) (pda_cons (pd_fld c_factors (pd_var 0 rfl (by decide +kernel))) (pda_nil)) (by decide)) (pda_nil))) (pda_nil)))) (pdss_cons (psd_while (pt_cmpD od_ne (pd_var 2 rfl (by decide +kernel)) (pd_lst (pda_nil)) rfl) (pdss_cons (psd_asg (pd_mt0 PySem.F.plainAttrs_list PySem.F.slot_list_pop PySem.F.type_list_pop md_pop (pd_var 2 rfl (by decide +kernel))) (pgd_nm 3 rfl (by decide +kernel))) (pdss_one (psd_if (pt_cmpD od_isN (pd_call d_shares_of (by decide) m_shares_of (by decide +kernel) (pda_cons (pd_var 1 rfl (by decide +kernel)) (pda_cons (pd_var 3 rfl (by decide +kernel)) (pda_nil)))) (pd_non) rfl) (pdss_cons (psd_asg (pd_call d_in_steps (by decide) m_in_steps (by decide +kernel) (pda_cons (pd_lst (pda_star (pd_var 1 rfl (by decide +kernel)) (pda_cons (pd_var 3 rfl (by decide +kernel)) (pda_nil)))) (pda_nil))) (pgd_nm 1 rfl (by decide +kernel))) (pdss_one (psd_for (pdi_lst (pd_never)) (pgd_tup (pgsd_cons 4 rfl (by decide +kernel) (pgsd_cons 5 rfl (by decide +kernel) (pgsd_nil)))) (pdss_one (psd_expr (pd_mt PySem.F.plainAttrs_list PySem.F.slot_list_append PySem.F.type_list_append md_append (pd_var 2 rfl (by decide +kernel)) (pda_cons (pd_never) (pda_nil)))))))) (pdss_nil))))) (pdss_one (psd_ret (pd_var 1 rfl (by decide +kernel)))))
/-! ### plain_system -/
abbrev N_plain_system : List Str := ["system", "rows", "base", "nodes", "many", "seen", "place", "column", "factors", "basis", "line", "steps", "names", "named", "name", "maker", "blocks", "upper", "parts", "left", "lots", "part", "numbers", "shares"]
def b_plain_system_0 : DS := sSeq (sSetLc 18 (dLc (iRngD1 (dCons (dVar 2) (dNil))) (.nm 19) (dYes) (dNever) [19])) (sSeq (sSetLc 20 (dLc (iLst (dVar 18)) (.nm 21) (dYes) (dLc (iLst (dVar 3)) (.tp [6, 7]) (dYes) (dNever) [6, 7]) [21])) (sDrop (dMt rAppD (dVar 16) (dCons (dLc (iLst (dVar 20)) (.nm 22) (dYes) (dNever) [22]) (dNil)))))
def b_plain_system_1 : DS := sSeq (sAsg (dTup (dCons (dSlice (dVar 10) (dPart (dVar 4)) (dNoPart)) (dCons (dNew (dNil)) (dNil)))) (.tp [15, 16])) (sSeq (sFor (iRngD1 (dCons (dVar 2) (dNil))) (.nm 17) (b_plain_system_0)) (sDrop (dMt rAppD (dVar 13) (dCons (dTup (dCons (dVar 14) (dCons (dNever) (dCons (dFrz 16) (dNil))))) (dNil)))))
def t_plain_system : DS := sSeq (sPar [1, 2] (dCons (dCallF 1 sp_kin_in (dCons (dVar 0) (dNil))) (dCons (dMeth "System" "block_count" 1 sp_System_block_count (dVar 0) dNil) (dNil)))) (sSeq (sAsg (dCallF 2 sp_kept_places (dCons (dVar 0) (dCons (dVar 1) (dNil)))) (.nm 3)) (sSeq (sAsg (dCall rLenD (dCons (dVar 3) (dNil))) (.nm 4)) (sSeq (sSetLc 5 (dLc (iLst (dVar 1)) (.nm 8) (dYes) (dOp rAddD (dLc (iLst (dVar 3)) (.tp [6, 7]) (dYes) (dNever) [6, 7]) (dVar 8)) [8])) (sSeq (sSetLc 9 (dLc (iLst (dCallF 1 sp_in_steps (dCons (dVar 5) (dNil)))) (.nm 10) (dTru (dCall rAnyD (dCons (dSlice (dVar 10) (dNoPart) (dPart (dVar 4))) (dNil)))) (dVar 10) [10])) (sSeq (sAsg (dTup (dCons (dLc (iLst (dVar 9)) (.nm 10) (dYes) (dSlice (dVar 10) (dNoPart) (dPart (dVar 4))) [10]) (dCons (dSlice (dC dLETTERS) (dNoPart) (dPart (dCall rLenD (dCons (dVar 9) (dNil))))) (dCons (dNew (dNil)) (dNil))))) (.tp [11, 12, 13])) (sSeq (sFor (iZtD (dCons (dVar 12) (dCons (dVar 9) (dNil)))) (.tp [14, 10]) (b_plain_system_1)) (sSeq (sAsg (dCallF 2 sp_shares_of (dCons (dVar 11) (dCons (dLc (iLst (dVar 3)) (.tp [6, 7]) (dYes) (dNever) [6, 7]) (dNil)))) (.nm 23)) (sRet (dTup (dCons (dLc (iLst (dVar 3)) (.tp [6, 7]) (dYes) (dVar 6) [6, 7]) (dCons (dMake "Table" 3 sp_Table__init (dCons (dMake "Book" 3 sp_Book__init (dCons (dVar 2) (dCons (dFrz 13) (dNil)))) (dCons (dVar 23) (dNil)))) (dNil))))))))))))
theorem sc_plain_system : FnScope N_plain_system ["system"] (defScope s_plain_system) := ⟨rfl, rfl, rfl, by decide +kernel, rfl, by decide +kernel, by decide +kernel⟩
theorem pds_plain_system {G : Gx} {f_System_block_count f_kin_in f_kept_places f_in_steps f_shares_of f_Table__init f_Book__init : Addr} (d_System_block_count : Def G 1 f_System_block_count ["self"] sp_System_block_count) (o_System_block_count : MethOk G "System" "block_count" f_System_block_count) (d_kin_in : Def G 4 f_kin_in ["system"] sp_kin_in) (m_kin_in : G.mg "kin_in" = some (.ref f_kin_in)) (d_kept_places : Def G 4 f_kept_places ["system", "rows"] sp_kept_places) (m_kept_places : G.mg "kept_places" = some (.ref f_kept_places)) (m_len : G.mg "len" = none) (d_in_steps : Def G 3 f_in_steps ["rows"] sp_in_steps) (m_in_steps : G.mg "in_steps" = some (.ref f_in_steps)) (m_any : G.mg "any" = none) (g_LETTERS : GlobD G "LETTERS" dLETTERS) (m_zip : G.mg "zip" = none) (m_range : G.mg "range" = none) (d_shares_of : Def G 2 f_shares_of ["basis", "vector"] sp_shares_of) (m_shares_of : G.mg "shares_of" = some (.ref f_shares_of)) (d_Table__init : Def G 3 f_Table__init ["self", "book", "shares"] sp_Table__init) (k_Table : MakeOk G "Table" f_Table__init) (d_Book__init : Def G 3 f_Book__init ["self", "base", "named"] sp_Book__init) (k_Book : MakeOk G "Book" f_Book__init) : PDs G 4 N_plain_system ⟨defScope s_plain_system, fun _ => true⟩ (defBody s_plain_system) t_plain_system :=
  pdss_cons (psd_par rfl rfl (by decide) (by decide +kernel) (by decide +kernel) (pda_cons (pd_call d_kin_in (by decide) m_kin_in (by decide +kernel) (pda_cons (pd_var 0 rfl (by decide +kernel)) (pda_nil))) (pda_cons (pd_meth0 d_System_block_count (by decide) o_System_block_count (pd_var 0 rfl (by decide +kernel)) (fun _ => ⟨_, rfl⟩)) (pda_nil)))) (pdss_cons (psd_asg (pd_call d_kept_places (by decide) m_kept_places (by decide +kernel) (pda_cons (pd_var 0 rfl (by decide +kernel)) (pda_cons (pd_var 1 rfl (by decide +kernel)) (pda_nil)))) (pgd_nm 3 rfl (by decide +kernel))) (pdss_cons (psd_asg (pd_callB cd_len (by decide +kernel) m_len (by decide +kernel) (pda_cons (pd_var 3 rfl (by decide +kernel)) (pda_nil)) (by decide)) (pgd_nm 4 rfl (by decide +kernel))) (pdss_cons (psd_setLc 5 [("factors", 8)] rfl (by decide +kernel) rfl rfl (by decide +kernel)  (by decide +kernel) (by decide) (pdi_lst (pd_var 1 rfl (by decide +kernel))) (pgd_nm 8 rfl (by decide +kernel)) (pdts_nil) (pd_op od_add (pd_lc [("place", 6), ("column", 7)] (by decide +kernel) (by decide) (pdi_lst (pd_var 3 rfl (by decide +kernel))) (pgd_tup (pgsd_cons 6 rfl (by decide +kernel) (pgsd_cons 7 rfl (by decide +kernel) (pgsd_nil)))) (pdts_nil) (pd_never)) (pd_var 8 rfl (by decide +kernel)))) (pdss_cons (psd_setLc 9 [("line", 10)] rfl (by decide +kernel) rfl rfl (by decide +kernel)  (by decide +kernel) (by decide) (pdi_lst (pd_call d_in_steps (by decide) m_in_steps (by decide +kernel) (pda_cons (pd_var 5 rfl (by decide +kernel)) (pda_nil)))) (pgd_nm 10 rfl (by decide +kernel)) (pdts_one (pt_truD (fun _ _ => rfl) (pd_callB cd_any (by decide +kernel) m_any (by decide +kernel) (pda_cons (pd_slice (pd_var 10 rfl (by decide +kernel)) (pdo_none) (pdo_some (pd_var 4 rfl (by decide +kernel)))) (pda_nil)) (by decide)))) (pd_var 10 rfl (by decide +kernel))) (pdss_cons (psd_asg (pd_tup (pda_cons (pd_lc [("line", 10)] (by decide +kernel) (by decide) (pdi_lst (pd_var 9 rfl (by decide +kernel))) (pgd_nm 10 rfl (by decide +kernel)) (pdts_nil) (pd_slice (pd_var 10 rfl (by decide +kernel)) (pdo_none) (pdo_some (pd_var 4 rfl (by decide +kernel))))) (pda_cons (pd_slice (pd_globD g_LETTERS (by decide +kernel)) (pdo_none) (pdo_some (pd_callB cd_len (by decide +kernel) m_len (by decide +kernel) (pda_cons (pd_var 9 rfl (by decide +kernel)) (pda_nil)) (by decide)))) (pda_cons (pd_new (pda_nil)) (pda_nil))))) (pgd_tup (pgsd_cons 11 rfl (by decide +kernel) (pgsd_cons 12 rfl (by decide +kernel) (pgsd_cons 13 rfl (by decide +kernel) (pgsd_nil)))))) (pdss_cons (psd_for (pdi_zt (by decide +kernel) m_zip (pda_cons (pd_var 12 rfl (by decide +kernel)) (pda_cons (pd_var 9 rfl (by decide +kernel)) (pda_nil)))) (pgd_tup (pgsd_cons 14 rfl (by decide +kernel) (pgsd_cons 10 rfl (by decide +kernel) (pgsd_nil)))) (pdss_cons (psd_asg (pd_tup (pda_cons (pd_slice (pd_var 10 rfl (by decide +kernel)) (pdo_some (pd_var 4 rfl (by decide +kernel))) (pdo_none)) (pda_cons (pd_new (pda_nil)) (pda_nil)))) (pgd_tup (pgsd_cons 15 rfl (by decide +kernel) (pgsd_cons 16 rfl (by decide +kernel) (pgsd_nil))))) (pdss_cons (psd_for (pdi_rng1 (by decide +kernel) m_range (pda_cons (pd_var 2 rfl (by decide +kernel)) (pda_nil))) (pgd_nm 17 rfl (by decide +kernel)) (pdss_cons (psd_setLc 18 [("left", 19)] rfl (by decide +kernel) rfl rfl (by decide +kernel)  (by decide +kernel) (by decide) (pdi_rng1 (by decide +kernel) m_range (pda_cons (pd_var 2 rfl (by decide +kernel)) (pda_nil))) (pgd_nm 19 rfl (by decide +kernel)) (pdts_nil) (pd_never)) (pdss_cons (psd_setLc 20 [("part", 21)] rfl (by decide +kernel) rfl rfl (by decide +kernel)  (by decide +kernel) (by decide) (pdi_lst (pd_var 18 rfl (by decide +kernel))) (pgd_nm 21 rfl (by decide +kernel)) (pdts_nil) (pd_lc [("place", 6), ("column", 7)] (by decide +kernel) (by decide) (pdi_lst (pd_var 3 rfl (by decide +kernel))) (pgd_tup (pgsd_cons 6 rfl (by decide +kernel) (pgsd_cons 7 rfl (by decide +kernel) (pgsd_nil)))) (pdts_nil) (pd_never))) (pdss_one (psd_expr (pd_mt PySem.F.plainAttrs_list PySem.F.slot_list_append PySem.F.type_list_append md_append (pd_var 16 rfl (by decide +kernel)) (pda_cons (pd_lc [("numbers", 22)] (by decide +kernel) (by decide) (pdi_lst (pd_var 20 rfl (by decide +kernel))) (pgd_nm 22 rfl (by decide +kernel)) (pdts_nil) (pd_never)) (pda_nil)))))))) (pdss_one (psd_expr (pd_mt PySem.F.plainAttrs_list PySem.F.slot_list_append PySem.F.type_list_append md_append (pd_var 13 rfl (by decide +kernel)) (pda_cons (pd_tup (pda_cons (pd_var 14 rfl (by decide +kernel)) (pda_cons (pd_never) (pda_cons (pd_frz 16 rfl (by decide +kernel)) (pda_nil))))) (pda_nil)))))))) (pdss_cons (psd_asg (pd_call d_shares_of (by decide) m_shares_of (by decide +kernel) (pda_cons (pd_var 11 rfl (by decide +kernel)) (pda_cons (pd_lc [("place", 6), ("column", 7)] (by decide +kernel) (by decide) (pdi_lst (pd_var 3 rfl (by decide +kernel))) (pgd_tup (pgsd_cons 6 rfl (by decide +kernel) (pgsd_cons 7 rfl (by decide +kernel) (pgsd_nil)))) (pdts_nil) (pd_never)) (pda_nil)))) (pgd_nm 23 rfl (by decide +kernel))) (pdss_one (psd_ret (pd_tup (pda_cons (pd_lc [("place", 6), ("column", 7)] (by decide +kernel) (by decide) (pdi_lst (pd_var 3 rfl (by decide +kernel))) (pgd_tup (pgsd_cons 6 rfl (by decide +kernel) (pgsd_cons 7 rfl (by decide +kernel) (pgsd_nil)))) (pdts_nil) (pd_var 6 rfl (by decide +kernel))) (pda_cons (pd_make d_Table__init (by decide) k_Table (by decide +kernel) (pda_cons (pd_make d_Book__init (by decide) k_Book (by decide +kernel) (pda_cons (pd_var 2 rfl (by decide +kernel)) (pda_cons (pd_frz 13 rfl (by decide +kernel)) (pda_nil)))) (pda_cons (pd_var 23 rfl (by decide +kernel)) (pda_nil)))) (pda_nil)))))))))))))
/-! ### rank_of -/
abbrev N_rank_of : List Str := ["table"]
def t_rank_of : DS := sRet (dCall rLenD (dCons (dOp (rF ixF) (dCallF 1 sp_plain_system (dCons (dCallF 1 sp_system_of (dCons (dVar 0) (dNil))) (dNil))) (dC (.int 0))) (dNil)))
theorem sc_rank_of : FnScope N_rank_of ["table"] (defScope s_rank_of) := ⟨rfl, rfl, rfl, by decide +kernel, rfl, by decide +kernel, by decide +kernel⟩
theorem pds_rank_of {G : Gx} {f_plain_system f_system_of : Addr} (m_len : G.mg "len" = none) (d_plain_system : Def G 5 f_plain_system ["system"] sp_plain_system) (m_plain_system : G.mg "plain_system" = some (.ref f_plain_system)) (d_system_of : Def G 4 f_system_of ["table"] sp_system_of) (m_system_of : G.mg "system_of" = some (.ref f_system_of)) : PDs G 5 N_rank_of ⟨defScope s_rank_of, fun _ => true⟩ (defBody s_rank_of) t_rank_of :=
  pdss_one (psd_ret (pd_callB cd_len (by decide +kernel) m_len (by decide +kernel) (pda_cons (pd_ix (pd_call d_plain_system (by decide) m_plain_system (by decide +kernel) (pda_cons (pd_call d_system_of (by decide) m_system_of (by decide +kernel) (pda_cons (pd_var 0 rfl (by decide +kernel)) (pda_nil))) (pda_nil))) (pd_int) (fun _ _ => rfl)) (pda_nil)) (by decide)))
/-! ### Shelf.__init__ -/
abbrev N_Shelf__init : List Str := ["self", "base"]
def t_Shelf__init : DS := sSeq (sIf (dB (dOp rNotInD (dVar 1) (dC dBASES))) (sNever) (sNext)) (sSeq (sFldD ["Book", "Shelf", "SmallShelf"] "radix" (dVar 0) (dVar 1)) (sSeq (sFldD ["Shelf", "SmallShelf"] "calls" (dVar 0) (dLst (dNil))) (sFldD ["Shelf", "SmallShelf"] "states" (dVar 0) (dLst (dCons (dC (.dic [] [])) (dNil))))))
theorem sc_Shelf__init : FnScope N_Shelf__init ["self", "base"] (defScope s_Shelf__init) := ⟨rfl, rfl, rfl, by decide +kernel, rfl, by decide +kernel, by decide +kernel⟩
theorem pds_Shelf__init {G : Gx} (g_BASES : GlobD G "BASES" dBASES) (c_radix : ClsFld G ["Book", "Shelf", "SmallShelf"] "radix") (c_calls : ClsFld G ["Shelf", "SmallShelf"] "calls") (c_states : ClsFld G ["Shelf", "SmallShelf"] "states") : PDs G 0 N_Shelf__init ⟨defScope s_Shelf__init, fun _ => true⟩ (defBody s_Shelf__init) t_Shelf__init :=
  pdss_cons (psd_if (pt_cmpD od_notIn (pd_var 1 rfl (by decide +kernel)) (pd_globD g_BASES (by decide +kernel)) rfl) (pdss_one (psd_never)) (pdss_nil)) (pdss_cons (psd_fld c_radix (pd_var 0 rfl (by decide +kernel)) (pd_var 1 rfl (by decide +kernel))) (pdss_cons (psd_fld c_calls (pd_var 0 rfl (by decide +kernel)) (pd_lst (pda_nil))) (pdss_one (psd_fld c_states (pd_var 0 rfl (by decide +kernel)) (pd_lst (pda_cons (pd_dnew) (pda_nil)))))))
/-! ### Shelf.limit -/
abbrev N_Shelf_limit : List Str := ["self"]
def t_Shelf_limit : DS := sRet (dC .non)
theorem sc_Shelf_limit : FnScope N_Shelf_limit ["self"] (defScope s_Shelf_limit) := ⟨rfl, rfl, rfl, by decide +kernel, rfl, by decide +kernel, by decide +kernel⟩
theorem pds_Shelf_limit {G : Gx}  : PDs G 0 N_Shelf_limit ⟨defScope s_Shelf_limit, fun _ => true⟩ (defBody s_Shelf_limit) t_Shelf_limit :=
  pdss_one (psd_ret (pd_non))
/-! ### Shelf.__eq__ -/
abbrev N_Shelf__eq : List Str := ["self", "other"]
def t_Shelf__eq (G : Gx) : DS := sSeq (sIf (dOr (dNot (dTru (dCall (rIsiD tyCs tySub "Shelf" (G.ca "Shelf")) (dCons (dVar 1) (dCons (dC (.cell (G.ca "Shelf"))) dNil))))) (dOr (dB (dOp rDiffD (dFld ["Book", "Shelf", "SmallShelf"] "radix" (dVar 0)) (dFld ["Book", "Shelf", "SmallShelf"] "radix" (dVar 1)))) (dB (dOp rDiffD (dOrE (dMeth "Shelf" "limit" 1 sp_Shelf_limit (dVar 0) dNil) (dMeth "SmallShelf" "limit" 1 sp_SmallShelf_limit (dVar 0) dNil)) (dOrE (dMeth "Shelf" "limit" 1 sp_Shelf_limit (dVar 1) dNil) (dMeth "SmallShelf" "limit" 1 sp_SmallShelf_limit (dVar 1) dNil)))))) (sRet (dC (.bl false))) (sNext)) (sRet (dOp (rEqX obT 41) (dFld ["Shelf", "SmallShelf"] "calls" (dVar 0)) (dFld ["Shelf", "SmallShelf"] "calls" (dVar 1))))
theorem sc_Shelf__eq : FnScope N_Shelf__eq ["self", "other"] (defScope s_Shelf__eq) := ⟨rfl, rfl, rfl, by decide +kernel, rfl, by decide +kernel, by decide +kernel⟩
theorem pds_Shelf__eq {G : Gx} {f_Shelf_limit f_SmallShelf_limit : Addr} (ty : Tys G tyCs tySub) (m_isinstance : G.mg "isinstance" = none) (kc_Shelf : G.mg "Shelf" = some (.ref (G.ca "Shelf"))) (c_radix : ClsFld G ["Book", "Shelf", "SmallShelf"] "radix") (d_Shelf_limit : Def G 1 f_Shelf_limit ["self"] sp_Shelf_limit) (o_Shelf_limit : MethOk G "Shelf" "limit" f_Shelf_limit) (d_SmallShelf_limit : Def G 1 f_SmallShelf_limit ["self"] sp_SmallShelf_limit) (o_SmallShelf_limit : MethOk G "SmallShelf" "limit" f_SmallShelf_limit) (obT_ok : ObOk G obT) (c_calls : ClsFld G ["Shelf", "SmallShelf"] "calls") : PDs G 41 N_Shelf__eq ⟨defScope s_Shelf__eq, fun _ => true⟩ (defBody s_Shelf__eq) (t_Shelf__eq G) :=
  pdss_cons (psd_if (PDW.pt (pwd_or (pt_notD (pt_truD (fun _ _ => rfl) (pd_callB (cd_isi ty (by decide)) (by decide +kernel) m_isinstance (by decide +kernel) (pda_cons (pd_var 1 rfl (by decide +kernel)) (pda_cons (pd_cls (by decide +kernel) kc_Shelf) pda_nil)) (by decide)))) (pwd_or (pt_cmpD od_ne (pd_fld c_radix (pd_var 0 rfl (by decide +kernel))) (pd_fld c_radix (pd_var 1 rfl (by decide +kernel))) rfl) (pwd_or1 (pt_cmpD od_ne (pd_orE (pd_meth0 d_Shelf_limit (by decide) o_Shelf_limit (pd_var 0 rfl (by decide +kernel)) (fun _ => ⟨_, rfl⟩)) (pd_meth0 d_SmallShelf_limit (by decide) o_SmallShelf_limit (pd_var 0 rfl (by decide +kernel)) (fun _ => ⟨_, rfl⟩))) (pd_orE (pd_meth0 d_Shelf_limit (by decide) o_Shelf_limit (pd_var 1 rfl (by decide +kernel)) (fun _ => ⟨_, rfl⟩)) (pd_meth0 d_SmallShelf_limit (by decide) o_SmallShelf_limit (pd_var 1 rfl (by decide +kernel)) (fun _ => ⟨_, rfl⟩))) rfl))))) (pdss_one (psd_ret (pd_bl))) (pdss_nil)) (pdss_one (psd_ret (pd_cmp (od_eqX obT_ok) (pd_fld c_calls (pd_var 0 rfl (by decide +kernel))) (pd_fld c_calls (pd_var 1 rfl (by decide +kernel))) rfl)))
/-! ### Shelf.titles -/
abbrev N_Shelf_titles : List Str := ["self"]
def t_Shelf_titles : DS := sRet (dCall rSortDD (dCons (dOp (rF ixF) (dFld ["Shelf", "SmallShelf"] "states" (dVar 0)) (dNeg (dC (.int 1)))) (dNil)))
theorem sc_Shelf_titles : FnScope N_Shelf_titles ["self"] (defScope s_Shelf_titles) := ⟨rfl, rfl, rfl, by decide +kernel, rfl, by decide +kernel, by decide +kernel⟩
theorem pds_Shelf_titles {G : Gx} (m_sorted : G.mg "sorted" = none) (c_states : ClsFld G ["Shelf", "SmallShelf"] "states") : PDs G 0 N_Shelf_titles ⟨defScope s_Shelf_titles, fun _ => true⟩ (defBody s_Shelf_titles) t_Shelf_titles :=
  pdss_one (psd_ret (pd_callB cd_sortDD (by decide +kernel) m_sorted (by decide +kernel) (pda_cons (pd_ix (pd_fld c_states (pd_var 0 rfl (by decide +kernel))) (pd_neg (pd_int)) (fun _ _ => rfl)) (pda_nil)) (by decide)))
/-! ### Shelf.check_title -/
abbrev N_Shelf_check_title : List Str := ["self", "title"]
def t_Shelf_check_title : DS := sIf (dB (dDIn true (dVar 1) (dOp (rF ixF) (dFld ["Shelf", "SmallShelf"] "states" (dVar 0)) (dNeg (dC (.int 1)))))) (sNever) (sNext)
theorem sc_Shelf_check_title : FnScope N_Shelf_check_title ["self", "title"] (defScope s_Shelf_check_title) := ⟨rfl, rfl, rfl, by decide +kernel, rfl, by decide +kernel, by decide +kernel⟩
theorem pds_Shelf_check_title {G : Gx} (c_states : ClsFld G ["Shelf", "SmallShelf"] "states") : PDs G 0 N_Shelf_check_title ⟨defScope s_Shelf_check_title, fun _ => true⟩ (defBody s_Shelf_check_title) t_Shelf_check_title :=
  pdss_one (psd_if (pt_dnin (pd_var 1 rfl (by decide +kernel)) (pd_ix (pd_fld c_states (pd_var 0 rfl (by decide +kernel))) (pd_neg (pd_int)) (fun _ _ => rfl)) rfl) (pdss_one (psd_never)) (pdss_nil))
/-! ### Shelf.check_base -/
abbrev N_Shelf_check_base : List Str := ["self", "table"]
def t_Shelf_check_base : DS := sIf (dB (dOp rDiffD (dProp "Book" 1 sp_Book_base (dProp "Table" 1 sp_Table_book (dVar 1))) (dFld ["Book", "Shelf", "SmallShelf"] "radix" (dVar 0)))) (sNever) (sNext)
theorem sc_Shelf_check_base : FnScope N_Shelf_check_base ["self", "table"] (defScope s_Shelf_check_base) := ⟨rfl, rfl, rfl, by decide +kernel, rfl, by decide +kernel, by decide +kernel⟩
theorem pds_Shelf_check_base {G : Gx} {f_Table_book f_Book_base : Addr} (d_Table_book : Def G 1 f_Table_book ["self"] sp_Table_book) (p_Table_book : PropOk G "Table" "book" f_Table_book) (d_Book_base : Def G 1 f_Book_base ["self"] sp_Book_base) (p_Book_base : PropOk G "Book" "base" f_Book_base) (c_radix : ClsFld G ["Book", "Shelf", "SmallShelf"] "radix") : PDs G 2 N_Shelf_check_base ⟨defScope s_Shelf_check_base, fun _ => true⟩ (defBody s_Shelf_check_base) t_Shelf_check_base :=
  pdss_one (psd_if (pt_cmpD od_ne (pd_prop d_Book_base (by decide) p_Book_base (pd_prop d_Table_book (by decide) p_Table_book (pd_var 1 rfl (by decide +kernel)))) (pd_fld c_radix (pd_var 0 rfl (by decide +kernel))) rfl) (pdss_one (psd_never)) (pdss_nil))
/-! ### Shelf.keep -/
abbrev N_Shelf_keep : List Str := ["self", "call", "state"]
def t_Shelf_keep : DS := sFld2 ["Shelf", "SmallShelf"] "calls" "states" (dVar 0) (dVar 0) (dTup (dCons (dLst (dStar (dFld ["Shelf", "SmallShelf"] "calls" (dVar 0)) (dCons (dVar 1) (dNil)))) (dCons (dLst (dStar (dFld ["Shelf", "SmallShelf"] "states" (dVar 0)) (dCons (dVar 2) (dNil)))) (dNil))))
theorem sc_Shelf_keep : FnScope N_Shelf_keep ["self", "call", "state"] (defScope s_Shelf_keep) := ⟨rfl, rfl, rfl, by decide +kernel, rfl, by decide +kernel, by decide +kernel⟩
theorem pds_Shelf_keep {G : Gx} (c_states : ClsFld G ["Shelf", "SmallShelf"] "states") (c_calls : ClsFld G ["Shelf", "SmallShelf"] "calls") : PDs G 0 N_Shelf_keep ⟨defScope s_Shelf_keep, fun _ => true⟩ (defBody s_Shelf_keep) t_Shelf_keep :=
  pdss_one (psd_fld2 c_calls c_states (pd_var 0 rfl (by decide +kernel)) (pd_var 0 rfl (by decide +kernel)) (pd_tup (pda_cons (pd_lst (pda_star (pd_fld c_calls (pd_var 0 rfl (by decide +kernel))) (pda_cons (pd_var 1 rfl (by decide +kernel)) (pda_nil)))) (pda_cons (pd_lst (pda_star (pd_fld c_states (pd_var 0 rfl (by decide +kernel))) (pda_cons (pd_var 2 rfl (by decide +kernel)) (pda_nil)))) (pda_nil)))) (hw := fun env h => by cases env; cases h; rfl))
/-! ### Shelf.put -/
abbrev N_Shelf_put : List Str := ["self", "title", "table"]
def t_Shelf_put : DS := sSeq (sIf (dNot (dTru (dCallF 1 sp_is_name (dCons (dVar 1) (dNil))))) (sNever) (sNext)) (sSeq (sDrop (dOrE (dMeth "Shelf" "check_base" 2 sp_Shelf_check_base (dVar 0) (dCons (dVar 2) (dNil))) (dMeth "SmallShelf" "check_base" 2 sp_Shelf_check_base (dVar 0) (dCons (dVar 2) (dNil))))) (sSeq (sIf (dAnd (dB (dOp rNotND (dOrE (dMeth "Shelf" "limit" 1 sp_Shelf_limit (dVar 0) dNil) (dMeth "SmallShelf" "limit" 1 sp_SmallShelf_limit (dVar 0) dNil)) (dC .non))) (dB (dOp rGtD (dCallF 1 sp_rank_of (dCons (dVar 2) (dNil))) (dOrE (dMeth "Shelf" "limit" 1 sp_Shelf_limit (dVar 0) dNil) (dMeth "SmallShelf" "limit" 1 sp_SmallShelf_limit (dVar 0) dNil))))) (sNever) (sNext)) (sDrop (dOrE (dMeth "Shelf" "keep" 3 sp_Shelf_keep (dVar 0) (dCons (dTup (dCons (dC (.str "put")) (dCons (dVar 1) (dCons (dVar 2) (dNil))))) (dCons (dMrg (dOp (rF ixF) (dFld ["Shelf", "SmallShelf"] "states" (dVar 0)) (dNeg (dC (.int 1)))) (dVar 1) (dVar 2)) (dNil)))) (dMeth "SmallShelf" "keep" 3 sp_Shelf_keep (dVar 0) (dCons (dTup (dCons (dC (.str "put")) (dCons (dVar 1) (dCons (dVar 2) (dNil))))) (dCons (dMrg (dOp (rF ixF) (dFld ["Shelf", "SmallShelf"] "states" (dVar 0)) (dNeg (dC (.int 1)))) (dVar 1) (dVar 2)) (dNil))))))))
theorem sc_Shelf_put : FnScope N_Shelf_put ["self", "title", "table"] (defScope s_Shelf_put) := ⟨rfl, rfl, rfl, by decide +kernel, rfl, by decide +kernel, by decide +kernel⟩
theorem pds_Shelf_put {G : Gx} {f_is_name f_Shelf_check_base f_Shelf_limit f_SmallShelf_limit f_rank_of f_Shelf_keep : Addr} (d_is_name : Def G 1 f_is_name ["name"] sp_is_name) (m_is_name : G.mg "is_name" = some (.ref f_is_name)) (d_Shelf_check_base : Def G 3 f_Shelf_check_base ["self", "table"] sp_Shelf_check_base) (o_Shelf_check_base : MethOk G "Shelf" "check_base" f_Shelf_check_base) (o_SmallShelf_check_base : MethOk G "SmallShelf" "check_base" f_Shelf_check_base) (d_Shelf_limit : Def G 1 f_Shelf_limit ["self"] sp_Shelf_limit) (o_Shelf_limit : MethOk G "Shelf" "limit" f_Shelf_limit) (d_SmallShelf_limit : Def G 1 f_SmallShelf_limit ["self"] sp_SmallShelf_limit) (o_SmallShelf_limit : MethOk G "SmallShelf" "limit" f_SmallShelf_limit) (d_rank_of : Def G 6 f_rank_of ["table"] sp_rank_of) (m_rank_of : G.mg "rank_of" = some (.ref f_rank_of)) (c_states : ClsFld G ["Shelf", "SmallShelf"] "states") (d_Shelf_keep : Def G 1 f_Shelf_keep ["self", "call", "state"] sp_Shelf_keep) (o_Shelf_keep : MethOk G "Shelf" "keep" f_Shelf_keep) (o_SmallShelf_keep : MethOk G "SmallShelf" "keep" f_Shelf_keep) : PDs G 6 N_Shelf_put ⟨defScope s_Shelf_put, fun _ => true⟩ (defBody s_Shelf_put) t_Shelf_put :=
  pdss_cons (psd_if (pt_notD (pt_truD (fun _ _ => rfl) (pd_call d_is_name (by decide) m_is_name (by decide +kernel) (pda_cons (pd_var 1 rfl (by decide +kernel)) (pda_nil))))) (pdss_one (psd_never)) (pdss_nil)) (pdss_cons (psd_expr (pd_orE (pd_meth d_Shelf_check_base (by decide) o_Shelf_check_base (pd_var 0 rfl (by decide +kernel)) (pda_cons (pd_var 2 rfl (by decide +kernel)) (pda_nil)) (fun _ => ⟨_, rfl⟩)) (pd_meth d_Shelf_check_base (by decide) o_SmallShelf_check_base (pd_var 0 rfl (by decide +kernel)) (pda_cons (pd_var 2 rfl (by decide +kernel)) (pda_nil)) (fun _ => ⟨_, rfl⟩)))) (pdss_cons (psd_if (PDW.pt (pwd_and (pt_cmpD od_notN (pd_orE (pd_meth0 d_Shelf_limit (by decide) o_Shelf_limit (pd_var 0 rfl (by decide +kernel)) (fun _ => ⟨_, rfl⟩)) (pd_meth0 d_SmallShelf_limit (by decide) o_SmallShelf_limit (pd_var 0 rfl (by decide +kernel)) (fun _ => ⟨_, rfl⟩))) (pd_non) rfl) (pwd_and1 (pt_cmpD od_gt (pd_call d_rank_of (by decide) m_rank_of (by decide +kernel) (pda_cons (pd_var 2 rfl (by decide +kernel)) (pda_nil))) (pd_orE (pd_meth0 d_Shelf_limit (by decide) o_Shelf_limit (pd_var 0 rfl (by decide +kernel)) (fun _ => ⟨_, rfl⟩)) (pd_meth0 d_SmallShelf_limit (by decide) o_SmallShelf_limit (pd_var 0 rfl (by decide +kernel)) (fun _ => ⟨_, rfl⟩))) rfl)))) (pdss_one (psd_never)) (pdss_nil)) (pdss_one (psd_expr (pd_orE (pd_meth d_Shelf_keep (by decide) o_Shelf_keep (pd_var 0 rfl (by decide +kernel)) (pda_cons (pd_tup (pda_cons (pd_str) (pda_cons (pd_var 1 rfl (by decide +kernel)) (pda_cons (pd_var 2 rfl (by decide +kernel)) (pda_nil))))) (pda_cons (pd_mrg (pd_ix (pd_fld c_states (pd_var 0 rfl (by decide +kernel))) (pd_neg (pd_int)) (fun _ _ => rfl)) (pd_var 1 rfl (by decide +kernel)) (pd_var 2 rfl (by decide +kernel))) (pda_nil))) (fun _ => ⟨_, rfl⟩)) (pd_meth d_Shelf_keep (by decide) o_SmallShelf_keep (pd_var 0 rfl (by decide +kernel)) (pda_cons (pd_tup (pda_cons (pd_str) (pda_cons (pd_var 1 rfl (by decide +kernel)) (pda_cons (pd_var 2 rfl (by decide +kernel)) (pda_nil))))) (pda_cons (pd_mrg (pd_ix (pd_fld c_states (pd_var 0 rfl (by decide +kernel))) (pd_neg (pd_int)) (fun _ _ => rfl)) (pd_var 1 rfl (by decide +kernel)) (pd_var 2 rfl (by decide +kernel))) (pda_nil))) (fun _ => ⟨_, rfl⟩)))))))
/-! ### Shelf.drop -/
abbrev N_Shelf_drop : List Str := ["self", "title", "each", "table"]
def t_Shelf_drop : DS := sSeq (sDrop (dOrE (dMeth "Shelf" "check_title" 2 sp_Shelf_check_title (dVar 0) (dCons (dVar 1) (dNil))) (dMeth "SmallShelf" "check_title" 2 sp_Shelf_check_title (dVar 0) (dCons (dVar 1) (dNil))))) (sDrop (dOrE (dMeth "Shelf" "keep" 3 sp_Shelf_keep (dVar 0) (dCons (dTup (dCons (dC (.str "drop")) (dCons (dVar 1) (dNil)))) (dCons (dDc (iItmD (dOp (rF ixF) (dFld ["Shelf", "SmallShelf"] "states" (dVar 0)) (dNeg (dC (.int 1))))) (.tp [2, 3]) (dB (dOp rDiffD (dVar 2) (dVar 1))) (dVar 2) (dVar 3) [2, 3]) (dNil)))) (dMeth "SmallShelf" "keep" 3 sp_Shelf_keep (dVar 0) (dCons (dTup (dCons (dC (.str "drop")) (dCons (dVar 1) (dNil)))) (dCons (dDc (iItmD (dOp (rF ixF) (dFld ["Shelf", "SmallShelf"] "states" (dVar 0)) (dNeg (dC (.int 1))))) (.tp [2, 3]) (dB (dOp rDiffD (dVar 2) (dVar 1))) (dVar 2) (dVar 3) [2, 3]) (dNil))))))
theorem sc_Shelf_drop : FnScope N_Shelf_drop ["self", "title"] (defScope s_Shelf_drop) := ⟨rfl, rfl, rfl, by decide +kernel, rfl, by decide +kernel, by decide +kernel⟩
theorem pds_Shelf_drop {G : Gx} {f_Shelf_check_title f_Shelf_keep : Addr} (d_Shelf_check_title : Def G 1 f_Shelf_check_title ["self", "title"] sp_Shelf_check_title) (o_Shelf_check_title : MethOk G "Shelf" "check_title" f_Shelf_check_title) (o_SmallShelf_check_title : MethOk G "SmallShelf" "check_title" f_Shelf_check_title) (c_states : ClsFld G ["Shelf", "SmallShelf"] "states") (d_Shelf_keep : Def G 1 f_Shelf_keep ["self", "call", "state"] sp_Shelf_keep) (o_Shelf_keep : MethOk G "Shelf" "keep" f_Shelf_keep) (o_SmallShelf_keep : MethOk G "SmallShelf" "keep" f_Shelf_keep) : PDs G 1 N_Shelf_drop ⟨defScope s_Shelf_drop, fun _ => true⟩ (defBody s_Shelf_drop) t_Shelf_drop :=
  pdss_cons (psd_expr (pd_orE (pd_meth d_Shelf_check_title (by decide) o_Shelf_check_title (pd_var 0 rfl (by decide +kernel)) (pda_cons (pd_var 1 rfl (by decide +kernel)) (pda_nil)) (fun _ => ⟨_, rfl⟩)) (pd_meth d_Shelf_check_title (by decide) o_SmallShelf_check_title (pd_var 0 rfl (by decide +kernel)) (pda_cons (pd_var 1 rfl (by decide +kernel)) (pda_nil)) (fun _ => ⟨_, rfl⟩)))) (pdss_one (psd_expr (pd_orE (pd_meth d_Shelf_keep (by decide) o_Shelf_keep (pd_var 0 rfl (by decide +kernel)) (pda_cons (pd_tup (pda_cons (pd_str) (pda_cons (pd_var 1 rfl (by decide +kernel)) (pda_nil)))) (pda_cons (pd_dc [("each", 2), ("table", 3)] (by decide +kernel) (by decide) (pdi_items (pd_ix (pd_fld c_states (pd_var 0 rfl (by decide +kernel))) (pd_neg (pd_int)) (fun _ _ => rfl))) (pgd_tup (pgsd_cons 2 rfl (by decide +kernel) (pgsd_cons 3 rfl (by decide +kernel) (pgsd_nil)))) (pdts_one (pt_cmpD od_ne (pd_var 2 rfl (by decide +kernel)) (pd_var 1 rfl (by decide +kernel)) rfl)) (pd_var 2 rfl (by decide +kernel)) (pd_var 3 rfl (by decide +kernel))) (pda_nil))) (fun _ => ⟨_, rfl⟩)) (pd_meth d_Shelf_keep (by decide) o_SmallShelf_keep (pd_var 0 rfl (by decide +kernel)) (pda_cons (pd_tup (pda_cons (pd_str) (pda_cons (pd_var 1 rfl (by decide +kernel)) (pda_nil)))) (pda_cons (pd_dc [("each", 2), ("table", 3)] (by decide +kernel) (by decide) (pdi_items (pd_ix (pd_fld c_states (pd_var 0 rfl (by decide +kernel))) (pd_neg (pd_int)) (fun _ _ => rfl))) (pgd_tup (pgsd_cons 2 rfl (by decide +kernel) (pgsd_cons 3 rfl (by decide +kernel) (pgsd_nil)))) (pdts_one (pt_cmpD od_ne (pd_var 2 rfl (by decide +kernel)) (pd_var 1 rfl (by decide +kernel)) rfl)) (pd_var 2 rfl (by decide +kernel)) (pd_var 3 rfl (by decide +kernel))) (pda_nil))) (fun _ => ⟨_, rfl⟩)))))
/-! ### Shelf.undo -/
abbrev N_Shelf_undo : List Str := ["self"]
def t_Shelf_undo : DS := sSeq (sIf (dB (dOp (rEqX obT 40) (dFld ["Shelf", "SmallShelf"] "calls" (dVar 0)) (dLst (dNil)))) (sNever) (sNext)) (sFld2 ["Shelf", "SmallShelf"] "calls" "states" (dVar 0) (dVar 0) (dTup (dCons (dSlice (dFld ["Shelf", "SmallShelf"] "calls" (dVar 0)) (dNoPart) (dPart (dNeg (dC (.int 1))))) (dCons (dSlice (dFld ["Shelf", "SmallShelf"] "states" (dVar 0)) (dNoPart) (dPart (dNeg (dC (.int 1))))) (dNil)))))
theorem sc_Shelf_undo : FnScope N_Shelf_undo ["self"] (defScope s_Shelf_undo) := ⟨rfl, rfl, rfl, by decide +kernel, rfl, by decide +kernel, by decide +kernel⟩
theorem pds_Shelf_undo {G : Gx} (obT_ok : ObOk G obT) (c_calls : ClsFld G ["Shelf", "SmallShelf"] "calls") (c_states : ClsFld G ["Shelf", "SmallShelf"] "states") : PDs G 40 N_Shelf_undo ⟨defScope s_Shelf_undo, fun _ => true⟩ (defBody s_Shelf_undo) t_Shelf_undo :=
  pdss_cons (psd_if (pt_cmpD (od_eqX obT_ok) (pd_fld c_calls (pd_var 0 rfl (by decide +kernel))) (pd_lst (pda_nil)) rfl) (pdss_one (psd_never)) (pdss_nil)) (pdss_one (psd_fld2 c_calls c_states (pd_var 0 rfl (by decide +kernel)) (pd_var 0 rfl (by decide +kernel)) (pd_tup (pda_cons (pd_slice (pd_fld c_calls (pd_var 0 rfl (by decide +kernel))) (pdo_none) (pdo_some (pd_neg (pd_int)))) (pda_cons (pd_slice (pd_fld c_states (pd_var 0 rfl (by decide +kernel))) (pdo_none) (pdo_some (pd_neg (pd_int)))) (pda_nil)))) (hw := fun env h => by cases env; cases h; rfl)))
/-! ### Shelf.table_on -/
abbrev N_Shelf_table_on : List Str := ["self", "title"]
def t_Shelf_table_on : DS := sSeq (sDrop (dOrE (dMeth "Shelf" "check_title" 2 sp_Shelf_check_title (dVar 0) (dCons (dVar 1) (dNil))) (dMeth "SmallShelf" "check_title" 2 sp_Shelf_check_title (dVar 0) (dCons (dVar 1) (dNil))))) (sRet (dGet (dOp (rF ixF) (dFld ["Shelf", "SmallShelf"] "states" (dVar 0)) (dNeg (dC (.int 1)))) (dVar 1)))
theorem sc_Shelf_table_on : FnScope N_Shelf_table_on ["self", "title"] (defScope s_Shelf_table_on) := ⟨rfl, rfl, rfl, by decide +kernel, rfl, by decide +kernel, by decide +kernel⟩
theorem pds_Shelf_table_on {G : Gx} {f_Shelf_check_title : Addr} (d_Shelf_check_title : Def G 1 f_Shelf_check_title ["self", "title"] sp_Shelf_check_title) (o_Shelf_check_title : MethOk G "Shelf" "check_title" f_Shelf_check_title) (o_SmallShelf_check_title : MethOk G "SmallShelf" "check_title" f_Shelf_check_title) (c_states : ClsFld G ["Shelf", "SmallShelf"] "states") : PDs G 1 N_Shelf_table_on ⟨defScope s_Shelf_table_on, fun _ => true⟩ (defBody s_Shelf_table_on) t_Shelf_table_on :=
  pdss_cons (psd_expr (pd_orE (pd_meth d_Shelf_check_title (by decide) o_Shelf_check_title (pd_var 0 rfl (by decide +kernel)) (pda_cons (pd_var 1 rfl (by decide +kernel)) (pda_nil)) (fun _ => ⟨_, rfl⟩)) (pd_meth d_Shelf_check_title (by decide) o_SmallShelf_check_title (pd_var 0 rfl (by decide +kernel)) (pda_cons (pd_var 1 rfl (by decide +kernel)) (pda_nil)) (fun _ => ⟨_, rfl⟩)))) (pdss_one (psd_ret (pd_dget (pd_ix (pd_fld c_states (pd_var 0 rfl (by decide +kernel))) (pd_neg (pd_int)) (fun _ _ => rfl)) (pd_var 1 rfl (by decide +kernel)) (fun _ _ => rfl))))
/-! ### SmallShelf.limit -/
abbrev N_SmallShelf_limit : List Str := ["self"]
def t_SmallShelf_limit : DS := sRet (dFld ["SmallShelf"] "greatest" (dVar 0))
theorem sc_SmallShelf_limit : FnScope N_SmallShelf_limit ["self"] (defScope s_SmallShelf_limit) := ⟨rfl, rfl, rfl, by decide +kernel, rfl, by decide +kernel, by decide +kernel⟩
theorem pds_SmallShelf_limit {G : Gx} (c_greatest : ClsFld G ["SmallShelf"] "greatest") : PDs G 0 N_SmallShelf_limit ⟨defScope s_SmallShelf_limit, fun _ => true⟩ (defBody s_SmallShelf_limit) t_SmallShelf_limit :=
  pdss_one (psd_ret (pd_fld c_greatest (pd_var 0 rfl (by decide +kernel))))
/-! ### _law_pool -/
abbrev N_L_pool : List Str := ["script", "spot", "cell"]
def t_L_pool : DS := sSeq (sAsg (dC (.int 0)) (.nm 2)) (sSeq (sIf (dB (dOp rLtD (dVar 1) (dCall rLenD (dCons (dVar 0) (dNil))))) (sAsg (dOp (rF ixF) (dVar 0) (dVar 1)) (.nm 2)) (sNext)) (sRet (dNew (dCons (dCall rMaxD2 (dCons (dC (.int 0)) (dCons (dOp rSubD (dCall rAbsD (dCons (dVar 2) (dNil))) (dOp rPowD (dC (.int 10)) (dC (.int 18)))) (dNil)))) (dCons (dOp rAddD (dOp rModD (dCall rIntD1 (dCons (dVar 2) (dNil))) (dC (.int 2305843009213693951))) (dOp rMulD (dC (.int 7368787)) (dOp rAddD (dVar 1) (dC (.int 1))))) (dCons (dC (.int 0)) (dNil)))))))
theorem sc_L_pool : FnScope N_L_pool ["script", "spot"] (defScope s_L_pool) := ⟨rfl, rfl, rfl, by decide +kernel, rfl, by decide +kernel, by decide +kernel⟩
theorem pds_L_pool {G : Gx} (m_len : G.mg "len" = none) (m_int : G.mg "int" = none) (m_max : G.mg "max" = none) (m_abs : G.mg "abs" = none) : PDs G 0 N_L_pool ⟨defScope s_L_pool, fun _ => true⟩ (defBody s_L_pool) t_L_pool :=
  pdss_cons (psd_asg (pd_int) (pgd_nm 2 rfl (by decide +kernel))) (pdss_cons (psd_if (pt_cmpD od_lt (pd_var 1 rfl (by decide +kernel)) (pd_callB cd_len (by decide +kernel) m_len (by decide +kernel) (pda_cons (pd_var 0 rfl (by decide +kernel)) (pda_nil)) (by decide)) rfl) (pdss_one (psd_asg (pd_ix (pd_var 0 rfl (by decide +kernel)) (pd_var 1 rfl (by decide +kernel)) (fun _ _ => rfl)) (pgd_nm 2 rfl (by decide +kernel)))) (pdss_nil)) (pdss_one (psd_ret (pd_new (pda_cons (pd_callB cd_max2 (by decide +kernel) m_max (by decide +kernel) (pda_cons (pd_int) (pda_cons (pd_op od_sub (pd_callB cd_abs (by decide +kernel) m_abs (by decide +kernel) (pda_cons (pd_var 2 rfl (by decide +kernel)) (pda_nil)) (by decide)) (pd_op od_pow (pd_int) (pd_int))) (pda_nil))) (by decide)) (pda_cons (pd_op od_add (pd_op od_mod (pd_callTy cd_int1 (by decide +kernel) m_int (by decide +kernel) (pda_cons (pd_var 2 rfl (by decide +kernel)) (pda_nil)) (by decide)) (pd_int)) (pd_op od_mul (pd_int) (pd_op od_add (pd_var 1 rfl (by decide +kernel)) (pd_int)))) (pda_cons (pd_int) (pda_nil))))))))
/-! ### _law_draw -/
abbrev N_L_draw : List Str := ["pool", "many", "drawn", "mixed"]
def t_L_draw : DS := sSeq (sIf (dB (dOp rGtD (dOp (rF ixF) (dVar 0) (dC (.int 0))) (dC (.int 0)))) (sSeq (sAsg (dOp rModD (dCall rIntD1 (dCons (dOp (rF ixF) (dVar 0) (dC (.int 0))) (dNil))) (dVar 1)) (.nm 2)) (sSeq (sSub (dOp rFdivD (dOp (rF ixF) (dVar 0) (dC (.int 0))) (dVar 1)) (dVar 0) (dC (.int 0))) (sRet (dVar 2)))) (sNext)) (sSeq (sSub (dOp rAddD (dOp (rF ixF) (dVar 0) (dC (.int 2))) (dC (.int 1))) (dVar 0) (dC (.int 2))) (sSeq (sAsg (dOp rModD (dCall rIntD1 (dCons (dOp rPowD (dOp rAddD (dOp (rF ixF) (dVar 0) (dC (.int 1))) (dOp rMulD (dC (.int 15485863)) (dOp (rF ixF) (dVar 0) (dC (.int 2))))) (dC (.int 3))) (dNil))) (dC (.int 162259276829213363391578010288127))) (.nm 3)) (sSeq (sAsg (dOp rModD (dCall rIntD1 (dCons (dOp rPowD (dOp rAddD (dVar 3) (dOp rMulD (dC (.int 32452843)) (dOp (rF ixF) (dVar 0) (dC (.int 2))))) (dC (.int 3))) (dNil))) (dC (.int 170141183460469231731687303715884105727))) (.nm 3)) (sRet (dOp rModD (dCall rIntD1 (dCons (dOp rFdivD (dVar 3) (dC (.int 1048576))) (dNil))) (dVar 1))))))
theorem sc_L_draw : FnScope N_L_draw ["pool", "many"] (defScope s_L_draw) := ⟨rfl, rfl, rfl, by decide +kernel, rfl, by decide +kernel, by decide +kernel⟩
theorem pds_L_draw {G : Gx} (m_int : G.mg "int" = none) : PDs G 0 N_L_draw ⟨defScope s_L_draw, fun _ => true⟩ (defBody s_L_draw) t_L_draw :=
  pdss_cons (psd_if (pt_cmpD od_gt (pd_ix (pd_var 0 rfl (by decide +kernel)) (pd_int) (fun _ _ => rfl)) (pd_int) rfl) (pdss_cons (psd_asg (pd_op od_mod (pd_callTy cd_int1 (by decide +kernel) m_int (by decide +kernel) (pda_cons (pd_ix (pd_var 0 rfl (by decide +kernel)) (pd_int) (fun _ _ => rfl)) (pda_nil)) (by decide)) (pd_var 1 rfl (by decide +kernel))) (pgd_nm 2 rfl (by decide +kernel))) (pdss_cons (psd_sub (pd_op od_fdiv (pd_ix (pd_var 0 rfl (by decide +kernel)) (pd_int) (fun _ _ => rfl)) (pd_var 1 rfl (by decide +kernel))) (pd_var 0 rfl (by decide +kernel)) (pd_int) (fun _ _ _ _ ho hi => pg_sub ho hi set_list)) (pdss_one (psd_ret (pd_var 2 rfl (by decide +kernel)))))) (pdss_nil)) (pdss_cons (psd_sub (pd_op od_add (pd_ix (pd_var 0 rfl (by decide +kernel)) (pd_int) (fun _ _ => rfl)) (pd_int)) (pd_var 0 rfl (by decide +kernel)) (pd_int) (fun _ _ _ _ ho hi => pg_sub ho hi set_list)) (pdss_cons (psd_asg (pd_op od_mod (pd_callTy cd_int1 (by decide +kernel) m_int (by decide +kernel) (pda_cons (pd_op od_pow (pd_op od_add (pd_ix (pd_var 0 rfl (by decide +kernel)) (pd_int) (fun _ _ => rfl)) (pd_op od_mul (pd_int) (pd_ix (pd_var 0 rfl (by decide +kernel)) (pd_int) (fun _ _ => rfl)))) (pd_int)) (pda_nil)) (by decide)) (pd_int)) (pgd_nm 3 rfl (by decide +kernel))) (pdss_cons (psd_asg (pd_op od_mod (pd_callTy cd_int1 (by decide +kernel) m_int (by decide +kernel) (pda_cons (pd_op od_pow (pd_op od_add (pd_var 3 rfl (by decide +kernel)) (pd_op od_mul (pd_int) (pd_ix (pd_var 0 rfl (by decide +kernel)) (pd_int) (fun _ _ => rfl)))) (pd_int)) (pda_nil)) (by decide)) (pd_int)) (pgd_nm 3 rfl (by decide +kernel))) (pdss_one (psd_ret (pd_op od_mod (pd_callTy cd_int1 (by decide +kernel) m_int (by decide +kernel) (pda_cons (pd_op od_fdiv (pd_var 3 rfl (by decide +kernel)) (pd_int)) (pda_nil)) (by decide)) (pd_var 1 rfl (by decide +kernel))))))))
/-! ### _law_factor -/
abbrev N_L_factor : List Str := ["pool", "small", "great"]
def t_L_factor : DS := sSeq (sPar [1, 2] (dCons (dOp rAddD (dC (.int 1)) (dCallF 2 sp_L_draw (dCons (dVar 0) (dCons (dC (.int 3)) (dNil))))) (dCons (dOp rAddD (dC (.int 1)) (dCallF 2 sp_L_draw (dCons (dVar 0) (dCons (dC (.int 9)) (dNil))))) (dNil)))) (sRet (dOp rMulD (dOp (rF ixF) (dLst (dCons (dC (.int 1)) (dCons (dC (.int 1)) (dCons (dVar 1) (dCons (dVar 2) (dNil)))))) (dCallF 2 sp_L_draw (dCons (dVar 0) (dCons (dC (.int 4)) (dNil))))) (dOp rSubD (dC (.int 1)) (dOp rMulD (dC (.int 2)) (dCallF 2 sp_L_draw (dCons (dVar 0) (dCons (dC (.int 2)) (dNil))))))))
theorem sc_L_factor : FnScope N_L_factor ["pool"] (defScope s_L_factor) := ⟨rfl, rfl, rfl, by decide +kernel, rfl, by decide +kernel, by decide +kernel⟩
theorem pds_L_factor {G : Gx} {f_L_draw : Addr} (d_L_draw : Def G 1 f_L_draw ["pool", "many"] sp_L_draw) (m__law_draw : G.mg "_law_draw" = some (.ref f_L_draw)) : PDs G 1 N_L_factor ⟨defScope s_L_factor, fun _ => true⟩ (defBody s_L_factor) t_L_factor :=
  pdss_cons (psd_par rfl rfl (by decide) (by decide +kernel) (by decide +kernel) (pda_cons (pd_op od_add (pd_int) (pd_call d_L_draw (by decide) m__law_draw (by decide +kernel) (pda_cons (pd_var 0 rfl (by decide +kernel)) (pda_cons (pd_int) (pda_nil))))) (pda_cons (pd_op od_add (pd_int) (pd_call d_L_draw (by decide) m__law_draw (by decide +kernel) (pda_cons (pd_var 0 rfl (by decide +kernel)) (pda_cons (pd_int) (pda_nil))))) (pda_nil)))) (pdss_one (psd_ret (pd_op od_mul (pd_ix (pd_lst (pda_cons (pd_int) (pda_cons (pd_int) (pda_cons (pd_var 1 rfl (by decide +kernel)) (pda_cons (pd_var 2 rfl (by decide +kernel)) (pda_nil)))))) (pd_call d_L_draw (by decide) m__law_draw (by decide +kernel) (pda_cons (pd_var 0 rfl (by decide +kernel)) (pda_cons (pd_int) (pda_nil)))) (fun _ _ => rfl)) (pd_op od_sub (pd_int) (pd_op od_mul (pd_int) (pd_call d_L_draw (by decide) m__law_draw (by decide +kernel) (pda_cons (pd_var 0 rfl (by decide +kernel)) (pda_cons (pd_int) (pda_nil)))))))))
/-! ### _law_pane -/
abbrev N_L_pane : List Str := ["pool", "letters", "many", "turn"]
def t_L_pane : DS := sSeq (sAsg (dOp (rF ixF) (dLst (dCons (dC (.int 0)) (dCons (dC (.int 1)) (dCons (dC (.int 1)) (dCons (dC (.int 2)) (dCons (dC (.int 2)) (dCons (dC (.int 3)) (dNil)))))))) (dCallF 2 sp_L_draw (dCons (dVar 0) (dCons (dC (.int 6)) (dNil))))) (.nm 2)) (sRet (dLc (iRngD1 (dCons (dVar 2) (dNil))) (.nm 3) (dYes) (dTup (dCons (dCallF 1 sp_L_factor (dCons (dVar 0) (dNil))) (dCons (dOp (rF ixF) (dVar 1) (dCallF 2 sp_L_draw (dCons (dVar 0) (dCons (dCall rLenD (dCons (dVar 1) (dNil))) (dNil))))) (dNil)))) [3]))
theorem sc_L_pane : FnScope N_L_pane ["pool", "letters"] (defScope s_L_pane) := ⟨rfl, rfl, rfl, by decide +kernel, rfl, by decide +kernel, by decide +kernel⟩
theorem pds_L_pane {G : Gx} {f_L_draw f_L_factor : Addr} (d_L_draw : Def G 1 f_L_draw ["pool", "many"] sp_L_draw) (m__law_draw : G.mg "_law_draw" = some (.ref f_L_draw)) (m_range : G.mg "range" = none) (m_len : G.mg "len" = none) (d_L_factor : Def G 2 f_L_factor ["pool"] sp_L_factor) (m__law_factor : G.mg "_law_factor" = some (.ref f_L_factor)) : PDs G 2 N_L_pane ⟨defScope s_L_pane, fun _ => true⟩ (defBody s_L_pane) t_L_pane :=
  pdss_cons (psd_asg (pd_ix (pd_lst (pda_cons (pd_int) (pda_cons (pd_int) (pda_cons (pd_int) (pda_cons (pd_int) (pda_cons (pd_int) (pda_cons (pd_int) (pda_nil)))))))) (pd_call d_L_draw (by decide) m__law_draw (by decide +kernel) (pda_cons (pd_var 0 rfl (by decide +kernel)) (pda_cons (pd_int) (pda_nil)))) (fun _ _ => rfl)) (pgd_nm 2 rfl (by decide +kernel))) (pdss_one (psd_ret (pd_lc [("turn", 3)] (by decide +kernel) (by decide) (pdi_rng1 (by decide +kernel) m_range (pda_cons (pd_var 2 rfl (by decide +kernel)) (pda_nil))) (pgd_nm 3 rfl (by decide +kernel)) (pdts_nil) (pd_tup (pda_cons (pd_call d_L_factor (by decide) m__law_factor (by decide +kernel) (pda_cons (pd_var 0 rfl (by decide +kernel)) (pda_nil))) (pda_cons (pd_ix (pd_var 1 rfl (by decide +kernel)) (pd_call d_L_draw (by decide) m__law_draw (by decide +kernel) (pda_cons (pd_var 0 rfl (by decide +kernel)) (pda_cons (pd_callB cd_len (by decide +kernel) m_len (by decide +kernel) (pda_cons (pd_var 1 rfl (by decide +kernel)) (pda_nil)) (by decide)) (pda_nil)))) (fun _ _ => rfl)) (pda_nil)))))))
/-! ### _law_kind -/
abbrev N_L_kind : List Str := ["pool", "many", "base_here", "letters", "lines", "letter", "begin", "panes", "down", "along"]
def b_L_kind_0 : DS := sDrop (dMt rAppD (dVar 7) (dCons (dLc (iRngD1 (dCons (dVar 2) (dNil))) (.nm 9) (dYes) (dCallF 2 sp_L_pane (dCons (dVar 0) (dCons (dVar 3) (dNil)))) [9]) (dNil)))
def b_L_kind_1 : DS := sSeq (sPar [6, 7] (dCons (dOp (rF ixF) (dLst (dCons (dC (.int 0)) (dCons (dC (.int 1)) (dCons (dC (.int 1)) (dCons (dOp rSubD (dCallF 2 sp_L_draw (dCons (dVar 0) (dCons (dC (.int 19)) (dNil)))) (dC (.int 9))) (dNil)))))) (dCallF 2 sp_L_draw (dCons (dVar 0) (dCons (dC (.int 4)) (dNil))))) (dCons (dNew (dNil)) (dNil)))) (sSeq (sFor (iRngD1 (dCons (dVar 2) (dNil))) (.nm 8) (b_L_kind_0)) (sDrop (dMt rInsD (dVar 4) (dCons (dCallF 2 sp_L_draw (dCons (dVar 0) (dCons (dOp rAddD (dCall rLenD (dCons (dVar 4) (dNil))) (dC (.int 1))) (dNil)))) (dCons (dTup (dCons (dVar 5) (dCons (dVar 6) (dCons (dFrz 7) (dNil))))) (dNil))))))
def t_L_kind : DS := sSeq (sAsg (dOp (rF ixF) (dLst (dCons (dC (.int 2)) (dCons (dC (.int 2)) (dCons (dC (.int 3)) (dNil))))) (dCallF 2 sp_L_draw (dCons (dVar 0) (dCons (dC (.int 3)) (dNil))))) (.nm 2)) (sSeq (sAsg (dSlice (dLst (dCons (dC (.str "t")) (dCons (dC (.str "d")) (dCons (dC (.str "u")) (dCons (dC (.str "f")) (dCons (dC (.str "q")) (dCons (dC (.str "w")) (dNil)))))))) (dNoPart) (dPart (dOp rAddD (dC (.int 1)) (dCallF 2 sp_L_draw (dCons (dVar 0) (dCons (dIf (dB (dOp rEqualD (dVar 2) (dC (.int 2)))) (dVar 1) (dCall rMinD2 (dCons (dVar 1) (dCons (dC (.int 3)) (dNil))))) (dNil))))))) (.nm 3)) (sSeq (sAsg (dNew (dNil)) (.nm 4)) (sSeq (sFor (iLst (dVar 3)) (.nm 5) (b_L_kind_1)) (sRet (dTup (dCons (dVar 2) (dCons (dFrz 4) (dNil))))))))
theorem sc_L_kind : FnScope N_L_kind ["pool", "many"] (defScope s_L_kind) := ⟨rfl, rfl, rfl, by decide +kernel, rfl, by decide +kernel, by decide +kernel⟩
theorem pds_L_kind {G : Gx} {f_L_draw f_L_pane : Addr} (d_L_draw : Def G 1 f_L_draw ["pool", "many"] sp_L_draw) (m__law_draw : G.mg "_law_draw" = some (.ref f_L_draw)) (m_min : G.mg "min" = none) (m_range : G.mg "range" = none) (d_L_pane : Def G 3 f_L_pane ["pool", "letters"] sp_L_pane) (m__law_pane : G.mg "_law_pane" = some (.ref f_L_pane)) (m_len : G.mg "len" = none) : PDs G 3 N_L_kind ⟨defScope s_L_kind, fun _ => true⟩ (defBody s_L_kind) t_L_kind :=
  pdss_cons (psd_asg (pd_ix (pd_lst (pda_cons (pd_int) (pda_cons (pd_int) (pda_cons (pd_int) (pda_nil))))) (pd_call d_L_draw (by decide) m__law_draw (by decide +kernel) (pda_cons (pd_var 0 rfl (by decide +kernel)) (pda_cons (pd_int) (pda_nil)))) (fun _ _ => rfl)) (pgd_nm 2 rfl (by decide +kernel))) (pdss_cons (psd_asg (pd_slice (pd_lst (pda_cons (pd_str) (pda_cons (pd_str) (pda_cons (pd_str) (pda_cons (pd_str) (pda_cons (pd_str) (pda_cons (pd_str) (pda_nil)))))))) (pdo_none) (pdo_some (pd_op od_add (pd_int) (pd_call d_L_draw (by decide) m__law_draw (by decide +kernel) (pda_cons (pd_var 0 rfl (by decide +kernel)) (pda_cons (pd_ifExp (pt_cmpD od_eq (pd_var 2 rfl (by decide +kernel)) (pd_int) rfl) (pd_var 1 rfl (by decide +kernel)) (pd_callB cd_min2 (by decide +kernel) m_min (by decide +kernel) (pda_cons (pd_var 1 rfl (by decide +kernel)) (pda_cons (pd_int) (pda_nil))) (by decide))) (pda_nil))))))) (pgd_nm 3 rfl (by decide +kernel))) (pdss_cons (psd_asg (pd_new (pda_nil)) (pgd_nm 4 rfl (by decide +kernel))) (pdss_cons (psd_for (pdi_lst (pd_var 3 rfl (by decide +kernel))) (pgd_nm 5 rfl (by decide +kernel)) (pdss_cons (psd_par rfl rfl (by decide) (by decide +kernel) (by decide +kernel) (pda_cons (pd_ix (pd_lst (pda_cons (pd_int) (pda_cons (pd_int) (pda_cons (pd_int) (pda_cons (pd_op od_sub (pd_call d_L_draw (by decide) m__law_draw (by decide +kernel) (pda_cons (pd_var 0 rfl (by decide +kernel)) (pda_cons (pd_int) (pda_nil)))) (pd_int)) (pda_nil)))))) (pd_call d_L_draw (by decide) m__law_draw (by decide +kernel) (pda_cons (pd_var 0 rfl (by decide +kernel)) (pda_cons (pd_int) (pda_nil)))) (fun _ _ => rfl)) (pda_cons (pd_new (pda_nil)) (pda_nil)))) (pdss_cons (psd_for (pdi_rng1 (by decide +kernel) m_range (pda_cons (pd_var 2 rfl (by decide +kernel)) (pda_nil))) (pgd_nm 8 rfl (by decide +kernel)) (pdss_one (psd_expr (pd_mt PySem.F.plainAttrs_list PySem.F.slot_list_append PySem.F.type_list_append md_append (pd_var 7 rfl (by decide +kernel)) (pda_cons (pd_lc [("along", 9)] (by decide +kernel) (by decide) (pdi_rng1 (by decide +kernel) m_range (pda_cons (pd_var 2 rfl (by decide +kernel)) (pda_nil))) (pgd_nm 9 rfl (by decide +kernel)) (pdts_nil) (pd_call d_L_pane (by decide) m__law_pane (by decide +kernel) (pda_cons (pd_var 0 rfl (by decide +kernel)) (pda_cons (pd_var 3 rfl (by decide +kernel)) (pda_nil))))) (pda_nil)))))) (pdss_one (psd_expr (pd_mt PySem.F.plainAttrs_list PySem.F.slot_list_insert PySem.F.type_list_insert md_insert (pd_var 4 rfl (by decide +kernel)) (pda_cons (pd_call d_L_draw (by decide) m__law_draw (by decide +kernel) (pda_cons (pd_var 0 rfl (by decide +kernel)) (pda_cons (pd_op od_add (pd_callB cd_len (by decide +kernel) m_len (by decide +kernel) (pda_cons (pd_var 4 rfl (by decide +kernel)) (pda_nil)) (by decide)) (pd_int)) (pda_nil)))) (pda_cons (pd_tup (pda_cons (pd_var 5 rfl (by decide +kernel)) (pda_cons (pd_var 6 rfl (by decide +kernel)) (pda_cons (pd_frz 7 rfl (by decide +kernel)) (pda_nil))))) (pda_nil))))))))) (pdss_one (psd_ret (pd_tup (pda_cons (pd_var 2 rfl (by decide +kernel)) (pda_cons (pd_frz 4 rfl (by decide +kernel)) (pda_nil)))))))))
/-! ### _law_made -/
abbrev N_L_made : List Str := ["kind", "lines", "letter", "begin", "panes", "pane", "line"]
def b_L_made_0 : DS := sDrop (dMt rAppD (dVar 1) (dCons (dTup (dCons (dVar 2) (dCons (dVar 3) (dCons (dLc (iLst (dVar 4)) (.nm 6) (dYes) (dLc (iLst (dVar 6)) (.nm 5) (dYes) (dCall rListD (dCons (dVar 5) (dNil))) [5]) [6]) (dNil))))) (dNil)))
def t_L_made : DS := sSeq (sAsg (dNew (dNil)) (.nm 1)) (sSeq (sFor (iLst (dOp (rF ixF) (dVar 0) (dC (.int 1)))) (.tp [2, 3, 4]) (b_L_made_0)) (sRet (dMake "Book" 3 sp_Book__init (dCons (dOp (rF ixF) (dVar 0) (dC (.int 0))) (dCons (dFrz 1) (dNil))))))
theorem sc_L_made : FnScope N_L_made ["kind"] (defScope s_L_made) := ⟨rfl, rfl, rfl, by decide +kernel, rfl, by decide +kernel, by decide +kernel⟩
theorem pds_L_made {G : Gx} {f_Book__init : Addr} (m_list : G.mg "list" = none) (d_Book__init : Def G 3 f_Book__init ["self", "base", "named"] sp_Book__init) (k_Book : MakeOk G "Book" f_Book__init) : PDs G 4 N_L_made ⟨defScope s_L_made, fun _ => true⟩ (defBody s_L_made) t_L_made :=
  pdss_cons (psd_asg (pd_new (pda_nil)) (pgd_nm 1 rfl (by decide +kernel))) (pdss_cons (psd_for (pdi_lst (pd_ix (pd_var 0 rfl (by decide +kernel)) (pd_int) (fun _ _ => rfl))) (pgd_tup (pgsd_cons 2 rfl (by decide +kernel) (pgsd_cons 3 rfl (by decide +kernel) (pgsd_cons 4 rfl (by decide +kernel) (pgsd_nil))))) (pdss_one (psd_expr (pd_mt PySem.F.plainAttrs_list PySem.F.slot_list_append PySem.F.type_list_append md_append (pd_var 1 rfl (by decide +kernel)) (pda_cons (pd_tup (pda_cons (pd_var 2 rfl (by decide +kernel)) (pda_cons (pd_var 3 rfl (by decide +kernel)) (pda_cons (pd_lc [("line", 6)] (by decide +kernel) (by decide) (pdi_lst (pd_var 4 rfl (by decide +kernel))) (pgd_nm 6 rfl (by decide +kernel)) (pdts_nil) (pd_lc [("pane", 5)] (by decide +kernel) (by decide) (pdi_lst (pd_var 6 rfl (by decide +kernel))) (pgd_nm 5 rfl (by decide +kernel)) (pdts_nil) (pd_callTy cd_list (by decide +kernel) m_list (by decide +kernel) (pda_cons (pd_var 5 rfl (by decide +kernel)) (pda_nil)) (by decide)))) (pda_nil))))) (pda_nil)))))) (pdss_one (psd_ret (pd_make d_Book__init (by decide) k_Book (by decide +kernel) (pda_cons (pd_ix (pd_var 0 rfl (by decide +kernel)) (pd_int) (fun _ _ => rfl)) (pda_cons (pd_frz 1 rfl (by decide +kernel)) (pda_nil)))))))
/-! ### _law_parts -/
abbrev N_L_parts : List Str := ["pool", "kind", "many", "at", "spot"]
def t_L_parts : DS := sSeq (sAsg (dCall rLenD (dCons (dOp (rF ixF) (dVar 1) (dC (.int 1))) (dNil))) (.nm 2)) (sSeq (sAsg (dCallF 2 sp_L_draw (dCons (dVar 0) (dCons (dVar 2) (dNil)))) (.nm 3)) (sSeq (sIf (dB (dOp rEqualD (dCallF 2 sp_L_draw (dCons (dVar 0) (dCons (dC (.int 2)) (dNil)))) (dC (.int 0)))) (sRet (dLc (iRngD1 (dCons (dVar 2) (dNil))) (.nm 4) (dYes) (dCall rIntD1 (dCons (dOp rEqualD (dVar 4) (dVar 3)) (dNil))) [4])) (sNext)) (sRet (dLc (iRngD1 (dCons (dVar 2) (dNil))) (.nm 4) (dYes) (dOp (rF ixF) (dLst (dCons (dC (.int 0)) (dCons (dC (.int 1)) (dCons (dOp rSubD (dCallF 2 sp_L_draw (dCons (dVar 0) (dCons (dC (.int 19)) (dNil)))) (dC (.int 9))) (dNil))))) (dCallF 2 sp_L_draw (dCons (dVar 0) (dCons (dC (.int 3)) (dNil))))) [4]))))
theorem sc_L_parts : FnScope N_L_parts ["pool", "kind"] (defScope s_L_parts) := ⟨rfl, rfl, rfl, by decide +kernel, rfl, by decide +kernel, by decide +kernel⟩
theorem pds_L_parts {G : Gx} {f_L_draw : Addr} (m_len : G.mg "len" = none) (d_L_draw : Def G 1 f_L_draw ["pool", "many"] sp_L_draw) (m__law_draw : G.mg "_law_draw" = some (.ref f_L_draw)) (m_range : G.mg "range" = none) (m_int : G.mg "int" = none) : PDs G 1 N_L_parts ⟨defScope s_L_parts, fun _ => true⟩ (defBody s_L_parts) t_L_parts :=
  pdss_cons (psd_asg (pd_callB cd_len (by decide +kernel) m_len (by decide +kernel) (pda_cons (pd_ix (pd_var 1 rfl (by decide +kernel)) (pd_int) (fun _ _ => rfl)) (pda_nil)) (by decide)) (pgd_nm 2 rfl (by decide +kernel))) (pdss_cons (psd_asg (pd_call d_L_draw (by decide) m__law_draw (by decide +kernel) (pda_cons (pd_var 0 rfl (by decide +kernel)) (pda_cons (pd_var 2 rfl (by decide +kernel)) (pda_nil)))) (pgd_nm 3 rfl (by decide +kernel))) (pdss_cons (psd_if (pt_cmpD od_eq (pd_call d_L_draw (by decide) m__law_draw (by decide +kernel) (pda_cons (pd_var 0 rfl (by decide +kernel)) (pda_cons (pd_int) (pda_nil)))) (pd_int) rfl) (pdss_one (psd_ret (pd_lc [("spot", 4)] (by decide +kernel) (by decide) (pdi_rng1 (by decide +kernel) m_range (pda_cons (pd_var 2 rfl (by decide +kernel)) (pda_nil))) (pgd_nm 4 rfl (by decide +kernel)) (pdts_nil) (pd_callTy cd_int1 (by decide +kernel) m_int (by decide +kernel) (pda_cons (pd_cmp od_eq (pd_var 4 rfl (by decide +kernel)) (pd_var 3 rfl (by decide +kernel)) rfl) (pda_nil)) (by decide))))) (pdss_nil)) (pdss_one (psd_ret (pd_lc [("spot", 4)] (by decide +kernel) (by decide) (pdi_rng1 (by decide +kernel) m_range (pda_cons (pd_var 2 rfl (by decide +kernel)) (pda_nil))) (pgd_nm 4 rfl (by decide +kernel)) (pdts_nil) (pd_ix (pd_lst (pda_cons (pd_int) (pda_cons (pd_int) (pda_cons (pd_op od_sub (pd_call d_L_draw (by decide) m__law_draw (by decide +kernel) (pda_cons (pd_var 0 rfl (by decide +kernel)) (pda_cons (pd_int) (pda_nil)))) (pd_int)) (pda_nil))))) (pd_call d_L_draw (by decide) m__law_draw (by decide +kernel) (pda_cons (pd_var 0 rfl (by decide +kernel)) (pda_cons (pd_int) (pda_nil)))) (fun _ _ => rfl)))))))
/-! ### _law_base_table -/
abbrev N_L_base_table : List Str := ["pool", "base_here", "many", "kind", "size", "panes", "along", "down", "other"]
def t_L_base_table : DS := sSeq (sAsg (dCallF 2 sp_L_kind (dCons (dVar 0) (dCons (dVar 2) (dNil)))) (.nm 3)) (sSeq (sIf (dB (dOp rDiffD (dOp (rF ixF) (dVar 3) (dC (.int 0))) (dVar 1))) (sSeq (sAsg (dOp rAddD (dC (.int 1)) (dCallF 2 sp_L_draw (dCons (dVar 0) (dCons (dC (.int 4)) (dNil))))) (.nm 4)) (sSeq (sSetLc 5 (dLc (iRngD1 (dCons (dVar 1) (dNil))) (.nm 7) (dYes) (dLcC (iRngD1 (dCons (dVar 1) (dNil))) (.nm 6) (dYes) (dLst (dCons (dTup (dCons (dC (.int 1)) (dCons (dC (.str "t")) (dNil)))) (dNil))) [6]) [7])) (sSeq (sSub (dLst (dCons (dTup (dCons (dVar 4) (dCons (dC (.str "u")) (dNil)))) (dNil))) (dOp (rF ixF) (dVar 5) (dC (.int 0))) (dOp rSubD (dVar 1) (dC (.int 1)))) (sSeq (sSetLc 8 (dLc (iRngD1 (dCons (dVar 1) (dNil))) (.nm 7) (dYes) (dLcC (iRngD1 (dCons (dVar 1) (dNil))) (.nm 6) (dYes) (dLst (dNil)) [6]) [7])) (sSeq (sSub (dLst (dCons (dTup (dCons (dC (.int 1)) (dCons (dC (.str "u")) (dNil)))) (dCons (dTup (dCons (dNeg (dC (.int 1))) (dCons (dC (.str "t")) (dNil)))) (dNil)))) (dOp (rF ixF) (dVar 8) (dC (.int 1))) (dC (.int 0))) (sSeq (sAsg (dTup (dCons (dVar 1) (dCons (dSlice (dLst (dCons (dTup (dCons (dC (.str "t")) (dCons (dC (.int 1)) (dCons (dFrzD 5) (dNil))))) (dCons (dTup (dCons (dC (.str "u")) (dCons (dVar 4) (dCons (dFrzD 8) (dNil))))) (dNil)))) (dNoPart) (dPart (dVar 2))) (dNil)))) (.nm 3)) (sIf (dB (dOp rLtD (dVar 2) (dC (.int 2)))) (sNever) (sNext)))))))) (sNext)) (sRet (dTup (dCons (dVar 3) (dCons (dCallF 2 sp_L_parts (dCons (dVar 0) (dCons (dVar 3) (dNil)))) (dNil))))))
theorem sc_L_base_table : FnScope N_L_base_table ["pool", "base_here", "many"] (defScope s_L_base_table) := ⟨rfl, rfl, rfl, by decide +kernel, rfl, by decide +kernel, by decide +kernel⟩
theorem pds_L_base_table {G : Gx} {f_L_kind f_L_draw f_L_parts : Addr} (d_L_kind : Def G 4 f_L_kind ["pool", "many"] sp_L_kind) (m__law_kind : G.mg "_law_kind" = some (.ref f_L_kind)) (d_L_draw : Def G 1 f_L_draw ["pool", "many"] sp_L_draw) (m__law_draw : G.mg "_law_draw" = some (.ref f_L_draw)) (m_range : G.mg "range" = none) (d_L_parts : Def G 2 f_L_parts ["pool", "kind"] sp_L_parts) (m__law_parts : G.mg "_law_parts" = some (.ref f_L_parts)) : PDs G 4 N_L_base_table ⟨defScope s_L_base_table, fun _ => true⟩ (defBody s_L_base_table) t_L_base_table :=
  pdss_cons (psd_asg (pd_call d_L_kind (by decide) m__law_kind (by decide +kernel) (pda_cons (pd_var 0 rfl (by decide +kernel)) (pda_cons (pd_var 2 rfl (by decide +kernel)) (pda_nil)))) (pgd_nm 3 rfl (by decide +kernel))) (pdss_cons (psd_if (pt_cmpD od_ne (pd_ix (pd_var 3 rfl (by decide +kernel)) (pd_int) (fun _ _ => rfl)) (pd_var 1 rfl (by decide +kernel)) rfl) (pdss_cons (psd_asg (pd_op od_add (pd_int) (pd_call d_L_draw (by decide) m__law_draw (by decide +kernel) (pda_cons (pd_var 0 rfl (by decide +kernel)) (pda_cons (pd_int) (pda_nil))))) (pgd_nm 4 rfl (by decide +kernel))) (pdss_cons (psd_setLc 5 [("down", 7)] rfl (by decide +kernel) rfl rfl (by decide +kernel)  (by decide +kernel) (by decide) (pdi_rng1 (by decide +kernel) m_range (pda_cons (pd_var 1 rfl (by decide +kernel)) (pda_nil))) (pgd_nm 7 rfl (by decide +kernel)) (pdts_nil) (pd_lcC [("along", 6)] (by decide +kernel) (by decide) (pdi_rng1 (by decide +kernel) m_range (pda_cons (pd_var 1 rfl (by decide +kernel)) (pda_nil))) (pgd_nm 6 rfl (by decide +kernel)) (pdts_nil) (pd_lst (pda_cons (pd_tup (pda_cons (pd_int) (pda_cons (pd_str) (pda_nil)))) (pda_nil))))) (pdss_cons (psd_sub (pd_lst (pda_cons (pd_tup (pda_cons (pd_var 4 rfl (by decide +kernel)) (pda_cons (pd_str) (pda_nil)))) (pda_nil))) (pd_ix (pd_var 5 rfl (by decide +kernel)) (pd_int) (fun _ _ => rfl)) (pd_op od_sub (pd_var 1 rfl (by decide +kernel)) (pd_int)) (fun _ _ _ _ ho hi => pg_sub ho hi set_list)) (pdss_cons (psd_setLc 8 [("down", 7)] rfl (by decide +kernel) rfl rfl (by decide +kernel)  (by decide +kernel) (by decide) (pdi_rng1 (by decide +kernel) m_range (pda_cons (pd_var 1 rfl (by decide +kernel)) (pda_nil))) (pgd_nm 7 rfl (by decide +kernel)) (pdts_nil) (pd_lcC [("along", 6)] (by decide +kernel) (by decide) (pdi_rng1 (by decide +kernel) m_range (pda_cons (pd_var 1 rfl (by decide +kernel)) (pda_nil))) (pgd_nm 6 rfl (by decide +kernel)) (pdts_nil) (pd_lst (pda_nil)))) (pdss_cons (psd_sub (pd_lst (pda_cons (pd_tup (pda_cons (pd_int) (pda_cons (pd_str) (pda_nil)))) (pda_cons (pd_tup (pda_cons (pd_neg (pd_int)) (pda_cons (pd_str) (pda_nil)))) (pda_nil)))) (pd_ix (pd_var 8 rfl (by decide +kernel)) (pd_int) (fun _ _ => rfl)) (pd_int) (fun _ _ _ _ ho hi => pg_sub ho hi set_list)) (pdss_cons (psd_asg (pd_tup (pda_cons (pd_var 1 rfl (by decide +kernel)) (pda_cons (pd_slice (pd_lst (pda_cons (pd_tup (pda_cons (pd_str) (pda_cons (pd_int) (pda_cons (pd_frzD 5 rfl (by decide +kernel)) (pda_nil))))) (pda_cons (pd_tup (pda_cons (pd_str) (pda_cons (pd_var 4 rfl (by decide +kernel)) (pda_cons (pd_frzD 8 rfl (by decide +kernel)) (pda_nil))))) (pda_nil)))) (pdo_none) (pdo_some (pd_var 2 rfl (by decide +kernel)))) (pda_nil)))) (pgd_nm 3 rfl (by decide +kernel))) (pdss_one (psd_if (pt_cmpD od_lt (pd_var 2 rfl (by decide +kernel)) (pd_int) rfl) (pdss_one (psd_never)) (pdss_nil))))))))) (pdss_nil)) (pdss_one (psd_ret (pd_tup (pda_cons (pd_var 3 rfl (by decide +kernel)) (pda_cons (pd_call d_L_parts (by decide) m__law_parts (by decide +kernel) (pda_cons (pd_var 0 rfl (by decide +kernel)) (pda_cons (pd_var 3 rfl (by decide +kernel)) (pda_nil)))) (pda_nil)))))))
/-! ### _law_table_made -/
abbrev N_L_table_made : List Str := ["told"]
def t_L_table_made : DS := sRet (dMake "Table" 3 sp_Table__init (dCons (dCallF 1 sp_L_made (dCons (dOp (rF ixF) (dVar 0) (dC (.int 0))) (dNil))) (dCons (dCall rListD (dCons (dOp (rF ixF) (dVar 0) (dC (.int 1))) (dNil))) (dNil))))
theorem sc_L_table_made : FnScope N_L_table_made ["told"] (defScope s_L_table_made) := ⟨rfl, rfl, rfl, by decide +kernel, rfl, by decide +kernel, by decide +kernel⟩
theorem pds_L_table_made {G : Gx} {f_Table__init f_L_made : Addr} (d_Table__init : Def G 3 f_Table__init ["self", "book", "shares"] sp_Table__init) (k_Table : MakeOk G "Table" f_Table__init) (m_list : G.mg "list" = none) (d_L_made : Def G 5 f_L_made ["kind"] sp_L_made) (m__law_made : G.mg "_law_made" = some (.ref f_L_made)) : PDs G 5 N_L_table_made ⟨defScope s_L_table_made, fun _ => true⟩ (defBody s_L_table_made) t_L_table_made :=
  pdss_one (psd_ret (pd_make d_Table__init (by decide) k_Table (by decide +kernel) (pda_cons (pd_call d_L_made (by decide) m__law_made (by decide +kernel) (pda_cons (pd_ix (pd_var 0 rfl (by decide +kernel)) (pd_int) (fun _ _ => rfl)) (pda_nil))) (pda_cons (pd_callTy cd_list (by decide +kernel) m_list (by decide +kernel) (pda_cons (pd_ix (pd_var 0 rfl (by decide +kernel)) (pd_int) (fun _ _ => rfl)) (pda_nil)) (by decide)) (pda_nil)))))
/-! ### _law_others_right -/
abbrev N_L_others_right : List Str := ["base_here", "panes", "along", "down", "later", "other", "third", "tied", "bare", "twin"]
def t_L_others_right (G : Gx) : DS := sSeq (sSetLc 1 (dLc (iRngD1 (dCons (dVar 0) (dNil))) (.nm 3) (dYes) (dLc (iRngD1 (dCons (dVar 0) (dNil))) (.nm 2) (dYes) (dLst (dNil)) [2]) [3])) (sSeq (sPar [4, 5, 6] (dCons (dMakeC "Shelf" 2 sp_Shelf__init (dCons (dVar 0) (dNil))) (dCons (dMakeC "Shelf" 2 sp_Shelf__init (dCons (dVar 0) (dNil))) (dCons (dMakeC "Shelf" 2 sp_Shelf__init (dCons (dVar 0) (dNil))) (dNil))))) (sSeq (sDrop (dOrE (dMeth "Shelf" "put" 3 sp_Shelf_put (dVar 4) (dCons (dC (.str "a")) (dCons (dMake "Table" 3 sp_Table__init (dCons (dMake "Book" 3 sp_Book__init (dCons (dVar 0) (dCons (dLst (dNil)) (dNil)))) (dCons (dLst (dNil)) (dNil)))) (dNil)))) (dMeth "SmallShelf" "put" 3 sp_Shelf_put (dVar 4) (dCons (dC (.str "a")) (dCons (dMake "Table" 3 sp_Table__init (dCons (dMake "Book" 3 sp_Book__init (dCons (dVar 0) (dCons (dLst (dNil)) (dNil)))) (dCons (dLst (dNil)) (dNil)))) (dNil)))))) (sSeq (sDrop (dOrE (dMeth "Shelf" "put" 3 sp_Shelf_put (dVar 5) (dCons (dC (.str "a")) (dCons (dMake "Table" 3 sp_Table__init (dCons (dMake "Book" 3 sp_Book__init (dCons (dVar 0) (dCons (dLst (dCons (dTup (dCons (dC (.str "z")) (dCons (dC (.int 0)) (dCons (dVar 1) (dNil))))) (dNil))) (dNil)))) (dCons (dLst (dCons (dC (.int 1)) (dNil))) (dNil)))) (dNil)))) (dMeth "SmallShelf" "put" 3 sp_Shelf_put (dVar 5) (dCons (dC (.str "a")) (dCons (dMake "Table" 3 sp_Table__init (dCons (dMake "Book" 3 sp_Book__init (dCons (dVar 0) (dCons (dLst (dCons (dTup (dCons (dC (.str "z")) (dCons (dC (.int 0)) (dCons (dVar 1) (dNil))))) (dNil))) (dNil)))) (dCons (dLst (dCons (dC (.int 1)) (dNil))) (dNil)))) (dNil)))))) (sSeq (sDrop (dOrE (dMeth "Shelf" "put" 3 sp_Shelf_put (dVar 6) (dCons (dC (.str "c")) (dCons (dMake "Table" 3 sp_Table__init (dCons (dMake "Book" 3 sp_Book__init (dCons (dVar 0) (dCons (dLst (dNil)) (dNil)))) (dCons (dLst (dNil)) (dNil)))) (dNil)))) (dMeth "SmallShelf" "put" 3 sp_Shelf_put (dVar 6) (dCons (dC (.str "c")) (dCons (dMake "Table" 3 sp_Table__init (dCons (dMake "Book" 3 sp_Book__init (dCons (dVar 0) (dCons (dLst (dNil)) (dNil)))) (dCons (dLst (dNil)) (dNil)))) (dNil)))))) (sSeq (sIf (dOr (dB (dOp (rShS) (dVar 4) (dVar 5))) (dB (dOp (rShS) (dVar 4) (dVar 6)))) (sRet (dC (.bl false))) (sNext)) (sSeq (sPar [7, 8] (dCons (dMakeC "SmallShelf" 3 sp_SmallShelf__init (dCons (dVar 0) (dCons (dC (.int 9)) (dNil)))) (dCons (dMakeC "Shelf" 2 sp_Shelf__init (dCons (dVar 0) (dNil))) (dNil)))) (sSeq (sIf (dOr (dNot (dB (dOp (rShT) (dVar 7) (dMakeKC "SmallShelf" 3 [0, 1] 2 sp_SmallShelf__init (dCons (dVar 0) (dCons (dC (.int 9)) (dNil))))))) (dOr (dB (dOp (rShT) (dVar 7) (dVar 8))) (dOr (dB (dOp (rShB) (dVar 8) (dVar 7))) (dNot (dTru (dCall (rIsiD tyCs tySub "Shelf" (G.ca "Shelf")) (dCons (dVar 7) (dCons (dC (.cell (G.ca "Shelf"))) dNil)))))))) (sRet (dC (.bl false))) (sNext)) (sSeq (sIf (dB (dOp (rShT) (dVar 7) (dMakeC "SmallShelf" 3 sp_SmallShelf__init (dCons (dVar 0) (dCons (dC (.int 8)) (dNil)))))) (sRet (dC (.bl false))) (sNext)) (sSeq (sAsg (dMakeC "SmallShelf" 3 sp_SmallShelf__init (dCons (dVar 0) (dCons (dC (.int 9)) (dNil)))) (.nm 9)) (sSeq (sDrop (dOrE (dMeth "Shelf" "put" 3 sp_Shelf_put (dVar 7) (dCons (dC (.str "a")) (dCons (dMake "Table" 3 sp_Table__init (dCons (dMake "Book" 3 sp_Book__init (dCons (dVar 0) (dCons (dLst (dNil)) (dNil)))) (dCons (dLst (dNil)) (dNil)))) (dNil)))) (dMeth "SmallShelf" "put" 3 sp_Shelf_put (dVar 7) (dCons (dC (.str "a")) (dCons (dMake "Table" 3 sp_Table__init (dCons (dMake "Book" 3 sp_Book__init (dCons (dVar 0) (dCons (dLst (dNil)) (dNil)))) (dCons (dLst (dNil)) (dNil)))) (dNil)))))) (sSeq (sIf (dB (dOp (rShT) (dVar 7) (dVar 9))) (sRet (dC (.bl false))) (sNext)) (sSeq (sDrop (dOrE (dMeth "Shelf" "put" 3 sp_Shelf_put (dVar 9) (dCons (dC (.str "a")) (dCons (dMake "Table" 3 sp_Table__init (dCons (dMake "Book" 3 sp_Book__init (dCons (dVar 0) (dCons (dLst (dNil)) (dNil)))) (dCons (dLst (dNil)) (dNil)))) (dNil)))) (dMeth "SmallShelf" "put" 3 sp_Shelf_put (dVar 9) (dCons (dC (.str "a")) (dCons (dMake "Table" 3 sp_Table__init (dCons (dMake "Book" 3 sp_Book__init (dCons (dVar 0) (dCons (dLst (dNil)) (dNil)))) (dCons (dLst (dNil)) (dNil)))) (dNil)))))) (sRet (dAndV (dOp (rShT) (dVar 7) (dVar 9)) (dNotV (dOp (rShT) (dVar 7) (dVar 4)))))))))))))))))
theorem sc_L_others_right : FnScope N_L_others_right ["base_here"] (defScope s_L_others_right) := ⟨rfl, rfl, rfl, by decide +kernel, rfl, by decide +kernel, by decide +kernel⟩
theorem pds_L_others_right {G : Gx} {f_Shelf__init f_Table__init f_Book__init f_Shelf_put f_SmallShelf__init : Addr} (m_range : G.mg "range" = none) (d_Shelf__init : Def G 1 f_Shelf__init ["self", "base"] sp_Shelf__init) (k_Shelf : MakeOk G "Shelf" f_Shelf__init) (d_Table__init : Def G 3 f_Table__init ["self", "book", "shares"] sp_Table__init) (k_Table : MakeOk G "Table" f_Table__init) (d_Book__init : Def G 3 f_Book__init ["self", "base", "named"] sp_Book__init) (k_Book : MakeOk G "Book" f_Book__init) (d_Shelf_put : Def G 7 f_Shelf_put ["self", "title", "table"] sp_Shelf_put) (o_Shelf_put : MethOk G "Shelf" "put" f_Shelf_put) (o_SmallShelf_put : MethOk G "SmallShelf" "put" f_Shelf_put) (ty : Tys G tyCs tySub) (eq_Shelf : EqSh G "Shelf") (d_SmallShelf__init : Def G 2 f_SmallShelf__init ["self", "base", "most"] sp_SmallShelf__init) (k_SmallShelf : MakeOk G "SmallShelf" f_SmallShelf__init) (eq_Small : EqSh G "SmallShelf") (w_SmallShelf : KwFn G f_SmallShelf__init ["self", "base", "most"] 1 ["base", "most"] [0, 1]) (ne_ca : G.ca "SmallShelf" ≠ G.ca "Shelf") (m_isinstance : G.mg "isinstance" = none) (kc_Shelf : G.mg "Shelf" = some (.ref (G.ca "Shelf"))) : PDs G 52 N_L_others_right ⟨defScope s_L_others_right, fun _ => true⟩ (defBody s_L_others_right) (t_L_others_right G) :=
  pdss_cons (psd_setLc 1 [("down", 3)] rfl (by decide +kernel) rfl rfl (by decide +kernel)  (by decide +kernel) (by decide) (pdi_rng1 (by decide +kernel) m_range (pda_cons (pd_var 0 rfl (by decide +kernel)) (pda_nil))) (pgd_nm 3 rfl (by decide +kernel)) (pdts_nil) (pd_lc [("along", 2)] (by decide +kernel) (by decide) (pdi_rng1 (by decide +kernel) m_range (pda_cons (pd_var 0 rfl (by decide +kernel)) (pda_nil))) (pgd_nm 2 rfl (by decide +kernel)) (pdts_nil) (pd_lst (pda_nil)))) (pdss_cons (psd_par3 rfl rfl rfl (by decide) (by decide) (by decide) (by decide +kernel) (by decide +kernel) (by decide +kernel) (pda_cons (pd_makeC d_Shelf__init (by decide) k_Shelf (by decide +kernel) (pda_cons (pd_var 0 rfl (by decide +kernel)) (pda_nil))) (pda_cons (pd_makeC d_Shelf__init (by decide) k_Shelf (by decide +kernel) (pda_cons (pd_var 0 rfl (by decide +kernel)) (pda_nil))) (pda_cons (pd_makeC d_Shelf__init (by decide) k_Shelf (by decide +kernel) (pda_cons (pd_var 0 rfl (by decide +kernel)) (pda_nil))) (pda_nil))))) (pdss_cons (psd_expr (pd_orE (pd_meth d_Shelf_put (by decide) o_Shelf_put (pd_var 4 rfl (by decide +kernel)) (pda_cons (pd_str) (pda_cons (pd_make d_Table__init (by decide) k_Table (by decide +kernel) (pda_cons (pd_make d_Book__init (by decide) k_Book (by decide +kernel) (pda_cons (pd_var 0 rfl (by decide +kernel)) (pda_cons (pd_lst (pda_nil)) (pda_nil)))) (pda_cons (pd_lst (pda_nil)) (pda_nil)))) (pda_nil))) (fun _ => ⟨_, rfl⟩)) (pd_meth d_Shelf_put (by decide) o_SmallShelf_put (pd_var 4 rfl (by decide +kernel)) (pda_cons (pd_str) (pda_cons (pd_make d_Table__init (by decide) k_Table (by decide +kernel) (pda_cons (pd_make d_Book__init (by decide) k_Book (by decide +kernel) (pda_cons (pd_var 0 rfl (by decide +kernel)) (pda_cons (pd_lst (pda_nil)) (pda_nil)))) (pda_cons (pd_lst (pda_nil)) (pda_nil)))) (pda_nil))) (fun _ => ⟨_, rfl⟩)))) (pdss_cons (psd_expr (pd_orE (pd_meth d_Shelf_put (by decide) o_Shelf_put (pd_var 5 rfl (by decide +kernel)) (pda_cons (pd_str) (pda_cons (pd_make d_Table__init (by decide) k_Table (by decide +kernel) (pda_cons (pd_make d_Book__init (by decide) k_Book (by decide +kernel) (pda_cons (pd_var 0 rfl (by decide +kernel)) (pda_cons (pd_lst (pda_cons (pd_tup (pda_cons (pd_str) (pda_cons (pd_int) (pda_cons (pd_var 1 rfl (by decide +kernel)) (pda_nil))))) (pda_nil))) (pda_nil)))) (pda_cons (pd_lst (pda_cons (pd_int) (pda_nil))) (pda_nil)))) (pda_nil))) (fun _ => ⟨_, rfl⟩)) (pd_meth d_Shelf_put (by decide) o_SmallShelf_put (pd_var 5 rfl (by decide +kernel)) (pda_cons (pd_str) (pda_cons (pd_make d_Table__init (by decide) k_Table (by decide +kernel) (pda_cons (pd_make d_Book__init (by decide) k_Book (by decide +kernel) (pda_cons (pd_var 0 rfl (by decide +kernel)) (pda_cons (pd_lst (pda_cons (pd_tup (pda_cons (pd_str) (pda_cons (pd_int) (pda_cons (pd_var 1 rfl (by decide +kernel)) (pda_nil))))) (pda_nil))) (pda_nil)))) (pda_cons (pd_lst (pda_cons (pd_int) (pda_nil))) (pda_nil)))) (pda_nil))) (fun _ => ⟨_, rfl⟩)))) (pdss_cons (psd_expr (pd_orE (pd_meth d_Shelf_put (by decide) o_Shelf_put (pd_var 6 rfl (by decide +kernel)) (pda_cons (pd_str) (pda_cons (pd_make d_Table__init (by decide) k_Table (by decide +kernel) (pda_cons (pd_make d_Book__init (by decide) k_Book (by decide +kernel) (pda_cons (pd_var 0 rfl (by decide +kernel)) (pda_cons (pd_lst (pda_nil)) (pda_nil)))) (pda_cons (pd_lst (pda_nil)) (pda_nil)))) (pda_nil))) (fun _ => ⟨_, rfl⟩)) (pd_meth d_Shelf_put (by decide) o_SmallShelf_put (pd_var 6 rfl (by decide +kernel)) (pda_cons (pd_str) (pda_cons (pd_make d_Table__init (by decide) k_Table (by decide +kernel) (pda_cons (pd_make d_Book__init (by decide) k_Book (by decide +kernel) (pda_cons (pd_var 0 rfl (by decide +kernel)) (pda_cons (pd_lst (pda_nil)) (pda_nil)))) (pda_cons (pd_lst (pda_nil)) (pda_nil)))) (pda_nil))) (fun _ => ⟨_, rfl⟩)))) (pdss_cons (psd_if (PDW.pt (pwd_or (pt_cmpD (od_sh ty (by decide) eq_Shelf (by decide)) (pd_var 4 rfl (by decide +kernel)) (pd_var 5 rfl (by decide +kernel)) rfl) (pwd_or1 (pt_cmpD (od_sh ty (by decide) eq_Shelf (by decide)) (pd_var 4 rfl (by decide +kernel)) (pd_var 6 rfl (by decide +kernel)) rfl)))) (pdss_one (psd_ret (pd_bl))) (pdss_nil)) (pdss_cons (psd_par rfl rfl (by decide) (by decide +kernel) (by decide +kernel) (pda_cons (pd_makeC d_SmallShelf__init (by decide) k_SmallShelf (by decide +kernel) (pda_cons (pd_var 0 rfl (by decide +kernel)) (pda_cons (pd_int) (pda_nil)))) (pda_cons (pd_makeC d_Shelf__init (by decide) k_Shelf (by decide +kernel) (pda_cons (pd_var 0 rfl (by decide +kernel)) (pda_nil))) (pda_nil)))) (pdss_cons (psd_if (PDW.pt (pwd_or (pt_notD (pt_cmpD (od_sh ty (by decide) eq_Small (by decide)) (pd_var 7 rfl (by decide +kernel)) (pd_makeKC d_SmallShelf__init (by decide) k_SmallShelf w_SmallShelf (by decide +kernel) (pdk_cons (pd_var 0 rfl (by decide +kernel)) (pdk_cons (pd_int) (pdk_nil)))) rfl)) (pwd_or (pt_cmpD (od_sh ty (by decide) eq_Small (by decide)) (pd_var 7 rfl (by decide +kernel)) (pd_var 8 rfl (by decide +kernel)) rfl) (pwd_or (pt_cmpD (od_shB ty eq_Small ne_ca (by decide)) (pd_var 8 rfl (by decide +kernel)) (pd_var 7 rfl (by decide +kernel)) rfl) (pwd_or1 (pt_notD (pt_truD (fun _ _ => rfl) (pd_callB (cd_isi ty (by decide)) (by decide +kernel) m_isinstance (by decide +kernel) (pda_cons (pd_var 7 rfl (by decide +kernel)) (pda_cons (pd_cls (by decide +kernel) kc_Shelf) pda_nil)) (by decide))))))))) (pdss_one (psd_ret (pd_bl))) (pdss_nil)) (pdss_cons (psd_if (pt_cmpD (od_sh ty (by decide) eq_Small (by decide)) (pd_var 7 rfl (by decide +kernel)) (pd_makeC d_SmallShelf__init (by decide) k_SmallShelf (by decide +kernel) (pda_cons (pd_var 0 rfl (by decide +kernel)) (pda_cons (pd_int) (pda_nil)))) rfl) (pdss_one (psd_ret (pd_bl))) (pdss_nil)) (pdss_cons (psd_asg (pd_makeC d_SmallShelf__init (by decide) k_SmallShelf (by decide +kernel) (pda_cons (pd_var 0 rfl (by decide +kernel)) (pda_cons (pd_int) (pda_nil)))) (pgd_nm 9 rfl (by decide +kernel))) (pdss_cons (psd_expr (pd_orE (pd_meth d_Shelf_put (by decide) o_Shelf_put (pd_var 7 rfl (by decide +kernel)) (pda_cons (pd_str) (pda_cons (pd_make d_Table__init (by decide) k_Table (by decide +kernel) (pda_cons (pd_make d_Book__init (by decide) k_Book (by decide +kernel) (pda_cons (pd_var 0 rfl (by decide +kernel)) (pda_cons (pd_lst (pda_nil)) (pda_nil)))) (pda_cons (pd_lst (pda_nil)) (pda_nil)))) (pda_nil))) (fun _ => ⟨_, rfl⟩)) (pd_meth d_Shelf_put (by decide) o_SmallShelf_put (pd_var 7 rfl (by decide +kernel)) (pda_cons (pd_str) (pda_cons (pd_make d_Table__init (by decide) k_Table (by decide +kernel) (pda_cons (pd_make d_Book__init (by decide) k_Book (by decide +kernel) (pda_cons (pd_var 0 rfl (by decide +kernel)) (pda_cons (pd_lst (pda_nil)) (pda_nil)))) (pda_cons (pd_lst (pda_nil)) (pda_nil)))) (pda_nil))) (fun _ => ⟨_, rfl⟩)))) (pdss_cons (psd_if (pt_cmpD (od_sh ty (by decide) eq_Small (by decide)) (pd_var 7 rfl (by decide +kernel)) (pd_var 9 rfl (by decide +kernel)) rfl) (pdss_one (psd_ret (pd_bl))) (pdss_nil)) (pdss_cons (psd_expr (pd_orE (pd_meth d_Shelf_put (by decide) o_Shelf_put (pd_var 9 rfl (by decide +kernel)) (pda_cons (pd_str) (pda_cons (pd_make d_Table__init (by decide) k_Table (by decide +kernel) (pda_cons (pd_make d_Book__init (by decide) k_Book (by decide +kernel) (pda_cons (pd_var 0 rfl (by decide +kernel)) (pda_cons (pd_lst (pda_nil)) (pda_nil)))) (pda_cons (pd_lst (pda_nil)) (pda_nil)))) (pda_nil))) (fun _ => ⟨_, rfl⟩)) (pd_meth d_Shelf_put (by decide) o_SmallShelf_put (pd_var 9 rfl (by decide +kernel)) (pda_cons (pd_str) (pda_cons (pd_make d_Table__init (by decide) k_Table (by decide +kernel) (pda_cons (pd_make d_Book__init (by decide) k_Book (by decide +kernel) (pda_cons (pd_var 0 rfl (by decide +kernel)) (pda_cons (pd_lst (pda_nil)) (pda_nil)))) (pda_cons (pd_lst (pda_nil)) (pda_nil)))) (pda_nil))) (fun _ => ⟨_, rfl⟩)))) (pdss_one (psd_ret (pd_and (pd_cmp (od_sh ty (by decide) eq_Small (by decide)) (pd_var 7 rfl (by decide +kernel)) (pd_var 9 rfl (by decide +kernel)) rfl) (pd_one (pd_not (pd_cmp (od_sh ty (by decide) eq_Small (by decide)) (pd_var 7 rfl (by decide +kernel)) (pd_var 4 rfl (by decide +kernel)) rfl))))))))))))))))))
/-! ### _law_right -/
abbrev N_L_right : List Str := ["pool", "base_here", "told", "one", "two", "thing"]
def t_L_right : DS := sSeq (sAsg (dOp rAddD (dC (.int 2)) (dCallF 2 sp_L_draw (dCons (dVar 0) (dCons (dC (.int 2)) (dNil))))) (.nm 1)) (sSeq (sAsg (dCallF 3 sp_L_base_table (dCons (dVar 0) (dCons (dVar 1) (dCons (dC (.int 3)) (dNil))))) (.nm 2)) (sSeq (sAsg (dTup (dCons (dMakeC "Shelf" 2 sp_Shelf__init (dCons (dVar 1) (dNil))) (dCons (dMakeKC "Shelf" 2 [0] 1 sp_Shelf__init (dCons (dVar 1) (dNil))) (dNil)))) (.tp [3, 4])) (sSeq (sIf (dOr (dNot (dB (dOp (rShS) (dVar 3) (dVar 4)))) (dOr (dB (dOp (rShN) (dVar 3) (dVar 4))) (dB (dOp (rShS) (dVar 3) (dMakeC "Shelf" 2 sp_Shelf__init (dCons (dOp rSubD (dC (.int 5)) (dVar 1)) (dNil))))))) (sRet (dC (.bl false))) (sNext)) (sSeq (sDrop (dOrE (dMeth "Shelf" "put" 3 sp_Shelf_put (dVar 3) (dCons (dC (.str "a")) (dCons (dCallF 1 sp_L_table_made (dCons (dVar 2) (dNil))) (dNil)))) (dMeth "SmallShelf" "put" 3 sp_Shelf_put (dVar 3) (dCons (dC (.str "a")) (dCons (dCallF 1 sp_L_table_made (dCons (dVar 2) (dNil))) (dNil)))))) (sSeq (sIf (dOr (dB (dOp (rShS) (dVar 3) (dVar 4))) (dB (dOp (rShS) (dVar 4) (dVar 3)))) (sRet (dC (.bl false))) (sNext)) (sSeq (sDrop (dOrE (dMeth "Shelf" "put" 3 sp_Shelf_put (dVar 4) (dCons (dC (.str "a")) (dCons (dCallF 1 sp_L_table_made (dCons (dVar 2) (dNil))) (dNil)))) (dMeth "SmallShelf" "put" 3 sp_Shelf_put (dVar 4) (dCons (dC (.str "a")) (dCons (dCallF 1 sp_L_table_made (dCons (dVar 2) (dNil))) (dNil)))))) (sSeq (sIf (dNot (dB (dOp (rShS) (dVar 3) (dVar 4)))) (sRet (dC (.bl false))) (sNext)) (sSeq (sDrop (dOrE (dMeth "Shelf" "put" 3 sp_Shelf_put (dVar 4) (dCons (dC (.str "a")) (dCons (dCallF 1 sp_L_table_made (dCons (dVar 2) (dNil))) (dNil)))) (dMeth "SmallShelf" "put" 3 sp_Shelf_put (dVar 4) (dCons (dC (.str "a")) (dCons (dCallF 1 sp_L_table_made (dCons (dVar 2) (dNil))) (dNil)))))) (sSeq (sIf (dOr (dB (dOp (rShS) (dVar 3) (dVar 4))) (dB (dOp rDiffD (dProp "Shelf" 1 sp_Shelf_titles (dVar 3)) (dProp "Shelf" 1 sp_Shelf_titles (dVar 4))))) (sRet (dC (.bl false))) (sNext)) (sSeq (sDrop (dMeth "Shelf" "undo" 1 sp_Shelf_undo (dVar 4) dNil)) (sSeq (sDrop (dOrE (dMeth "Shelf" "put" 3 sp_Shelf_put (dVar 4) (dCons (dC (.str "b")) (dCons (dCallF 1 sp_L_table_made (dCons (dVar 2) (dNil))) (dNil)))) (dMeth "SmallShelf" "put" 3 sp_Shelf_put (dVar 4) (dCons (dC (.str "b")) (dCons (dCallF 1 sp_L_table_made (dCons (dVar 2) (dNil))) (dNil)))))) (sSeq (sDrop (dMeth "Shelf" "drop" 2 sp_Shelf_drop (dVar 4) (dCons (dC (.str "b")) (dNil)))) (sSeq (sIf (dB (dOp (rShS) (dVar 3) (dVar 4))) (sRet (dC (.bl false))) (sNext)) (sSeq (sDrop (dMeth "Shelf" "undo" 1 sp_Shelf_undo (dVar 4) dNil)) (sSeq (sDrop (dMeth "Shelf" "undo" 1 sp_Shelf_undo (dVar 4) dNil)) (sSeq (sIf (dOr (dNot (dB (dOp (rShS) (dVar 3) (dVar 4)))) (dNot (dTru (dCallF 1 sp_L_others_right (dCons (dVar 1) (dNil)))))) (sRet (dC (.bl false))) (sNext)) (sRet (dOp rEqualD (dLc (iTupD (dTup (dCons (dMeth "Shelf" "table_on" 2 sp_Shelf_table_on (dVar 3) (dCons (dC (.str "a")) (dNil))) (dCons (dLst (dNil)) (dCons (dC (.int 0)) (dCons (dC .non) (dCons (dC (.str "x")) (dNil)))))))) (.nm 5) (dB (dOp (rShS) (dVar 3) (dVar 5))) (dC (.int 1)) [5]) (dLst (dNil))))))))))))))))))))
theorem sc_L_right : FnScope N_L_right ["pool"] (defScope s_L_right) := ⟨rfl, rfl, rfl, by decide +kernel, rfl, by decide +kernel, by decide +kernel⟩
theorem pds_L_right {G : Gx} {f_L_draw f_L_base_table f_Shelf__init f_L_table_made f_Shelf_put f_Shelf_titles f_Shelf_undo f_Shelf_drop f_L_others_right f_Shelf_table_on : Addr} (d_L_draw : Def G 1 f_L_draw ["pool", "many"] sp_L_draw) (m__law_draw : G.mg "_law_draw" = some (.ref f_L_draw)) (d_L_base_table : Def G 5 f_L_base_table ["pool", "base_here", "many"] sp_L_base_table) (m__law_base_table : G.mg "_law_base_table" = some (.ref f_L_base_table)) (d_Shelf__init : Def G 1 f_Shelf__init ["self", "base"] sp_Shelf__init) (k_Shelf : MakeOk G "Shelf" f_Shelf__init) (w_Shelf : KwFn G f_Shelf__init ["self", "base"] 1 ["base"] [0]) (ty : Tys G tyCs tySub) (eq_Shelf : EqSh G "Shelf") (ne_Sh : NeSh G) (d_L_table_made : Def G 6 f_L_table_made ["told"] sp_L_table_made) (m__law_table_made : G.mg "_law_table_made" = some (.ref f_L_table_made)) (d_Shelf_put : Def G 7 f_Shelf_put ["self", "title", "table"] sp_Shelf_put) (o_Shelf_put : MethOk G "Shelf" "put" f_Shelf_put) (o_SmallShelf_put : MethOk G "SmallShelf" "put" f_Shelf_put) (d_Shelf_titles : Def G 1 f_Shelf_titles ["self"] sp_Shelf_titles) (p_Shelf_titles : PropOk G "Shelf" "titles" f_Shelf_titles) (d_Shelf_undo : Def G 41 f_Shelf_undo ["self"] sp_Shelf_undo) (o_Shelf_undo : MethOk G "Shelf" "undo" f_Shelf_undo) (d_Shelf_drop : Def G 2 f_Shelf_drop ["self", "title"] sp_Shelf_drop) (o_Shelf_drop : MethOk G "Shelf" "drop" f_Shelf_drop) (d_L_others_right : Def G 53 f_L_others_right ["base_here"] sp_L_others_right) (m__law_others_right : G.mg "_law_others_right" = some (.ref f_L_others_right)) (d_Shelf_table_on : Def G 2 f_Shelf_table_on ["self", "title"] sp_Shelf_table_on) (o_Shelf_table_on : MethOk G "Shelf" "table_on" f_Shelf_table_on) : PDs G 98 N_L_right ⟨defScope s_L_right, fun _ => true⟩ (defBody s_L_right) t_L_right :=
  pdss_cons (psd_asg (pd_op od_add (pd_int) (pd_call d_L_draw (by decide) m__law_draw (by decide +kernel) (pda_cons (pd_var 0 rfl (by decide +kernel)) (pda_cons (pd_int) (pda_nil))))) (pgd_nm 1 rfl (by decide +kernel))) (pdss_cons (psd_asg (pd_call d_L_base_table (by decide) m__law_base_table (by decide +kernel) (pda_cons (pd_var 0 rfl (by decide +kernel)) (pda_cons (pd_var 1 rfl (by decide +kernel)) (pda_cons (pd_int) (pda_nil))))) (pgd_nm 2 rfl (by decide +kernel))) (pdss_cons (psd_asg (pd_tup (pda_cons (pd_makeC d_Shelf__init (by decide) k_Shelf (by decide +kernel) (pda_cons (pd_var 1 rfl (by decide +kernel)) (pda_nil))) (pda_cons (pd_makeKC d_Shelf__init (by decide) k_Shelf w_Shelf (by decide +kernel) (pdk_cons (pd_var 1 rfl (by decide +kernel)) (pdk_nil))) (pda_nil)))) (pgd_tup (pgsd_cons 3 rfl (by decide +kernel) (pgsd_cons 4 rfl (by decide +kernel) (pgsd_nil))))) (pdss_cons (psd_if (PDW.pt (pwd_or (pt_notD (pt_cmpD (od_sh ty (by decide) eq_Shelf (by decide)) (pd_var 3 rfl (by decide +kernel)) (pd_var 4 rfl (by decide +kernel)) rfl)) (pwd_or (pt_cmpD (od_shN ty eq_Shelf ne_Sh (by decide)) (pd_var 3 rfl (by decide +kernel)) (pd_var 4 rfl (by decide +kernel)) rfl) (pwd_or1 (pt_cmpD (od_sh ty (by decide) eq_Shelf (by decide)) (pd_var 3 rfl (by decide +kernel)) (pd_makeC d_Shelf__init (by decide) k_Shelf (by decide +kernel) (pda_cons (pd_op od_sub (pd_int) (pd_var 1 rfl (by decide +kernel))) (pda_nil))) rfl))))) (pdss_one (psd_ret (pd_bl))) (pdss_nil)) (pdss_cons (psd_expr (pd_orE (pd_meth d_Shelf_put (by decide) o_Shelf_put (pd_var 3 rfl (by decide +kernel)) (pda_cons (pd_str) (pda_cons (pd_call d_L_table_made (by decide) m__law_table_made (by decide +kernel) (pda_cons (pd_var 2 rfl (by decide +kernel)) (pda_nil))) (pda_nil))) (fun _ => ⟨_, rfl⟩)) (pd_meth d_Shelf_put (by decide) o_SmallShelf_put (pd_var 3 rfl (by decide +kernel)) (pda_cons (pd_str) (pda_cons (pd_call d_L_table_made (by decide) m__law_table_made (by decide +kernel) (pda_cons (pd_var 2 rfl (by decide +kernel)) (pda_nil))) (pda_nil))) (fun _ => ⟨_, rfl⟩)))) (pdss_cons (psd_if (PDW.pt (pwd_or (pt_cmpD (od_sh ty (by decide) eq_Shelf (by decide)) (pd_var 3 rfl (by decide +kernel)) (pd_var 4 rfl (by decide +kernel)) rfl) (pwd_or1 (pt_cmpD (od_sh ty (by decide) eq_Shelf (by decide)) (pd_var 4 rfl (by decide +kernel)) (pd_var 3 rfl (by decide +kernel)) rfl)))) (pdss_one (psd_ret (pd_bl))) (pdss_nil)) (pdss_cons (psd_expr (pd_orE (pd_meth d_Shelf_put (by decide) o_Shelf_put (pd_var 4 rfl (by decide +kernel)) (pda_cons (pd_str) (pda_cons (pd_call d_L_table_made (by decide) m__law_table_made (by decide +kernel) (pda_cons (pd_var 2 rfl (by decide +kernel)) (pda_nil))) (pda_nil))) (fun _ => ⟨_, rfl⟩)) (pd_meth d_Shelf_put (by decide) o_SmallShelf_put (pd_var 4 rfl (by decide +kernel)) (pda_cons (pd_str) (pda_cons (pd_call d_L_table_made (by decide) m__law_table_made (by decide +kernel) (pda_cons (pd_var 2 rfl (by decide +kernel)) (pda_nil))) (pda_nil))) (fun _ => ⟨_, rfl⟩)))) (pdss_cons (psd_if (pt_notD (pt_cmpD (od_sh ty (by decide) eq_Shelf (by decide)) (pd_var 3 rfl (by decide +kernel)) (pd_var 4 rfl (by decide +kernel)) rfl)) (pdss_one (psd_ret (pd_bl))) (pdss_nil)) (pdss_cons (psd_expr (pd_orE (pd_meth d_Shelf_put (by decide) o_Shelf_put (pd_var 4 rfl (by decide +kernel)) (pda_cons (pd_str) (pda_cons (pd_call d_L_table_made (by decide) m__law_table_made (by decide +kernel) (pda_cons (pd_var 2 rfl (by decide +kernel)) (pda_nil))) (pda_nil))) (fun _ => ⟨_, rfl⟩)) (pd_meth d_Shelf_put (by decide) o_SmallShelf_put (pd_var 4 rfl (by decide +kernel)) (pda_cons (pd_str) (pda_cons (pd_call d_L_table_made (by decide) m__law_table_made (by decide +kernel) (pda_cons (pd_var 2 rfl (by decide +kernel)) (pda_nil))) (pda_nil))) (fun _ => ⟨_, rfl⟩)))) (pdss_cons (psd_if (PDW.pt (pwd_or (pt_cmpD (od_sh ty (by decide) eq_Shelf (by decide)) (pd_var 3 rfl (by decide +kernel)) (pd_var 4 rfl (by decide +kernel)) rfl) (pwd_or1 (pt_cmpD od_ne (pd_prop d_Shelf_titles (by decide) p_Shelf_titles (pd_var 3 rfl (by decide +kernel))) (pd_prop d_Shelf_titles (by decide) p_Shelf_titles (pd_var 4 rfl (by decide +kernel))) rfl)))) (pdss_one (psd_ret (pd_bl))) (pdss_nil)) (pdss_cons (psd_expr (pd_meth0 d_Shelf_undo (by decide) o_Shelf_undo (pd_var 4 rfl (by decide +kernel)) (fun _ => ⟨_, rfl⟩))) (pdss_cons (psd_expr (pd_orE (pd_meth d_Shelf_put (by decide) o_Shelf_put (pd_var 4 rfl (by decide +kernel)) (pda_cons (pd_str) (pda_cons (pd_call d_L_table_made (by decide) m__law_table_made (by decide +kernel) (pda_cons (pd_var 2 rfl (by decide +kernel)) (pda_nil))) (pda_nil))) (fun _ => ⟨_, rfl⟩)) (pd_meth d_Shelf_put (by decide) o_SmallShelf_put (pd_var 4 rfl (by decide +kernel)) (pda_cons (pd_str) (pda_cons (pd_call d_L_table_made (by decide) m__law_table_made (by decide +kernel) (pda_cons (pd_var 2 rfl (by decide +kernel)) (pda_nil))) (pda_nil))) (fun _ => ⟨_, rfl⟩)))) (pdss_cons (psd_expr (pd_meth d_Shelf_drop (by decide) o_Shelf_drop (pd_var 4 rfl (by decide +kernel)) (pda_cons (pd_str) (pda_nil)) (fun _ => ⟨_, rfl⟩))) (pdss_cons (psd_if (pt_cmpD (od_sh ty (by decide) eq_Shelf (by decide)) (pd_var 3 rfl (by decide +kernel)) (pd_var 4 rfl (by decide +kernel)) rfl) (pdss_one (psd_ret (pd_bl))) (pdss_nil)) (pdss_cons (psd_expr (pd_meth0 d_Shelf_undo (by decide) o_Shelf_undo (pd_var 4 rfl (by decide +kernel)) (fun _ => ⟨_, rfl⟩))) (pdss_cons (psd_expr (pd_meth0 d_Shelf_undo (by decide) o_Shelf_undo (pd_var 4 rfl (by decide +kernel)) (fun _ => ⟨_, rfl⟩))) (pdss_cons (psd_if (PDW.pt (pwd_or (pt_notD (pt_cmpD (od_sh ty (by decide) eq_Shelf (by decide)) (pd_var 3 rfl (by decide +kernel)) (pd_var 4 rfl (by decide +kernel)) rfl)) (pwd_or1 (pt_notD (pt_truD (fun _ _ => rfl) (pd_call d_L_others_right (by decide) m__law_others_right (by decide +kernel) (pda_cons (pd_var 1 rfl (by decide +kernel)) (pda_nil)))))))) (pdss_one (psd_ret (pd_bl))) (pdss_nil)) (pdss_one (psd_ret (pd_cmp od_eq (pd_lc [("thing", 5)] (by decide +kernel) (by decide) (pdi_tup (pd_tup (pda_cons (pd_meth d_Shelf_table_on (by decide) o_Shelf_table_on (pd_var 3 rfl (by decide +kernel)) (pda_cons (pd_str) (pda_nil)) (fun _ => ⟨_, rfl⟩)) (pda_cons (pd_lst (pda_nil)) (pda_cons (pd_int) (pda_cons (pd_non) (pda_cons (pd_str) (pda_nil)))))))) (pgd_nm 5 rfl (by decide +kernel)) (pdts_one (pt_cmpD (od_sh ty (by decide) eq_Shelf (by decide)) (pd_var 3 rfl (by decide +kernel)) (pd_var 5 rfl (by decide +kernel)) rfl)) (pd_int)) (pd_lst (pda_nil)) rfl)))))))))))))))))))
/-! ### law -/
abbrev N_law : List Str := ["script", "spot", "pool", "turn"]
def b_law_0 : DS := sIf (dNot (dTru (dCallF 1 sp_L_right (dCons (dVar 2) (dNil))))) (sRet (dC (.bl false))) (sNext)
def b_law_1 : DS := sSeq (sAsg (dCallF 2 sp_L_pool (dCons (dVar 0) (dCons (dVar 1) (dNil)))) (.nm 2)) (sFor (iRngD1 (dCons (dC (.int 2)) (dNil))) (.nm 3) (b_law_0))
def t_law : DS := sSeq (sFor (iRngD1 (dCons (dCall rMaxD2 (dCons (dC (.int 1)) (dCons (dCall rMinD2 (dCons (dC (.int 6)) (dCons (dCall rLenD (dCons (dVar 0) (dNil))) (dNil)))) (dNil)))) (dNil))) (.nm 1) (b_law_1)) (sRet (dC (.bl true)))
theorem sc_law : FnScope N_law ["script"] (defScope s_law) := ⟨rfl, rfl, rfl, by decide +kernel, rfl, by decide +kernel, by decide +kernel⟩
theorem pds_law {G : Gx} {f_L_pool f_L_right : Addr} (m_range : G.mg "range" = none) (m_max : G.mg "max" = none) (m_min : G.mg "min" = none) (m_len : G.mg "len" = none) (d_L_pool : Def G 1 f_L_pool ["script", "spot"] sp_L_pool) (m__law_pool : G.mg "_law_pool" = some (.ref f_L_pool)) (d_L_right : Def G 99 f_L_right ["pool"] sp_L_right) (m__law_right : G.mg "_law_right" = some (.ref f_L_right)) : PDs G 99 N_law ⟨defScope s_law, fun _ => true⟩ (defBody s_law) t_law :=
  pdss_cons (psd_for (pdi_rng1 (by decide +kernel) m_range (pda_cons (pd_callB cd_max2 (by decide +kernel) m_max (by decide +kernel) (pda_cons (pd_int) (pda_cons (pd_callB cd_min2 (by decide +kernel) m_min (by decide +kernel) (pda_cons (pd_int) (pda_cons (pd_callB cd_len (by decide +kernel) m_len (by decide +kernel) (pda_cons (pd_var 0 rfl (by decide +kernel)) (pda_nil)) (by decide)) (pda_nil))) (by decide)) (pda_nil))) (by decide)) (pda_nil))) (pgd_nm 1 rfl (by decide +kernel)) (pdss_cons (psd_asg (pd_call d_L_pool (by decide) m__law_pool (by decide +kernel) (pda_cons (pd_var 0 rfl (by decide +kernel)) (pda_cons (pd_var 1 rfl (by decide +kernel)) (pda_nil)))) (pgd_nm 2 rfl (by decide +kernel))) (pdss_one (psd_for (pdi_rng1 (by decide +kernel) m_range (pda_cons (pd_int) (pda_nil))) (pgd_nm 3 rfl (by decide +kernel)) (pdss_one (psd_if (pt_notD (pt_truD (fun _ _ => rfl) (pd_call d_L_right (by decide) m__law_right (by decide +kernel) (pda_cons (pd_var 2 rfl (by decide +kernel)) (pda_nil))))) (pdss_one (psd_ret (pd_bl))) (pdss_nil))))))) (pdss_one (psd_ret (pd_bl)))
end HD
namespace HD
open PySem PySem.Spec L2
def Reads (t : DS) (N : List Str) (n : Nat) (S : DSp) : Prop := ∀ ds M Q E, ds.length = n → S ds M Q E → t { nx := fun _ M' => lessQ Q .non M', rt := lessQ Q, ex := fun _ => lessE E } (startD N ds) M
theorem letters_has : ∀ c, 97 ≤ c → c ≤ 122 → c ∈ ("abcdefghijklmnopqrstuvwxyz" : Str).cps.toList := by
  have h : ∀ c, c < 123 → 97 ≤ c → c ∈ ("abcdefghijklmnopqrstuvwxyz" : Str).cps.toList := by decide +kernel
  exact fun c h1 h2 => h c (by omega) h1
theorem r_is_name : Reads t_is_name N_is_name 1 sp_is_name := by
  rintro ds M Q E hl ⟨x, ⟨c, rfl, h1, h2⟩, rfl, q⟩
  unfold t_is_name
  simp only [dNeg, sRet, sSeq, sAsg, sDrop, sIf, sNext, sSetLc, sFor, sFldD, sAug, sPar, sSub, sRetN, dAndV, dOrV, dNotV, dAnd, dOr, dNot, dB, dTru, dIf, dOp, dCall, dCallF, dMeth, dProp, dFld, dMake, dMakeC, dCons, dNil, dStar, dTup, dLst, dNew, dVar, dFrz, dC, dSlice, dPart, dNoPart, dMt, dLc, dYes, iLst, iTupD, iRngD1, iRngD2, iEnumD, iZipD, rF, dTg, startD, wipeD, setMany, List.map, List.set, List.length_cons, List.length_nil, List.replicate, List.append, List.cons_append, List.nil_append, List.append_nil, List.getElem?_cons_zero, List.getElem?_cons_succ, Nat.reduceAdd, Nat.reduceSub, Nat.sub_self, Nat.zero_add, Option.some.injEq, exists_eq_left, exists_eq_left', exists_eq_right, List.cons.injEq, and_true, true_and, if_true, if_false, Bool.false_eq_true, Bool.not_true, Bool.not_false, D.bl.injEq, D.int.injEq, D.cell.injEq, reduceCtorEq, false_and, and_false, exists_false, or_false, false_or, exists_and_left, exists_and_right]
  refine r_lenS (show 1 ≤ 100000 by decide) (r_eqI ⟨true, rfl, ?_⟩)
  rw [if_pos rfl]
  refine r_in (b := true) ?_ (lessQ.of q)
  show some (decide (c ∈ ("abcdefghijklmnopqrstuvwxyz" : Str).cps.toList)) = some true
  rw [decide_eq_true (letters_has c h1 h2)]
/-- a name among names that stand in a cell or a list -/
theorem inF_names {M : MS} {x : Str} {d : D} {xs : List Str} (h : itemsOf M d = some (xs.map D.str)) (hd : ∀ s, d ≠ .str s) : inF M (.str x) d = some (decide (x ∈ xs)) := by
  have key : ∀ (ys : List Str), ((ys.map D.str).all flatD = true) ∧ ((ys.map D.str).any fun e => eqFD e (.str x)) = decide (x ∈ ys) := by
    intro ys
    refine ⟨by rw [List.all_eq_true]; intro d hd; obtain ⟨z, _, rfl⟩ := List.mem_map.mp hd; rfl, ?_⟩
    induction ys with
    | nil => simp
    | cons z ys ih =>
      rw [List.map_cons, List.any_cons, ih]
      show (z == x || decide (x ∈ ys)) = decide (x ∈ z :: ys)
      by_cases e : z = x
      · subst e; simp
      · have : (z == x) = false := beq_eq_false_iff_ne.mpr e
        rw [this]; simp [Ne.symm e]
  obtain ⟨k1, k2⟩ := key xs
  unfold inF
  cases d with
  | str s => exact absurd rfl (hd s)
  | _ =>
    simp only [h]
    rw [if_pos ⟨rfl, k1⟩, k2]
theorem env5 (env : En) (h : env.length = 5) : ∃ a b c d e, env = [a, b, c, d, e] := by
  match env, h with
  | [a, b, c, d, e], _ => exact ⟨_, _, _, _, _, rfl⟩
theorem r_check_names : Reads t_check_names N_check_names 1 sp_check_names := by
  rintro ds M Q E hl ⟨n, rfl, hn, hnm, hnd, q⟩
  unfold t_check_names
  simp only [dNeg, sRet, sSeq, sAsg, sDrop, sIf, sNext, sSetLc, sFor, sFldD, sAug, sPar, sSub, sRetN, dAndV, dOrV, dNotV, dAnd, dOr, dNot, dB, dTru, dIf, dOp, dCall, dCallF, dMeth, dProp, dFld, dMake, dMakeC, dCons, dNil, dStar, dTup, dLst, dNew, dVar, dFrz, dC, dSlice, dPart, dNoPart, dMt, dLc, dYes, iLst, iTupD, iRngD1, iRngD2, iEnumD, iZipD, rF, dTg, startD, wipeD, setMany, List.map, List.set, List.length_cons, List.length_nil, List.replicate, List.append, List.cons_append, List.nil_append, List.append_nil, List.getElem?_cons_zero, List.getElem?_cons_succ, Nat.reduceAdd, Nat.reduceSub, Nat.sub_self, Nat.zero_add, Option.some.injEq, exists_eq_left, exists_eq_left', exists_eq_right, List.cons.injEq, and_true, true_and, if_true, if_false, Bool.false_eq_true, Bool.not_true, Bool.not_false, D.bl.injEq, D.int.injEq, D.cell.injEq, reduceCtorEq, false_and, and_false, exists_false, or_false, false_or, exists_and_left, exists_and_right]
  refine ⟨by decide, fun a ha => ⟨_, rfl, ?_⟩⟩
  have turns : ∀ (m p : Nm) (e0 e2 e3 e4 : Option D) (D' : EndD), p ++ m = n → (∀ env M', Sub M M' → D'.nx env M') →
      forTurns (.tp [2, 3, 4]) b_check_names_0 D' always (m.map dEnt) [e0, some (.cell a), e2, e3, e4] (M.put a (.lst (p.map fun x => .str x.1))) := by
    intro m
    induction m with
    | nil => intro p e0 e2 e3 e4 D' _ hD; exact ⟨trivial, hD _ _ (Sub.put ha)⟩
    | cons x m ih =>
      intro p e0 e2 e3 e4 D' hp hD
      have hx : x ∈ n := by rw [← hp]; simp
      refine ⟨trivial, _, rfl, rfl, ?_⟩
      unfold b_check_names_0
      simp only [dNeg, sRet, sSeq, sAsg, sDrop, sIf, sNext, sSetLc, sFor, sFldD, sAug, sPar, sSub, sRetN, dAndV, dOrV, dNotV, dAnd, dOr, dNot, dB, dTru, dIf, dOp, dCall, dCallF, dMeth, dProp, dFld, dMake, dMakeC, dCons, dNil, dStar, dTup, dLst, dNew, dVar, dFrz, dC, dSlice, dPart, dNoPart, dMt, dLc, dYes, iLst, iTupD, iRngD1, iRngD2, iEnumD, iZipD, rF, dTg, startD, wipeD, setMany, List.map, List.set, List.length_cons, List.length_nil, List.replicate, List.append, List.cons_append, List.nil_append, List.append_nil, List.getElem?_cons_zero, List.getElem?_cons_succ, Nat.reduceAdd, Nat.reduceSub, Nat.sub_self, Nat.zero_add, Option.some.injEq, exists_eq_left, exists_eq_left', exists_eq_right, List.cons.injEq, and_true, true_and, if_true, if_false, Bool.false_eq_true, Bool.not_true, Bool.not_false, D.bl.injEq, D.int.injEq, D.cell.injEq, reduceCtorEq, false_and, and_false, exists_false, or_false, false_or, exists_and_left, exists_and_right]
      refine ⟨x.1, hnm x hx, rfl, true, rfl, ?_⟩
      simp only [dNeg, sRet, sSeq, sAsg, sDrop, sIf, sNext, sSetLc, sFor, sFldD, sAug, sPar, sSub, sRetN, dAndV, dOrV, dNotV, dAnd, dOr, dNot, dB, dTru, dIf, dOp, dCall, dCallF, dMeth, dProp, dFld, dMake, dMakeC, dCons, dNil, dStar, dTup, dLst, dNew, dVar, dFrz, dC, dSlice, dPart, dNoPart, dMt, dLc, dYes, iLst, iTupD, iRngD1, iRngD2, iEnumD, iZipD, rF, dTg, startD, wipeD, setMany, List.map, List.set, List.length_cons, List.length_nil, List.replicate, List.append, List.cons_append, List.nil_append, List.append_nil, List.getElem?_cons_zero, List.getElem?_cons_succ, Nat.reduceAdd, Nat.reduceSub, Nat.sub_self, Nat.zero_add, Option.some.injEq, exists_eq_left, exists_eq_left', exists_eq_right, List.cons.injEq, and_true, true_and, if_true, if_false, Bool.false_eq_true, Bool.not_true, Bool.not_false, D.bl.injEq, D.int.injEq, D.cell.injEq, reduceCtorEq, false_and, and_false, exists_false, or_false, false_or, exists_and_left, exists_and_right]
      have hnot : ¬ x.1 ∈ p.map (·.1) := by
        rw [← hp, List.map_append, List.nodup_append] at hnd
        exact fun hm => hnd.2.2 _ hm _ (by simp) rfl
      refine r_in (b := false) ?_ ⟨false, rfl, ?_⟩
      · have := inF_names (M := M.put a (.lst (p.map fun x => .str x.1))) (x := x.1) (d := .cell a) (xs := p.map (·.1)) (by rw [List.map_map]; show lstOf ((M.put a _) a) = _; rw [MS.put_same]; rfl) (fun s h => by cases h)
        rw [this, decide_eq_false hnot]
      · simp only [dNeg, sRet, sSeq, sAsg, sDrop, sIf, sNext, sSetLc, sFor, sFldD, sAug, sPar, sSub, sRetN, dAndV, dOrV, dNotV, dAnd, dOr, dNot, dB, dTru, dIf, dOp, dCall, dCallF, dMeth, dProp, dFld, dMake, dMakeC, dCons, dNil, dStar, dTup, dLst, dNew, dVar, dFrz, dC, dSlice, dPart, dNoPart, dMt, dLc, dYes, iLst, iTupD, iRngD1, iRngD2, iEnumD, iZipD, rF, dTg, startD, wipeD, setMany, List.map, List.set, List.length_cons, List.length_nil, List.replicate, List.append, List.cons_append, List.nil_append, List.append_nil, List.getElem?_cons_zero, List.getElem?_cons_succ, Nat.reduceAdd, Nat.reduceSub, Nat.sub_self, Nat.zero_add, Option.some.injEq, exists_eq_left, exists_eq_left', exists_eq_right, List.cons.injEq, and_true, true_and, if_true, if_false, Bool.false_eq_true, Bool.not_true, Bool.not_false, D.bl.injEq, D.int.injEq, D.cell.injEq, reduceCtorEq, false_and, and_false, exists_false, or_false, false_or, exists_and_left, exists_and_right]
        refine ⟨⟨_, by show lstOf ((M.put a _) a) = _; rw [MS.put_same]; rfl⟩, ?_⟩
        have hlen : p.length < 100000 := by
          have := congrArg List.length hp
          simp at this; omega
        refine r_app (ds := p.map fun x => .str x.1) MS.put_same (by rw [List.length_map]; exact hlen) ?_
        rw [MS.put_put]
        have := ih (p ++ [x]) e0 (some (.str x.1)) (some (.int x.2.1)) (some (dBlk x.2.2)) D' (by rw [← hp]; simp) hD
        rw [List.map_append] at this
        exact this
  exact turns n [] _ _ _ _ _ rfl fun env M' s => ⟨M, s, q⟩
theorem bls_true {α : Type} (f : α → Bool) (xs : List α) (h : ∀ x ∈ xs, f x = true) : blsOf (xs.map fun x => .bl (f x)) = some (xs.map f) ∧ (xs.map f).all id = true := by
  refine ⟨?_, ?_⟩
  · have := blsOf_map (xs.map f)
    rw [List.map_map] at this
    exact this
  · rw [List.all_eq_true]
    intro b hb
    obtain ⟨x, hx, rfl⟩ := List.mem_map.mp hb
    exact h x hx
theorem r_is_square : Reads t_is_square N_is_square 2 sp_is_square := by
  rintro ds M Q E hl ⟨b, x, rfl, h1, h2, h3, q⟩
  unfold t_is_square
  simp only [dNeg, sRet, sSeq, sAsg, sDrop, sIf, sNext, sSetLc, sFor, sFldD, sAug, sPar, sSub, sRetN, dAndV, dOrV, dNotV, dAnd, dOr, dNot, dB, dTru, dIf, dOp, dCall, dCallF, dMeth, dProp, dFld, dMake, dMakeC, dCons, dNil, dStar, dTup, dLst, dNew, dVar, dFrz, dC, dSlice, dPart, dNoPart, dMt, dLc, dYes, iLst, iTupD, iRngD1, iRngD2, iEnumD, iZipD, rF, dTg, startD, wipeD, setMany, List.map, List.set, List.length_cons, List.length_nil, List.replicate, List.append, List.cons_append, List.nil_append, List.append_nil, List.getElem?_cons_zero, List.getElem?_cons_succ, Nat.reduceAdd, Nat.reduceSub, Nat.sub_self, Nat.zero_add, Option.some.injEq, exists_eq_left, exists_eq_left', exists_eq_right, List.cons.injEq, and_true, true_and, if_true, if_false, Bool.false_eq_true, Bool.not_true, Bool.not_false, D.bl.injEq, D.int.injEq, D.cell.injEq, reduceCtorEq, false_and, and_false, exists_false, or_false, false_or, exists_and_left, exists_and_right]
  refine r_lenL (ds := x.map dRow) rfl (r_eqI ⟨true, ?_, ?_⟩)
  · rw [List.length_map, decide_eq_true h1]
  rw [if_pos rfl]
  refine ⟨_, rfl, by rw [List.length_map]; omega, lcM dRow (fun l => .bl (decide ((l.length : Int) = b))) trivial x (fun l hm K k => ?_) ?_⟩
  · simp only [dNeg, sRet, sSeq, sAsg, sDrop, sIf, sNext, sSetLc, sFor, sFldD, sAug, sPar, sSub, sRetN, dAndV, dOrV, dNotV, dAnd, dOr, dNot, dB, dTru, dIf, dOp, dCall, dCallF, dMeth, dProp, dFld, dMake, dMakeC, dCons, dNil, dStar, dTup, dLst, dNew, dVar, dFrz, dC, dSlice, dPart, dNoPart, dMt, dLc, dYes, iLst, iTupD, iRngD1, iRngD2, iEnumD, iZipD, rF, dTg, startD, wipeD, setMany, List.map, List.set, List.length_cons, List.length_nil, List.replicate, List.append, List.cons_append, List.nil_append, List.append_nil, List.getElem?_cons_zero, List.getElem?_cons_succ, Nat.reduceAdd, Nat.reduceSub, Nat.sub_self, Nat.zero_add, Option.some.injEq, exists_eq_left, exists_eq_left', exists_eq_right, List.cons.injEq, and_true, true_and, if_true, if_false, Bool.false_eq_true, Bool.not_true, Bool.not_false, D.bl.injEq, D.int.injEq, D.cell.injEq, reduceCtorEq, false_and, and_false, exists_false, or_false, false_or, exists_and_left, exists_and_right]
    refine r_lenL (ds := l.map dPane) rfl (r_eqI ?_)
    rw [List.length_map]; exact k
  · obtain ⟨z1, z2⟩ := bls_true (fun l : List Pane => decide ((l.length : Int) = b)) x (fun l hm => decide_eq_true (h2 l hm))
    exact r_all rfl z1 (by rw [z2]; exact lessQ.of q)
theorem r_kept_blocks : Reads t_kept_blocks N_kept_blocks 1 sp_kept_blocks := by
  rintro ds M Q E hl ⟨x, rfl, h1, h2, q⟩
  unfold t_kept_blocks
  simp only [dNeg, sRet, sSeq, sAsg, sDrop, sIf, sNext, sSetLc, sFor, sFldD, sAug, sPar, sSub, sRetN, dAndV, dOrV, dNotV, dAnd, dOr, dNot, dB, dTru, dIf, dOp, dCall, dCallF, dMeth, dProp, dFld, dMake, dMakeC, dCons, dNil, dStar, dTup, dLst, dNew, dVar, dFrz, dC, dSlice, dPart, dNoPart, dMt, dLc, dYes, iLst, iTupD, iRngD1, iRngD2, iEnumD, iZipD, rF, dTg, startD, wipeD, setMany, List.map, List.set, List.length_cons, List.length_nil, List.replicate, List.append, List.cons_append, List.nil_append, List.append_nil, List.getElem?_cons_zero, List.getElem?_cons_succ, Nat.reduceAdd, Nat.reduceSub, Nat.sub_self, Nat.zero_add, Option.some.injEq, exists_eq_left, exists_eq_left', exists_eq_right, List.cons.injEq, and_true, true_and, if_true, if_false, Bool.false_eq_true, Bool.not_true, Bool.not_false, D.bl.injEq, D.int.injEq, D.cell.injEq, reduceCtorEq, false_and, and_false, exists_false, or_false, false_or, exists_and_left, exists_and_right]
  refine ⟨_, rfl, by rw [List.length_map]; omega, lcM dRow kRow trivial x (fun l hm K k => ?_) (r_tup (lessQ.of q))⟩
  simp only [dNeg, sRet, sSeq, sAsg, sDrop, sIf, sNext, sSetLc, sFor, sFldD, sAug, sPar, sSub, sRetN, dAndV, dOrV, dNotV, dAnd, dOr, dNot, dB, dTru, dIf, dOp, dCall, dCallF, dMeth, dProp, dFld, dMake, dMakeC, dCons, dNil, dStar, dTup, dLst, dNew, dVar, dFrz, dC, dSlice, dPart, dNoPart, dMt, dLc, dYes, iLst, iTupD, iRngD1, iRngD2, iEnumD, iZipD, rF, dTg, startD, wipeD, setMany, List.map, List.set, List.length_cons, List.length_nil, List.replicate, List.append, List.cons_append, List.nil_append, List.append_nil, List.getElem?_cons_zero, List.getElem?_cons_succ, Nat.reduceAdd, Nat.reduceSub, Nat.sub_self, Nat.zero_add, Option.some.injEq, exists_eq_left, exists_eq_left', exists_eq_right, List.cons.injEq, and_true, true_and, if_true, if_false, Bool.false_eq_true, Bool.not_true, Bool.not_false, D.bl.injEq, D.int.injEq, D.cell.injEq, reduceCtorEq, false_and, and_false, exists_false, or_false, false_or, exists_and_left, exists_and_right]
  refine ⟨_, rfl, by rw [List.length_map]; have := (h2 l hm).1; omega, lcM dPane kPane trivial l (fun f hf K k => ?_) (r_tup k)⟩
  simp only [dNeg, sRet, sSeq, sAsg, sDrop, sIf, sNext, sSetLc, sFor, sFldD, sAug, sPar, sSub, sRetN, dAndV, dOrV, dNotV, dAnd, dOr, dNot, dB, dTru, dIf, dOp, dCall, dCallF, dMeth, dProp, dFld, dMake, dMakeC, dCons, dNil, dStar, dTup, dLst, dNew, dVar, dFrz, dC, dSlice, dPart, dNoPart, dMt, dLc, dYes, iLst, iTupD, iRngD1, iRngD2, iEnumD, iZipD, rF, dTg, startD, wipeD, setMany, List.map, List.set, List.length_cons, List.length_nil, List.replicate, List.append, List.cons_append, List.nil_append, List.append_nil, List.getElem?_cons_zero, List.getElem?_cons_succ, Nat.reduceAdd, Nat.reduceSub, Nat.sub_self, Nat.zero_add, Option.some.injEq, exists_eq_left, exists_eq_left', exists_eq_right, List.cons.injEq, and_true, true_and, if_true, if_false, Bool.false_eq_true, Bool.not_true, Bool.not_false, D.bl.injEq, D.int.injEq, D.cell.injEq, reduceCtorEq, false_and, and_false, exists_false, or_false, false_or, exists_and_left, exists_and_right]
  exact r_tup k
theorem r_Book_base : Reads t_Book_base N_Book_base 1 sp_Book_base := by
  rintro ds M Q E hl ⟨b, k, rfl, q⟩
  unfold t_Book_base
  simp only [dNeg, sRet, sSeq, sAsg, sDrop, sIf, sNext, sSetLc, sFor, sFldD, sAug, sPar, sSub, sRetN, dAndV, dOrV, dNotV, dAnd, dOr, dNot, dB, dTru, dIf, dOp, dCall, dCallF, dMeth, dProp, dFld, dMake, dMakeC, dCons, dNil, dStar, dTup, dLst, dNew, dVar, dFrz, dC, dSlice, dPart, dNoPart, dMt, dLc, dYes, iLst, iTupD, iRngD1, iRngD2, iEnumD, iZipD, rF, dTg, startD, wipeD, setMany, List.map, List.set, List.length_cons, List.length_nil, List.replicate, List.append, List.cons_append, List.nil_append, List.append_nil, List.getElem?_cons_zero, List.getElem?_cons_succ, Nat.reduceAdd, Nat.reduceSub, Nat.sub_self, Nat.zero_add, Option.some.injEq, exists_eq_left, exists_eq_left', exists_eq_right, List.cons.injEq, and_true, true_and, if_true, if_false, Bool.false_eq_true, Bool.not_true, Bool.not_false, D.bl.injEq, D.int.injEq, D.cell.injEq, reduceCtorEq, false_and, and_false, exists_false, or_false, false_or, exists_and_left, exists_and_right]
  exact ⟨_, rfl, lessQ.of q⟩
theorem r_Book_names : Reads t_Book_names N_Book_names 1 sp_Book_names := by
  rintro ds M Q E hl ⟨b, n, rfl, hn, q⟩
  unfold t_Book_names
  simp only [dNeg, sRet, sSeq, sAsg, sDrop, sIf, sNext, sSetLc, sFor, sFldD, sAug, sPar, sSub, sRetN, dAndV, dOrV, dNotV, dAnd, dOr, dNot, dB, dTru, dIf, dOp, dCall, dCallF, dMeth, dProp, dFld, dMake, dMakeC, dCons, dNil, dStar, dTup, dLst, dNew, dVar, dFrz, dC, dSlice, dPart, dNoPart, dMt, dLc, dYes, iLst, iTupD, iRngD1, iRngD2, iEnumD, iZipD, rF, dTg, startD, wipeD, setMany, List.map, List.set, List.length_cons, List.length_nil, List.replicate, List.append, List.cons_append, List.nil_append, List.append_nil, List.getElem?_cons_zero, List.getElem?_cons_succ, Nat.reduceAdd, Nat.reduceSub, Nat.sub_self, Nat.zero_add, Option.some.injEq, exists_eq_left, exists_eq_left', exists_eq_right, List.cons.injEq, and_true, true_and, if_true, if_false, Bool.false_eq_true, Bool.not_true, Bool.not_false, D.bl.injEq, D.int.injEq, D.cell.injEq, reduceCtorEq, false_and, and_false, exists_false, or_false, false_or, exists_and_left, exists_and_right]
  refine ⟨kNm n, rfl, n.map kEnt, rfl, by rw [List.length_map]; omega, lcM kEnt (fun x => .str x.1) trivial n (fun x hx K k => ?_) (lessQ.of q)⟩
  exact ⟨_, rfl, rfl, _, rfl, k⟩
theorem r_starts_of : Reads t_starts_of N_starts_of 1 sp_starts_of := by
  rintro ds M Q E hl ⟨b, n, rfl, hn, q⟩
  unfold t_starts_of
  simp only [dNeg, sRet, sSeq, sAsg, sDrop, sIf, sNext, sSetLc, sFor, sFldD, sAug, sPar, sSub, sRetN, dAndV, dOrV, dNotV, dAnd, dOr, dNot, dB, dTru, dIf, dOp, dCall, dCallF, dMeth, dProp, dFld, dMake, dMakeC, dCons, dNil, dStar, dTup, dLst, dNew, dVar, dFrz, dC, dSlice, dPart, dNoPart, dMt, dLc, dYes, iLst, iTupD, iRngD1, iRngD2, iEnumD, iZipD, rF, dTg, startD, wipeD, setMany, List.map, List.set, List.length_cons, List.length_nil, List.replicate, List.append, List.cons_append, List.nil_append, List.append_nil, List.getElem?_cons_zero, List.getElem?_cons_succ, Nat.reduceAdd, Nat.reduceSub, Nat.sub_self, Nat.zero_add, Option.some.injEq, exists_eq_left, exists_eq_left', exists_eq_right, List.cons.injEq, and_true, true_and, if_true, if_false, Bool.false_eq_true, Bool.not_true, Bool.not_false, D.bl.injEq, D.int.injEq, D.cell.injEq, reduceCtorEq, false_and, and_false, exists_false, or_false, false_or, exists_and_left, exists_and_right]
  refine ⟨kNm n, rfl, n.map kEnt, rfl, by rw [List.length_map]; omega, lcM kEnt (fun x => .int x.2.1) trivial n (fun x hx K k => ?_) (lessQ.of q)⟩
  exact ⟨_, rfl, rfl, _, rfl, k⟩
/-! ### the checks of blocks, the book -/
def signs (f : Pane) : List D := f.map fun p => .str p.2
def others (b : Blk) : Pane := b.flatten.flatten
theorem others_mem {b : Blk} {p : Int × Str} : p ∈ others b ↔ ∃ l ∈ b, ∃ f ∈ l, p ∈ f := by
  unfold others
  rw [List.mem_flatten]
  constructor
  · rintro ⟨f, hf, hp⟩
    obtain ⟨l, hl, hf⟩ := List.mem_flatten.mp hf
    exact ⟨l, hl, f, hf, hp⟩
  · rintro ⟨l, hl, f, hf, hp⟩
    exact ⟨f, List.mem_flatten.mpr ⟨l, hl, hf⟩, hp⟩
theorem flat_len {α β : Type} (f : α → List β) (c : Nat) : ∀ (xs : List α), (∀ x ∈ xs, (f x).length ≤ c) → (xs.flatMap f).length ≤ xs.length * c
  | [], _ => by simp
  | x :: xs, h => by
    have h1 := h x (by simp)
    have h2 := flat_len f c xs fun y hy => h y (List.mem_cons_of_mem _ hy)
    rw [List.flatMap_cons, List.length_append, List.length_cons, Nat.add_mul]
    omega
theorem signs_all (b : Blk) : b.flatMap (fun l => l.flatMap signs) = signs (others b) := by
  unfold signs others
  induction b with
  | nil => rfl
  | cons l b ih =>
    rw [List.flatMap_cons, ih, List.flatten_cons, List.flatten_append, List.map_append]
    congr 1
    induction l with
    | nil => rfl
    | cons f l ih2 => rw [List.flatMap_cons, ih2, List.flatten_cons, List.map_append]
theorem signs_flat : ∀ f : Pane, f.flatMap (fun p => [D.str p.2]) = signs f
  | [] => rfl
  | p :: f => by rw [List.flatMap_cons, signs_flat f]; rfl
theorem signs_len (b : Blk) (h : b.length ≤ 3) (h2 : ∀ l ∈ b, l.length ≤ 3 ∧ ∀ f ∈ l, f.length ≤ 100) : (signs (others b)).length ≤ 900 := by
  rw [← signs_all]
  have h1 : ∀ l ∈ b, (l.flatMap signs).length ≤ 300 := fun l hl => by
    have := flat_len signs 100 l fun f hf => by unfold signs; rw [List.length_map]; exact (h2 l hl).2 f hf
    have := (h2 l hl).1
    omega
  have := flat_len (fun l : List Pane => l.flatMap signs) 300 b h1
  omega
theorem r_check_blocks : Reads t_check_blocks N_check_blocks 2 sp_check_blocks := by
  rintro ds M Q E hl ⟨b, n, rfl, ok, q⟩
  unfold t_check_blocks
  simp only [dNeg, sRet, sSeq, sAsg, sDrop, sIf, sNext, sSetLc, sFor, sFldD, sAug, sPar, sSub, sRetN, dAndV, dOrV, dNotV, dAnd, dOr, dNot, dB, dTru, dIf, dOp, dCall, dCallF, dMeth, dProp, dFld, dMake, dMakeC, dCons, dNil, dStar, dTup, dLst, dNew, dVar, dFrz, dC, dSlice, dPart, dNoPart, dMt, dLc, dYes, iLst, iTupD, iRngD1, iRngD2, iEnumD, iZipD, rF, dTg, startD, wipeD, setMany, List.map, List.set, List.length_cons, List.length_nil, List.replicate, List.append, List.cons_append, List.nil_append, List.append_nil, List.getElem?_cons_zero, List.getElem?_cons_succ, Nat.reduceAdd, Nat.reduceSub, Nat.sub_self, Nat.zero_add, Option.some.injEq, exists_eq_left, exists_eq_left', exists_eq_right, List.cons.injEq, and_true, true_and, if_true, if_false, Bool.false_eq_true, Bool.not_true, Bool.not_false, D.bl.injEq, D.int.injEq, D.cell.injEq, reduceCtorEq, false_and, and_false, exists_false, or_false, false_or, exists_and_left, exists_and_right]
  have hb : b ≤ 3 ∧ 2 ≤ b := by rcases ok.base with h | h <;> omega
  have hn := ok.len
  refine ⟨_, rfl, by rw [List.length_map]; omega, lcM dEnt (fun x => .str x.1) trivial n (fun x hx K k => ⟨_, rfl, rfl, _, rfl, k⟩) ?_⟩
  refine ⟨_, rfl, ?_⟩
  have turns : ∀ (m : Nm) (e3 e4 e5 e6 e7 e8 e9 e10 : Option D) (D' : EndD), (∀ x ∈ m, x ∈ n) → (∀ env, D'.nx env M) →
      forTurns (.tp [3, 4, 5]) b_check_blocks_0 D' always (m.map dEnt) [some (.int b), some (dNm n), some (.lst (n.map fun x => .str x.1)), e3, e4, e5, e6, e7, e8, e9, e10] M := by
    intro m
    induction m with
    | nil => intro e3 e4 e5 e6 e7 e8 e9 e10 D' _ hD; exact ⟨trivial, hD _⟩
    | cons x m ih =>
      intro e3 e4 e5 e6 e7 e8 e9 e10 D' hm hD
      have hx : x ∈ n := hm x (by simp)
      have nx := fun a3 a4 a5 a6 a7 a8 a9 a10 => ih a3 a4 a5 a6 a7 a8 a9 a10 D' (fun y hy => hm y (List.mem_cons_of_mem _ hy)) hD
      refine ⟨trivial, _, rfl, rfl, ?_⟩
      generalize forTurns (.tp [3, 4, 5]) b_check_blocks_0 D' always (m.map dEnt) = Kn at nx ⊢
      unfold b_check_blocks_0
      simp only [sSeq, sSetLc, dLcN, iLst, dVar]
      obtain ⟨sq1, sq2⟩ := ok.sq x hx
      have pn := ok.pane x hx
      have small := signs_len x.2.2 (by omega) fun l hl => ⟨by have := sq2 l hl; omega, fun f hf => (pn l hl f hf).1⟩
      refine ⟨_, rfl, x.2.2.map dRow, rfl, tdM dRow (fun l => l.flatMap signs) trivial x.2.2 [] (by rw [signs_all, List.length_nil]; omega) (fun l hl acc K' hz k => ?_) ?_⟩
      · refine ⟨_, rfl, l.map dPane, rfl, tdM dPane signs trivial l acc hz (fun f hf acc K' hz k => ?_) k⟩
        have es := signs_flat f
        refine ⟨_, rfl, f.map dPr, rfl, tdM dPr (fun p => [.str p.2]) trivial f acc (by rw [es]; exact hz) (fun p hp acc K' hz k => ?_) (by rw [es]; exact k)⟩
        refine ⟨_, rfl, rfl, ?_⟩
        have hz' : acc.length < 100000 := by simp at hz; omega
        show acc.length < 100000 ∧ _
        refine ⟨hz', ?_⟩
        simp only [dNeg, sRet, sSeq, sAsg, sDrop, sIf, sNext, sSetLc, sFor, sFldD, sAug, sPar, sSub, sRetN, dAndV, dOrV, dNotV, dAnd, dOr, dNot, dB, dTru, dIf, dOp, dCall, dCallF, dMeth, dProp, dFld, dMake, dMakeC, dCons, dNil, dStar, dTup, dLst, dNew, dVar, dFrz, dC, dSlice, dPart, dNoPart, dMt, dLc, dYes, iLst, iTupD, iRngD1, iRngD2, iEnumD, iZipD, rF, dTg, startD, wipeD, setMany, List.map, List.set, List.length_cons, List.length_nil, List.replicate, List.append, List.cons_append, List.nil_append, List.append_nil, List.getElem?_cons_zero, List.getElem?_cons_succ, Nat.reduceAdd, Nat.reduceSub, Nat.sub_self, Nat.zero_add, Option.some.injEq, exists_eq_left, exists_eq_left', exists_eq_right, List.cons.injEq, and_true, true_and, if_true, if_false, Bool.false_eq_true, Bool.not_true, Bool.not_false, D.bl.injEq, D.int.injEq, D.cell.injEq, reduceCtorEq, false_and, and_false, exists_false, or_false, false_or, exists_and_left, exists_and_right]
        exact k
      · rw [signs_all, List.nil_append]
        simp only [dNeg, sRet, sSeq, sAsg, sDrop, sIf, sNext, sSetLc, sFor, sFldD, sAug, sPar, sSub, sRetN, dAndV, dOrV, dNotV, dAnd, dOr, dNot, dB, dTru, dIf, dOp, dCall, dCallF, dMeth, dProp, dFld, dMake, dMakeC, dCons, dNil, dStar, dTup, dLst, dNew, dVar, dFrz, dC, dSlice, dPart, dNoPart, dMt, dLc, dYes, iLst, iTupD, iRngD1, iRngD2, iEnumD, iZipD, rF, dTg, startD, wipeD, setMany, List.map, List.set, List.length_cons, List.length_nil, List.replicate, List.append, List.cons_append, List.nil_append, List.append_nil, List.getElem?_cons_zero, List.getElem?_cons_succ, Nat.reduceAdd, Nat.reduceSub, Nat.sub_self, Nat.zero_add, Option.some.injEq, exists_eq_left, exists_eq_left', exists_eq_right, List.cons.injEq, and_true, true_and, if_true, if_false, Bool.false_eq_true, Bool.not_true, Bool.not_false, D.bl.injEq, D.int.injEq, D.cell.injEq, reduceCtorEq, false_and, and_false, exists_false, or_false, false_or, exists_and_left, exists_and_right]
        refine ⟨b, x.2.2, rfl, sq1, sq2, by omega, true, rfl, ?_⟩
        simp only [dNeg, sRet, sSeq, sAsg, sDrop, sIf, sNext, sSetLc, sFor, sFldD, sAug, sPar, sSub, sRetN, dAndV, dOrV, dNotV, dAnd, dOr, dNot, dB, dTru, dIf, dOp, dCall, dCallF, dMeth, dProp, dFld, dMake, dMakeC, dCons, dNil, dStar, dTup, dLst, dNew, dVar, dFrz, dC, dSlice, dPart, dNoPart, dMt, dLc, dYes, iLst, iTupD, iRngD1, iRngD2, iEnumD, iZipD, rF, dTg, startD, wipeD, setMany, List.map, List.set, List.length_cons, List.length_nil, List.replicate, List.append, List.cons_append, List.nil_append, List.append_nil, List.getElem?_cons_zero, List.getElem?_cons_succ, Nat.reduceAdd, Nat.reduceSub, Nat.sub_self, Nat.zero_add, Option.some.injEq, exists_eq_left, exists_eq_left', exists_eq_right, List.cons.injEq, and_true, true_and, if_true, if_false, Bool.false_eq_true, Bool.not_true, Bool.not_false, D.bl.injEq, D.int.injEq, D.cell.injEq, reduceCtorEq, false_and, and_false, exists_false, or_false, false_or, exists_and_left, exists_and_right]
        refine ⟨_, rfl, by omega, ?_⟩
        have hin : ∀ p ∈ others x.2.2, p.2 ∈ n.map (·.1) := fun p hp => by
          obtain ⟨l, hl, f, hf, hp⟩ := others_mem.mp hp
          exact (pn l hl f hf).2 p hp
        refine lcM (fun p : Int × Str => D.str p.2) (fun p => .bl (decide (p.2 ∈ n.map (·.1)))) trivial (others x.2.2) (fun p hp K k => ?_) ?_
        · simp only [dNeg, sRet, sSeq, sAsg, sDrop, sIf, sNext, sSetLc, sFor, sFldD, sAug, sPar, sSub, sRetN, dAndV, dOrV, dNotV, dAnd, dOr, dNot, dB, dTru, dIf, dOp, dCall, dCallF, dMeth, dProp, dFld, dMake, dMakeC, dCons, dNil, dStar, dTup, dLst, dNew, dVar, dFrz, dC, dSlice, dPart, dNoPart, dMt, dLc, dYes, iLst, iTupD, iRngD1, iRngD2, iEnumD, iZipD, rF, dTg, startD, wipeD, setMany, List.map, List.set, List.length_cons, List.length_nil, List.replicate, List.append, List.cons_append, List.nil_append, List.append_nil, List.getElem?_cons_zero, List.getElem?_cons_succ, Nat.reduceAdd, Nat.reduceSub, Nat.sub_self, Nat.zero_add, Option.some.injEq, exists_eq_left, exists_eq_left', exists_eq_right, List.cons.injEq, and_true, true_and, if_true, if_false, Bool.false_eq_true, Bool.not_true, Bool.not_false, D.bl.injEq, D.int.injEq, D.cell.injEq, reduceCtorEq, false_and, and_false, exists_false, or_false, false_or, exists_and_left, exists_and_right]
          refine r_in ?_ k
          exact inF_names (M := M) (d := .lst (n.map fun x => .str x.1)) (xs := n.map (·.1)) (by rw [List.map_map]; rfl) fun s h => by cases h
        · obtain ⟨z1, z2⟩ := bls_true (fun p : Int × Str => decide (p.2 ∈ n.map (·.1))) (others x.2.2) (fun p hp => decide_eq_true (hin p hp))
          refine r_all rfl z1 ?_
          rw [z2]
          refine ⟨true, rfl, ?_⟩
          exact nx _ _ _ _ _ _ _ _
  exact turns n _ _ _ _ _ _ _ _ _ (fun x h => h) fun env => lessQ.of q
theorem r_Book__init : Reads t_Book__init N_Book__init 3 sp_Book__init := by
  rintro ds M Q E hl ⟨a, b, n, rfl, ok, hM, q⟩
  unfold t_Book__init
  simp only [dNeg, sRet, sSeq, sAsg, sDrop, sIf, sNext, sSetLc, sFor, sFldD, sAug, sPar, sSub, sRetN, dAndV, dOrV, dNotV, dAnd, dOr, dNot, dB, dTru, dIf, dOp, dCall, dCallF, dMeth, dProp, dFld, dMake, dMakeC, dCons, dNil, dStar, dTup, dLst, dNew, dVar, dFrz, dC, dSlice, dPart, dNoPart, dMt, dLc, dYes, iLst, iTupD, iRngD1, iRngD2, iEnumD, iZipD, rF, dTg, startD, wipeD, setMany, List.map, List.set, List.length_cons, List.length_nil, List.replicate, List.append, List.cons_append, List.nil_append, List.append_nil, List.getElem?_cons_zero, List.getElem?_cons_succ, Nat.reduceAdd, Nat.reduceSub, Nat.sub_self, Nat.zero_add, Option.some.injEq, exists_eq_left, exists_eq_left', exists_eq_right, List.cons.injEq, and_true, true_and, if_true, if_false, Bool.false_eq_true, Bool.not_true, Bool.not_false, D.bl.injEq, D.int.injEq, D.cell.injEq, reduceCtorEq, false_and, and_false, exists_false, or_false, false_or, exists_and_left, exists_and_right]
  have hn := ok.len
  refine r_notIn (b := true) ?_ ⟨false, rfl, ?_⟩
  · rcases ok.base with h | h <;> subst h <;> rfl
  rw [if_neg Bool.false_ne_true]
  refine ⟨n, rfl, ok.len, ok.name, ok.nd, ⟨b, n, rfl, ok, ?_⟩⟩
  refine ⟨"Book", [], [], hM, by decide, by decide, n.map dEnt, rfl, by rw [List.length_map]; omega, ?_⟩
  refine lcM dEnt kEnt trivial n (fun x hx K k => ?_) (r_tup ⟨"Book", ["radix"], [.int b], MS.put_same, by decide, by decide, ?_⟩)
  · refine ⟨_, rfl, rfl, ?_⟩
    simp only [dNeg, sRet, sSeq, sAsg, sDrop, sIf, sNext, sSetLc, sFor, sFldD, sAug, sPar, sSub, sRetN, dAndV, dOrV, dNotV, dAnd, dOr, dNot, dB, dTru, dIf, dOp, dCall, dCallF, dMeth, dProp, dFld, dMake, dMakeC, dCons, dNil, dStar, dTup, dLst, dNew, dVar, dFrz, dC, dSlice, dPart, dNoPart, dMt, dLc, dYes, iLst, iTupD, iRngD1, iRngD2, iEnumD, iZipD, rF, dTg, startD, wipeD, setMany, List.map, List.set, List.length_cons, List.length_nil, List.replicate, List.append, List.cons_append, List.nil_append, List.append_nil, List.getElem?_cons_zero, List.getElem?_cons_succ, Nat.reduceAdd, Nat.reduceSub, Nat.sub_self, Nat.zero_add, Option.some.injEq, exists_eq_left, exists_eq_left', exists_eq_right, List.cons.injEq, and_true, true_and, if_true, if_false, Bool.false_eq_true, Bool.not_true, Bool.not_false, D.bl.injEq, D.int.injEq, D.cell.injEq, reduceCtorEq, false_and, and_false, exists_false, or_false, false_or, exists_and_left, exists_and_right]
    obtain ⟨sq1, sq2⟩ := ok.sq x hx
    have pn := ok.pane x hx
    have hb : b ≤ 3 ∧ 2 ≤ b := by rcases ok.base with h | h <;> omega
    exact ⟨x.2.2, rfl, by omega, fun l hl => ⟨by have := sq2 l hl; omega, fun f hf => (pn l hl f hf).1⟩, by decide, k⟩
  · rw [MS.put_put]
    exact lessQ.of q
end HD
namespace HD
open PySem PySem.Spec L2
theorem r_neNil {M : MS} {Q : QD} {d : D} (h : look M d = .lst []) (q : Q (.bl false) M) : rDiffD d (.lst []) M Q := by
  refine .inr ⟨.list [], .list [], ?_, rfl, by decide, by decide, ?_⟩
  · rw [h]; rfl
  · exact q
theorem r_eqNil {M : MS} {Q : QD} {d : D} (h : look M d = .lst []) (q : Q (.bl true) M) : rEqualD d (.lst []) M Q := by
  refine .inr ⟨.list [], .list [], ?_, rfl, by decide, by decide, ?_⟩
  · rw [h]; rfl
  · exact q
theorem r_matrix_of : Reads t_matrix_of N_matrix_of 3 sp_matrix_of := by
  rintro ds M Q E hl ⟨b, u, l, rfl, q⟩
  unfold t_matrix_of
  simp only [dNeg, sRet, sSeq, sAsg, sDrop, sIf, sNext, sSetLc, sFor, sFldD, sAug, sPar, sSub, sRetN, dAndV, dOrV, dNotV, dAnd, dOr, dNot, dB, dTru, dIf, dOp, dCall, dCallF, dMeth, dProp, dFld, dMake, dMakeC, dCons, dNil, dStar, dTup, dLst, dNew, dVar, dFrz, dC, dSlice, dPart, dNoPart, dMt, dLc, dYes, iLst, iTupD, iRngD1, iRngD2, iEnumD, iZipD, rF, dTg, startD, wipeD, setMany, List.map, List.set, List.length_cons, List.length_nil, List.replicate, List.append, List.cons_append, List.nil_append, List.append_nil, List.getElem?_cons_zero, List.getElem?_cons_succ, Nat.reduceAdd, Nat.reduceSub, Nat.sub_self, Nat.zero_add, Option.some.injEq, exists_eq_left, exists_eq_left', exists_eq_right, List.cons.injEq, and_true, true_and, if_true, if_false, Bool.false_eq_true, Bool.not_true, Bool.not_false, D.bl.injEq, D.int.injEq, D.cell.injEq, reduceCtorEq, false_and, and_false, exists_false, or_false, false_or, exists_and_left, exists_and_right]
  refine ⟨rfl, b, [], rfl, by decide, by decide, fun a ha => ⟨kNm [], rfl, [], rfl, trivial, ?_⟩⟩
  simp only [dNeg, sRet, sSeq, sAsg, sDrop, sIf, sNext, sSetLc, sFor, sFldD, sAug, sPar, sSub, sRetN, dAndV, dOrV, dNotV, dAnd, dOr, dNot, dB, dTru, dIf, dOp, dCall, dCallF, dMeth, dProp, dFld, dMake, dMakeC, dCons, dNil, dStar, dTup, dLst, dNew, dVar, dFrz, dC, dSlice, dPart, dNoPart, dMt, dLc, dYes, iLst, iTupD, iRngD1, iRngD2, iEnumD, iZipD, rF, dTg, startD, wipeD, setMany, List.map, List.set, List.length_cons, List.length_nil, List.replicate, List.append, List.cons_append, List.nil_append, List.append_nil, List.getElem?_cons_zero, List.getElem?_cons_succ, Nat.reduceAdd, Nat.reduceSub, Nat.sub_self, Nat.zero_add, Option.some.injEq, exists_eq_left, exists_eq_left', exists_eq_right, List.cons.injEq, and_true, true_and, if_true, if_false, Bool.false_eq_true, Bool.not_true, Bool.not_false, D.bl.injEq, D.int.injEq, D.cell.injEq, reduceCtorEq, false_and, and_false, exists_false, or_false, false_or, exists_and_left, exists_and_right]
  refine ⟨[], MS.put_same, ?_⟩
  rw [MS.del_put ha]; exact lessQ.of q
theorem r_common_divisor : Reads t_common_divisor N_common_divisor 1 sp_common_divisor := by
  rintro ds M Q E hl ⟨rfl, q⟩
  unfold t_common_divisor
  simp only [dNeg, sRet, sSeq, sAsg, sDrop, sIf, sNext, sSetLc, sFor, sFldD, sAug, sPar, sSub, sRetN, dAndV, dOrV, dNotV, dAnd, dOr, dNot, dB, dTru, dIf, dOp, dCall, dCallF, dMeth, dProp, dFld, dMake, dMakeC, dCons, dNil, dStar, dTup, dLst, dNew, dVar, dFrz, dC, dSlice, dPart, dNoPart, dMt, dLc, dYes, iLst, iTupD, iRngD1, iRngD2, iEnumD, iZipD, rF, dTg, startD, wipeD, setMany, List.map, List.set, List.length_cons, List.length_nil, List.replicate, List.append, List.cons_append, List.nil_append, List.append_nil, List.getElem?_cons_zero, List.getElem?_cons_succ, Nat.reduceAdd, Nat.reduceSub, Nat.sub_self, Nat.zero_add, Option.some.injEq, exists_eq_left, exists_eq_left', exists_eq_right, List.cons.injEq, and_true, true_and, if_true, if_false, Bool.false_eq_true, Bool.not_true, Bool.not_false, D.bl.injEq, D.int.injEq, D.cell.injEq, reduceCtorEq, false_and, and_false, exists_false, or_false, false_or, exists_and_left, exists_and_right]
  exact ⟨_, rfl, trivial, _, rfl, lessQ.of q⟩
theorem r_in_steps : Reads t_in_steps N_in_steps 1 sp_in_steps := by
  rintro ds M Q E hl ⟨rfl, q⟩
  unfold t_in_steps
  simp only [dNeg, sRet, sSeq, sAsg, sDrop, sIf, sNext, sSetLc, sFor, sFldD, sAug, sPar, sSub, sRetN, dAndV, dOrV, dNotV, dAnd, dOr, dNot, dB, dTru, dIf, dOp, dCall, dCallF, dMeth, dProp, dFld, dMake, dMakeC, dCons, dNil, dStar, dTup, dLst, dNew, dVar, dFrz, dC, dSlice, dPart, dNoPart, dMt, dLc, dYes, iLst, iTupD, iRngD1, iRngD2, iEnumD, iZipD, rF, dTg, startD, wipeD, setMany, List.map, List.set, List.length_cons, List.length_nil, List.replicate, List.append, List.cons_append, List.nil_append, List.append_nil, List.getElem?_cons_zero, List.getElem?_cons_succ, Nat.reduceAdd, Nat.reduceSub, Nat.sub_self, Nat.zero_add, Option.some.injEq, exists_eq_left, exists_eq_left', exists_eq_right, List.cons.injEq, and_true, true_and, if_true, if_false, Bool.false_eq_true, Bool.not_true, Bool.not_false, D.bl.injEq, D.int.injEq, D.cell.injEq, reduceCtorEq, false_and, and_false, exists_false, or_false, false_or, exists_and_left, exists_and_right]
  refine ⟨by decide, fun a ha => ⟨by decide, r_neNil rfl ⟨false, rfl, ?_⟩⟩⟩
  simp only [dNeg, sRet, sSeq, sAsg, sDrop, sIf, sNext, sSetLc, sFor, sFldD, sAug, sPar, sSub, sRetN, dAndV, dOrV, dNotV, dAnd, dOr, dNot, dB, dTru, dIf, dOp, dCall, dCallF, dMeth, dProp, dFld, dMake, dMakeC, dCons, dNil, dStar, dTup, dLst, dNew, dVar, dFrz, dC, dSlice, dPart, dNoPart, dMt, dLc, dYes, iLst, iTupD, iRngD1, iRngD2, iEnumD, iZipD, rF, dTg, startD, wipeD, setMany, List.map, List.set, List.length_cons, List.length_nil, List.replicate, List.append, List.cons_append, List.nil_append, List.append_nil, List.getElem?_cons_zero, List.getElem?_cons_succ, Nat.reduceAdd, Nat.reduceSub, Nat.sub_self, Nat.zero_add, Option.some.injEq, exists_eq_left, exists_eq_left', exists_eq_right, List.cons.injEq, and_true, true_and, if_true, if_false, Bool.false_eq_true, Bool.not_true, Bool.not_false, D.bl.injEq, D.int.injEq, D.cell.injEq, reduceCtorEq, false_and, and_false, exists_false, or_false, false_or, exists_and_left, exists_and_right]
  refine ⟨by decide, by decide, trivial, ?_⟩
  simp only [dNeg, sRet, sSeq, sAsg, sDrop, sIf, sNext, sSetLc, sFor, sFldD, sAug, sPar, sSub, sRetN, dAndV, dOrV, dNotV, dAnd, dOr, dNot, dB, dTru, dIf, dOp, dCall, dCallF, dMeth, dProp, dFld, dMake, dMakeC, dCons, dNil, dStar, dTup, dLst, dNew, dVar, dFrz, dC, dSlice, dPart, dNoPart, dMt, dLc, dYes, iLst, iTupD, iRngD1, iRngD2, iEnumD, iZipD, rF, dTg, startD, wipeD, setMany, List.map, List.set, List.length_cons, List.length_nil, List.replicate, List.append, List.cons_append, List.nil_append, List.append_nil, List.getElem?_cons_zero, List.getElem?_cons_succ, Nat.reduceAdd, Nat.reduceSub, Nat.sub_self, Nat.zero_add, Option.some.injEq, exists_eq_left, exists_eq_left', exists_eq_right, List.cons.injEq, and_true, true_and, if_true, if_false, Bool.false_eq_true, Bool.not_true, Bool.not_false, D.bl.injEq, D.int.injEq, D.cell.injEq, reduceCtorEq, false_and, and_false, exists_false, or_false, false_or, exists_and_left, exists_and_right]
  refine ⟨[], MS.put_same, ?_⟩
  rw [MS.del_put ha]; exact lessQ.of q
theorem r_shares_of : Reads t_shares_of N_shares_of 2 sp_shares_of := by
  rintro ds M Q E hl ⟨rfl, q⟩
  unfold t_shares_of
  simp only [dNeg, sRet, sSeq, sAsg, sDrop, sIf, sNext, sSetLc, sFor, sFldD, sAug, sPar, sSub, sRetN, dAndV, dOrV, dNotV, dAnd, dOr, dNot, dB, dTru, dIf, dOp, dCall, dCallF, dMeth, dProp, dFld, dMake, dMakeC, dCons, dNil, dStar, dTup, dLst, dNew, dVar, dFrz, dC, dSlice, dPart, dNoPart, dMt, dLc, dYes, iLst, iTupD, iRngD1, iRngD2, iEnumD, iZipD, rF, dTg, startD, wipeD, setMany, List.map, List.set, List.length_cons, List.length_nil, List.replicate, List.append, List.cons_append, List.nil_append, List.append_nil, List.getElem?_cons_zero, List.getElem?_cons_succ, Nat.reduceAdd, Nat.reduceSub, Nat.sub_self, Nat.zero_add, Option.some.injEq, exists_eq_left, exists_eq_left', exists_eq_right, List.cons.injEq, and_true, true_and, if_true, if_false, Bool.false_eq_true, Bool.not_true, Bool.not_false, D.bl.injEq, D.int.injEq, D.cell.injEq, reduceCtorEq, false_and, and_false, exists_false, or_false, false_or, exists_and_left, exists_and_right]
  refine ⟨by decide, fun a ha => ⟨_, rfl, trivial, ?_⟩⟩
  simp only [dNeg, sRet, sSeq, sAsg, sDrop, sIf, sNext, sSetLc, sFor, sFldD, sAug, sPar, sSub, sRetN, dAndV, dOrV, dNotV, dAnd, dOr, dNot, dB, dTru, dIf, dOp, dCall, dCallF, dMeth, dProp, dFld, dMake, dMakeC, dCons, dNil, dStar, dTup, dLst, dNew, dVar, dFrz, dC, dSlice, dPart, dNoPart, dMt, dLc, dYes, iLst, iTupD, iRngD1, iRngD2, iEnumD, iZipD, rF, dTg, startD, wipeD, setMany, List.map, List.set, List.length_cons, List.length_nil, List.replicate, List.append, List.cons_append, List.nil_append, List.append_nil, List.getElem?_cons_zero, List.getElem?_cons_succ, Nat.reduceAdd, Nat.reduceSub, Nat.sub_self, Nat.zero_add, Option.some.injEq, exists_eq_left, exists_eq_left', exists_eq_right, List.cons.injEq, and_true, true_and, if_true, if_false, Bool.false_eq_true, Bool.not_true, Bool.not_false, D.bl.injEq, D.int.injEq, D.cell.injEq, reduceCtorEq, false_and, and_false, exists_false, or_false, false_or, exists_and_left, exists_and_right]
  refine r_anyI (ns := []) rfl rfl ⟨false, rfl, ?_⟩
  simp only [dNeg, sRet, sSeq, sAsg, sDrop, sIf, sNext, sSetLc, sFor, sFldD, sAug, sPar, sSub, sRetN, dAndV, dOrV, dNotV, dAnd, dOr, dNot, dB, dTru, dIf, dOp, dCall, dCallF, dMeth, dProp, dFld, dMake, dMakeC, dCons, dNil, dStar, dTup, dLst, dNew, dVar, dFrz, dC, dSlice, dPart, dNoPart, dMt, dLc, dYes, iLst, iTupD, iRngD1, iRngD2, iEnumD, iZipD, rF, dTg, startD, wipeD, setMany, List.map, List.set, List.length_cons, List.length_nil, List.replicate, List.append, List.cons_append, List.nil_append, List.append_nil, List.getElem?_cons_zero, List.getElem?_cons_succ, Nat.reduceAdd, Nat.reduceSub, Nat.sub_self, Nat.zero_add, Option.some.injEq, exists_eq_left, exists_eq_left', exists_eq_right, List.cons.injEq, and_true, true_and, if_true, if_false, Bool.false_eq_true, Bool.not_true, Bool.not_false, D.bl.injEq, D.int.injEq, D.cell.injEq, reduceCtorEq, false_and, and_false, exists_false, or_false, false_or, exists_and_left, exists_and_right]
  refine ⟨[], MS.put_same, ?_⟩
  rw [MS.del_put ha]; exact lessQ.of q
theorem r_Span__init : Reads t_Span__init N_Span__init 1 sp_Span__init := by
  rintro ds M Q E hl ⟨a, rfl, hM, q⟩
  unfold t_Span__init
  simp only [dNeg, sRet, sSeq, sAsg, sDrop, sIf, sNext, sSetLc, sFor, sFldD, sAug, sPar, sSub, sRetN, dAndV, dOrV, dNotV, dAnd, dOr, dNot, dB, dTru, dIf, dOp, dCall, dCallF, dMeth, dProp, dFld, dMake, dMakeC, dCons, dNil, dStar, dTup, dLst, dNew, dVar, dFrz, dC, dSlice, dPart, dNoPart, dMt, dLc, dYes, iLst, iTupD, iRngD1, iRngD2, iEnumD, iZipD, rF, dTg, startD, wipeD, setMany, List.map, List.set, List.length_cons, List.length_nil, List.replicate, List.append, List.cons_append, List.nil_append, List.append_nil, List.getElem?_cons_zero, List.getElem?_cons_succ, Nat.reduceAdd, Nat.reduceSub, Nat.sub_self, Nat.zero_add, Option.some.injEq, exists_eq_left, exists_eq_left', exists_eq_right, List.cons.injEq, and_true, true_and, if_true, if_false, Bool.false_eq_true, Bool.not_true, Bool.not_false, D.bl.injEq, D.int.injEq, D.cell.injEq, reduceCtorEq, false_and, and_false, exists_false, or_false, false_or, exists_and_left, exists_and_right]
  exact ⟨by decide, "Span", [], [], hM, rfl, by decide, lessQ.of q⟩
theorem r_Span_rest : Reads t_Span_rest N_Span_rest 2 sp_Span_rest := by
  rintro ds M Q E hl ⟨a, rfl, hM, q⟩
  unfold t_Span_rest
  simp only [dNeg, sRet, sSeq, sAsg, sDrop, sIf, sNext, sSetLc, sFor, sFldD, sAug, sPar, sSub, sRetN, dAndV, dOrV, dNotV, dAnd, dOr, dNot, dB, dTru, dIf, dOp, dCall, dCallF, dMeth, dProp, dFld, dMake, dMakeC, dCons, dNil, dStar, dTup, dLst, dNew, dVar, dFrz, dC, dSlice, dPart, dNoPart, dMt, dLc, dYes, iLst, iTupD, iRngD1, iRngD2, iEnumD, iZipD, rF, dTg, startD, wipeD, setMany, List.map, List.set, List.length_cons, List.length_nil, List.replicate, List.append, List.cons_append, List.nil_append, List.append_nil, List.getElem?_cons_zero, List.getElem?_cons_succ, Nat.reduceAdd, Nat.reduceSub, Nat.sub_self, Nat.zero_add, Option.some.injEq, exists_eq_left, exists_eq_left', exists_eq_right, List.cons.injEq, and_true, true_and, if_true, if_false, Bool.false_eq_true, Bool.not_true, Bool.not_false, D.bl.injEq, D.int.injEq, D.cell.injEq, reduceCtorEq, false_and, and_false, exists_false, or_false, false_or, exists_and_left, exists_and_right]
  refine ⟨.lst [], by rw [fld_cell hM rfl]; rfl, [], rfl, trivial, ?_⟩
  simp only [dNeg, sRet, sSeq, sAsg, sDrop, sIf, sNext, sSetLc, sFor, sFldD, sAug, sPar, sSub, sRetN, dAndV, dOrV, dNotV, dAnd, dOr, dNot, dB, dTru, dIf, dOp, dCall, dCallF, dMeth, dProp, dFld, dMake, dMakeC, dCons, dNil, dStar, dTup, dLst, dNew, dVar, dFrz, dC, dSlice, dPart, dNoPart, dMt, dLc, dYes, iLst, iTupD, iRngD1, iRngD2, iEnumD, iZipD, rF, dTg, startD, wipeD, setMany, List.map, List.set, List.length_cons, List.length_nil, List.replicate, List.append, List.cons_append, List.nil_append, List.append_nil, List.getElem?_cons_zero, List.getElem?_cons_succ, Nat.reduceAdd, Nat.reduceSub, Nat.sub_self, Nat.zero_add, Option.some.injEq, exists_eq_left, exists_eq_left', exists_eq_right, List.cons.injEq, and_true, true_and, if_true, if_false, Bool.false_eq_true, Bool.not_true, Bool.not_false, D.bl.injEq, D.int.injEq, D.cell.injEq, reduceCtorEq, false_and, and_false, exists_false, or_false, false_or, exists_and_left, exists_and_right]
  refine ⟨rfl, r_int trivial ⟨false, rfl, ?_⟩⟩
  simp only [dNeg, sRet, sSeq, sAsg, sDrop, sIf, sNext, sSetLc, sFor, sFldD, sAug, sPar, sSub, sRetN, dAndV, dOrV, dNotV, dAnd, dOr, dNot, dB, dTru, dIf, dOp, dCall, dCallF, dMeth, dProp, dFld, dMake, dMakeC, dCons, dNil, dStar, dTup, dLst, dNew, dVar, dFrz, dC, dSlice, dPart, dNoPart, dMt, dLc, dYes, iLst, iTupD, iRngD1, iRngD2, iEnumD, iZipD, rF, dTg, startD, wipeD, setMany, List.map, List.set, List.length_cons, List.length_nil, List.replicate, List.append, List.cons_append, List.nil_append, List.append_nil, List.getElem?_cons_zero, List.getElem?_cons_succ, Nat.reduceAdd, Nat.reduceSub, Nat.sub_self, Nat.zero_add, Option.some.injEq, exists_eq_left, exists_eq_left', exists_eq_right, List.cons.injEq, and_true, true_and, if_true, if_false, Bool.false_eq_true, Bool.not_true, Bool.not_false, D.bl.injEq, D.int.injEq, D.cell.injEq, reduceCtorEq, false_and, and_false, exists_false, or_false, false_or, exists_and_left, exists_and_right]
  exact r_list rfl (lessQ.of q)
theorem r_Span_take : Reads t_Span_take N_Span_take 2 sp_Span_take := by
  rintro ds M Q E hl ⟨a, rfl, hM, q⟩
  unfold t_Span_take
  simp only [dNeg, sRet, sSeq, sAsg, sDrop, sIf, sNext, sSetLc, sFor, sFldD, sAug, sPar, sSub, sRetN, dAndV, dOrV, dNotV, dAnd, dOr, dNot, dB, dTru, dIf, dOp, dCall, dCallF, dMeth, dProp, dFld, dMake, dMakeC, dCons, dNil, dStar, dTup, dLst, dNew, dVar, dFrz, dC, dSlice, dPart, dNoPart, dMt, dLc, dYes, iLst, iTupD, iRngD1, iRngD2, iEnumD, iZipD, rF, dTg, startD, wipeD, setMany, List.map, List.set, List.length_cons, List.length_nil, List.replicate, List.append, List.cons_append, List.nil_append, List.append_nil, List.getElem?_cons_zero, List.getElem?_cons_succ, Nat.reduceAdd, Nat.reduceSub, Nat.sub_self, Nat.zero_add, Option.some.injEq, exists_eq_left, exists_eq_left', exists_eq_right, List.cons.injEq, and_true, true_and, if_true, if_false, Bool.false_eq_true, Bool.not_true, Bool.not_false, D.bl.injEq, D.int.injEq, D.cell.injEq, reduceCtorEq, false_and, and_false, exists_false, or_false, false_or, exists_and_left, exists_and_right]
  refine ⟨isCls_cell hM rfl, ⟨a, rfl, hM, r_anyI (ns := []) rfl rfl ⟨false, rfl, ?_⟩⟩⟩
  simp only [dNeg, sRet, sSeq, sAsg, sDrop, sIf, sNext, sSetLc, sFor, sFldD, sAug, sPar, sSub, sRetN, dAndV, dOrV, dNotV, dAnd, dOr, dNot, dB, dTru, dIf, dOp, dCall, dCallF, dMeth, dProp, dFld, dMake, dMakeC, dCons, dNil, dStar, dTup, dLst, dNew, dVar, dFrz, dC, dSlice, dPart, dNoPart, dMt, dLc, dYes, iLst, iTupD, iRngD1, iRngD2, iEnumD, iZipD, rF, dTg, startD, wipeD, setMany, List.map, List.set, List.length_cons, List.length_nil, List.replicate, List.append, List.cons_append, List.nil_append, List.append_nil, List.getElem?_cons_zero, List.getElem?_cons_succ, Nat.reduceAdd, Nat.reduceSub, Nat.sub_self, Nat.zero_add, Option.some.injEq, exists_eq_left, exists_eq_left', exists_eq_right, List.cons.injEq, and_true, true_and, if_true, if_false, Bool.false_eq_true, Bool.not_true, Bool.not_false, D.bl.injEq, D.int.injEq, D.cell.injEq, reduceCtorEq, false_and, and_false, exists_false, or_false, false_or, exists_and_left, exists_and_right]
  exact lessQ.of q
theorem r_System__init : Reads t_System__init N_System__init 4 sp_System__init := by
  rintro ds M Q E hl ⟨a, s, m, f, rfl, hM, q⟩
  unfold t_System__init
  simp only [dNeg, sRet, sSeq, sAsg, sDrop, sIf, sNext, sSetLc, sFor, sFldD, sAug, sPar, sSub, sRetN, dAndV, dOrV, dNotV, dAnd, dOr, dNot, dB, dTru, dIf, dOp, dCall, dCallF, dMeth, dProp, dFld, dMake, dMakeC, dCons, dNil, dStar, dTup, dLst, dNew, dVar, dFrz, dC, dSlice, dPart, dNoPart, dMt, dLc, dYes, iLst, iTupD, iRngD1, iRngD2, iEnumD, iZipD, rF, dTg, startD, wipeD, setMany, List.map, List.set, List.length_cons, List.length_nil, List.replicate, List.append, List.cons_append, List.nil_append, List.append_nil, List.getElem?_cons_zero, List.getElem?_cons_succ, Nat.reduceAdd, Nat.reduceSub, Nat.sub_self, Nat.zero_add, Option.some.injEq, exists_eq_left, exists_eq_left', exists_eq_right, List.cons.injEq, and_true, true_and, if_true, if_false, Bool.false_eq_true, Bool.not_true, Bool.not_false, D.bl.injEq, D.int.injEq, D.cell.injEq, reduceCtorEq, false_and, and_false, exists_false, or_false, false_or, exists_and_left, exists_and_right]
  refine ⟨"System", [], [], hM, rfl, by decide, "System", ["starts"], [s], MS.put_same, rfl, by decide, "System", ["starts", "matrices"], [s, m], MS.put_same, rfl, by decide, ?_⟩
  rw [MS.put_put, MS.put_put]
  exact lessQ.of q
theorem r_System_block_count : Reads t_System_block_count N_System_block_count 1 sp_System_block_count := by
  rintro ds M Q E hl ⟨s, ms, f, rfl, q⟩
  unfold t_System_block_count
  simp only [dNeg, sRet, sSeq, sAsg, sDrop, sIf, sNext, sSetLc, sFor, sFldD, sAug, sPar, sSub, sRetN, dAndV, dOrV, dNotV, dAnd, dOr, dNot, dB, dTru, dIf, dOp, dCall, dCallF, dMeth, dProp, dFld, dMake, dMakeC, dCons, dNil, dStar, dTup, dLst, dNew, dVar, dFrz, dC, dSlice, dPart, dNoPart, dMt, dLc, dYes, iLst, iTupD, iRngD1, iRngD2, iEnumD, iZipD, rF, dTg, startD, wipeD, setMany, List.map, List.set, List.length_cons, List.length_nil, List.replicate, List.append, List.cons_append, List.nil_append, List.append_nil, List.getElem?_cons_zero, List.getElem?_cons_succ, Nat.reduceAdd, Nat.reduceSub, Nat.sub_self, Nat.zero_add, Option.some.injEq, exists_eq_left, exists_eq_left', exists_eq_right, List.cons.injEq, and_true, true_and, if_true, if_false, Bool.false_eq_true, Bool.not_true, Bool.not_false, D.bl.injEq, D.int.injEq, D.cell.injEq, reduceCtorEq, false_and, and_false, exists_false, or_false, false_or, exists_and_left, exists_and_right]
  exact ⟨.lst ms, rfl, r_lenL rfl (lessQ.of q)⟩
theorem r_Table_book : Reads t_Table_book N_Table_book 1 sp_Table_book := by
  rintro ds M Q E hl ⟨x, y, rfl, q⟩
  unfold t_Table_book
  simp only [dNeg, sRet, sSeq, sAsg, sDrop, sIf, sNext, sSetLc, sFor, sFldD, sAug, sPar, sSub, sRetN, dAndV, dOrV, dNotV, dAnd, dOr, dNot, dB, dTru, dIf, dOp, dCall, dCallF, dMeth, dProp, dFld, dMake, dMakeC, dCons, dNil, dStar, dTup, dLst, dNew, dVar, dFrz, dC, dSlice, dPart, dNoPart, dMt, dLc, dYes, iLst, iTupD, iRngD1, iRngD2, iEnumD, iZipD, rF, dTg, startD, wipeD, setMany, List.map, List.set, List.length_cons, List.length_nil, List.replicate, List.append, List.cons_append, List.nil_append, List.append_nil, List.getElem?_cons_zero, List.getElem?_cons_succ, Nat.reduceAdd, Nat.reduceSub, Nat.sub_self, Nat.zero_add, Option.some.injEq, exists_eq_left, exists_eq_left', exists_eq_right, List.cons.injEq, and_true, true_and, if_true, if_false, Bool.false_eq_true, Bool.not_true, Bool.not_false, D.bl.injEq, D.int.injEq, D.cell.injEq, reduceCtorEq, false_and, and_false, exists_false, or_false, false_or, exists_and_left, exists_and_right]
  exact ⟨x, rfl, lessQ.of q⟩
theorem r_Table_shares : Reads t_Table_shares N_Table_shares 1 sp_Table_shares := by
  rintro ds M Q E hl ⟨x, ys, rfl, q⟩
  unfold t_Table_shares
  simp only [dNeg, sRet, sSeq, sAsg, sDrop, sIf, sNext, sSetLc, sFor, sFldD, sAug, sPar, sSub, sRetN, dAndV, dOrV, dNotV, dAnd, dOr, dNot, dB, dTru, dIf, dOp, dCall, dCallF, dMeth, dProp, dFld, dMake, dMakeC, dCons, dNil, dStar, dTup, dLst, dNew, dVar, dFrz, dC, dSlice, dPart, dNoPart, dMt, dLc, dYes, iLst, iTupD, iRngD1, iRngD2, iEnumD, iZipD, rF, dTg, startD, wipeD, setMany, List.map, List.set, List.length_cons, List.length_nil, List.replicate, List.append, List.cons_append, List.nil_append, List.append_nil, List.getElem?_cons_zero, List.getElem?_cons_succ, Nat.reduceAdd, Nat.reduceSub, Nat.sub_self, Nat.zero_add, Option.some.injEq, exists_eq_left, exists_eq_left', exists_eq_right, List.cons.injEq, and_true, true_and, if_true, if_false, Bool.false_eq_true, Bool.not_true, Bool.not_false, D.bl.injEq, D.int.injEq, D.cell.injEq, reduceCtorEq, false_and, and_false, exists_false, or_false, false_or, exists_and_left, exists_and_right]
  exact ⟨.tup ys, rfl, r_list rfl (lessQ.of q)⟩
theorem r_Table__init : Reads t_Table__init N_Table__init 3 sp_Table__init := by
  rintro ds M Q E hl ⟨a, b, n, sh, rfl, h1, h2, hM, q⟩
  unfold t_Table__init
  simp only [dNeg, sRet, sSeq, sAsg, sDrop, sIf, sNext, sSetLc, sFor, sFldD, sAug, sPar, sSub, sRetN, dAndV, dOrV, dNotV, dAnd, dOr, dNot, dB, dTru, dIf, dOp, dCall, dCallF, dMeth, dProp, dFld, dMake, dMakeC, dCons, dNil, dStar, dTup, dLst, dNew, dVar, dFrz, dC, dSlice, dPart, dNoPart, dMt, dLc, dYes, iLst, iTupD, iRngD1, iRngD2, iEnumD, iZipD, rF, dTg, startD, wipeD, setMany, List.map, List.set, List.length_cons, List.length_nil, List.replicate, List.append, List.cons_append, List.nil_append, List.append_nil, List.getElem?_cons_zero, List.getElem?_cons_succ, Nat.reduceAdd, Nat.reduceSub, Nat.sub_self, Nat.zero_add, Option.some.injEq, exists_eq_left, exists_eq_left', exists_eq_right, List.cons.injEq, and_true, true_and, if_true, if_false, Bool.false_eq_true, Bool.not_true, Bool.not_false, D.bl.injEq, D.int.injEq, D.cell.injEq, reduceCtorEq, false_and, and_false, exists_false, or_false, false_or, exists_and_left, exists_and_right]
  refine r_lenL rfl ⟨rfl, ⟨b, n, rfl, h2, r_lenL rfl (r_neI ⟨false, ?_, ?_⟩)⟩⟩
  · rw [List.length_map, List.length_map, h1]; simp
  simp only [dNeg, sRet, sSeq, sAsg, sDrop, sIf, sNext, sSetLc, sFor, sFldD, sAug, sPar, sSub, sRetN, dAndV, dOrV, dNotV, dAnd, dOr, dNot, dB, dTru, dIf, dOp, dCall, dCallF, dMeth, dProp, dFld, dMake, dMakeC, dCons, dNil, dStar, dTup, dLst, dNew, dVar, dFrz, dC, dSlice, dPart, dNoPart, dMt, dLc, dYes, iLst, iTupD, iRngD1, iRngD2, iEnumD, iZipD, rF, dTg, startD, wipeD, setMany, List.map, List.set, List.length_cons, List.length_nil, List.replicate, List.append, List.cons_append, List.nil_append, List.append_nil, List.getElem?_cons_zero, List.getElem?_cons_succ, Nat.reduceAdd, Nat.reduceSub, Nat.sub_self, Nat.zero_add, Option.some.injEq, exists_eq_left, exists_eq_left', exists_eq_right, List.cons.injEq, and_true, true_and, if_true, if_false, Bool.false_eq_true, Bool.not_true, Bool.not_false, D.bl.injEq, D.int.injEq, D.cell.injEq, reduceCtorEq, false_and, and_false, exists_false, or_false, false_or, exists_and_left, exists_and_right]
  refine ⟨"Table", [], [], hM, rfl, by decide, r_tup ⟨"Table", ["told_by"], [bookD b n], MS.put_same, rfl, by decide, ?_⟩⟩
  rw [MS.put_put]
  exact lessQ.of q
end HD
namespace HD
open PySem PySem.Spec L2
theorem r_Book__eq {G : Gx} : Reads (t_Book__eq G) N_Book__eq 2 sp_Book__eq := by
  rintro ds M Q E hl ⟨r, k, r', k', n, b, rfl, hn, h, q⟩
  unfold t_Book__eq
  simp only [dNeg, sRet, sSeq, sAsg, sDrop, sIf, sNext, sSetLc, sFor, sFldD, sAug, sPar, sSub, sRetN, dAndV, dOrV, dNotV, dAnd, dOr, dNot, dB, dTru, dIf, dOp, dCall, dCallF, dMeth, dProp, dFld, dMake, dMakeC, dCons, dNil, dStar, dTup, dLst, dNew, dVar, dFrz, dC, dSlice, dPart, dNoPart, dMt, dLc, dYes, iLst, iTupD, iRngD1, iRngD2, iEnumD, iZipD, rF, dTg, startD, wipeD, setMany, List.map, List.set, List.length_cons, List.length_nil, List.replicate, List.append, List.cons_append, List.nil_append, List.append_nil, List.getElem?_cons_zero, List.getElem?_cons_succ, Nat.reduceAdd, Nat.reduceSub, Nat.sub_self, Nat.zero_add, Option.some.injEq, exists_eq_left, exists_eq_left', exists_eq_right, List.cons.injEq, and_true, true_and, if_true, if_false, Bool.false_eq_true, Bool.not_true, Bool.not_false, D.bl.injEq, D.int.injEq, D.cell.injEq, reduceCtorEq, false_and, and_false, exists_false, or_false, false_or, exists_and_left, exists_and_right]
  refine ⟨_, .c "Book", rfl, rfl, by decide, true, rfl, ?_⟩
  simp only [dNeg, sRet, sSeq, sAsg, sDrop, sIf, sNext, sSetLc, sFor, sFldD, sAug, sPar, sSub, sRetN, dAndV, dOrV, dNotV, dAnd, dOr, dNot, dB, dTru, dIf, dOp, dCall, dCallF, dMeth, dProp, dFld, dMake, dMakeC, dCons, dNil, dStar, dTup, dLst, dNew, dVar, dFrz, dC, dSlice, dPart, dNoPart, dMt, dLc, dYes, iLst, iTupD, iRngD1, iRngD2, iEnumD, iZipD, rF, dTg, startD, wipeD, setMany, List.map, List.set, List.length_cons, List.length_nil, List.replicate, List.append, List.cons_append, List.nil_append, List.append_nil, List.getElem?_cons_zero, List.getElem?_cons_succ, Nat.reduceAdd, Nat.reduceSub, Nat.sub_self, Nat.zero_add, Option.some.injEq, exists_eq_left, exists_eq_left', exists_eq_right, List.cons.injEq, and_true, true_and, if_true, if_false, Bool.false_eq_true, Bool.not_true, Bool.not_false, D.bl.injEq, D.int.injEq, D.cell.injEq, reduceCtorEq, false_and, and_false, exists_false, or_false, false_or, exists_and_left, exists_and_right]
  refine ⟨.int r, rfl, .int r', rfl, r_eqI ⟨decide (r = r'), rfl, ?_⟩⟩
  cases hd : decide (r = r') with
  | false =>
    rw [hd] at q
    simp only [dNeg, sRet, sSeq, sAsg, sDrop, sIf, sNext, sSetLc, sFor, sFldD, sAug, sPar, sSub, sRetN, dAndV, dOrV, dNotV, dAnd, dOr, dNot, dB, dTru, dIf, dOp, dCall, dCallF, dMeth, dProp, dFld, dMake, dMakeC, dCons, dNil, dStar, dTup, dLst, dNew, dVar, dFrz, dC, dSlice, dPart, dNoPart, dMt, dLc, dYes, iLst, iTupD, iRngD1, iRngD2, iEnumD, iZipD, rF, dTg, startD, wipeD, setMany, List.map, List.set, List.length_cons, List.length_nil, List.replicate, List.append, List.cons_append, List.nil_append, List.append_nil, List.getElem?_cons_zero, List.getElem?_cons_succ, Nat.reduceAdd, Nat.reduceSub, Nat.sub_self, Nat.zero_add, Option.some.injEq, exists_eq_left, exists_eq_left', exists_eq_right, List.cons.injEq, and_true, true_and, if_true, if_false, Bool.false_eq_true, Bool.not_true, Bool.not_false, D.bl.injEq, D.int.injEq, D.cell.injEq, reduceCtorEq, false_and, and_false, exists_false, or_false, false_or, exists_and_left, exists_and_right]
    exact lessQ.of q
  | true =>
    rw [hd] at q
    simp only [dNeg, sRet, sSeq, sAsg, sDrop, sIf, sNext, sSetLc, sFor, sFldD, sAug, sPar, sSub, sRetN, dAndV, dOrV, dNotV, dAnd, dOr, dNot, dB, dTru, dIf, dOp, dCall, dCallF, dMeth, dProp, dFld, dMake, dMakeC, dCons, dNil, dStar, dTup, dLst, dNew, dVar, dFrz, dC, dSlice, dPart, dNoPart, dMt, dLc, dYes, iLst, iTupD, iRngD1, iRngD2, iEnumD, iZipD, rF, dTg, startD, wipeD, setMany, List.map, List.set, List.length_cons, List.length_nil, List.replicate, List.append, List.cons_append, List.nil_append, List.append_nil, List.getElem?_cons_zero, List.getElem?_cons_succ, Nat.reduceAdd, Nat.reduceSub, Nat.sub_self, Nat.zero_add, Option.some.injEq, exists_eq_left, exists_eq_left', exists_eq_right, List.cons.injEq, and_true, true_and, if_true, if_false, Bool.false_eq_true, Bool.not_true, Bool.not_false, D.bl.injEq, D.int.injEq, D.cell.injEq, reduceCtorEq, false_and, and_false, exists_false, or_false, false_or, exists_and_left, exists_and_right]
    exact ⟨k, rfl, k', rfl, n, b, hn, h, lessQ.of q⟩
theorem r_Table__eq {G : Gx} : Reads (t_Table__eq G) N_Table__eq 2 sp_Table__eq := by
  rintro ds M Q E hl ⟨x, p, x', p', n1, n2, b1, b2, rfl, h1, h2, h3, h4, q⟩
  unfold t_Table__eq
  simp only [dNeg, sRet, sSeq, sAsg, sDrop, sIf, sNext, sSetLc, sFor, sFldD, sAug, sPar, sSub, sRetN, dAndV, dOrV, dNotV, dAnd, dOr, dNot, dB, dTru, dIf, dOp, dCall, dCallF, dMeth, dProp, dFld, dMake, dMakeC, dCons, dNil, dStar, dTup, dLst, dNew, dVar, dFrz, dC, dSlice, dPart, dNoPart, dMt, dLc, dYes, iLst, iTupD, iRngD1, iRngD2, iEnumD, iZipD, rF, dTg, startD, wipeD, setMany, List.map, List.set, List.length_cons, List.length_nil, List.replicate, List.append, List.cons_append, List.nil_append, List.append_nil, List.getElem?_cons_zero, List.getElem?_cons_succ, Nat.reduceAdd, Nat.reduceSub, Nat.sub_self, Nat.zero_add, Option.some.injEq, exists_eq_left, exists_eq_left', exists_eq_right, List.cons.injEq, and_true, true_and, if_true, if_false, Bool.false_eq_true, Bool.not_true, Bool.not_false, D.bl.injEq, D.int.injEq, D.cell.injEq, reduceCtorEq, false_and, and_false, exists_false, or_false, false_or, exists_and_left, exists_and_right]
  refine ⟨_, .c "Table", rfl, rfl, by decide, true, rfl, ?_⟩
  simp only [dNeg, sRet, sSeq, sAsg, sDrop, sIf, sNext, sSetLc, sFor, sFldD, sAug, sPar, sSub, sRetN, dAndV, dOrV, dNotV, dAnd, dOr, dNot, dB, dTru, dIf, dOp, dCall, dCallF, dMeth, dProp, dFld, dMake, dMakeC, dCons, dNil, dStar, dTup, dLst, dNew, dVar, dFrz, dC, dSlice, dPart, dNoPart, dMt, dLc, dYes, iLst, iTupD, iRngD1, iRngD2, iEnumD, iZipD, rF, dTg, startD, wipeD, setMany, List.map, List.set, List.length_cons, List.length_nil, List.replicate, List.append, List.cons_append, List.nil_append, List.append_nil, List.getElem?_cons_zero, List.getElem?_cons_succ, Nat.reduceAdd, Nat.reduceSub, Nat.sub_self, Nat.zero_add, Option.some.injEq, exists_eq_left, exists_eq_left', exists_eq_right, List.cons.injEq, and_true, true_and, if_true, if_false, Bool.false_eq_true, Bool.not_true, Bool.not_false, D.bl.injEq, D.int.injEq, D.cell.injEq, reduceCtorEq, false_and, and_false, exists_false, or_false, false_or, exists_and_left, exists_and_right]
  refine ⟨x, rfl, x', rfl, n1, b1, h1, h2, b1, rfl, ?_⟩
  cases b1 with
  | false =>
    simp only [dNeg, sRet, sSeq, sAsg, sDrop, sIf, sNext, sSetLc, sFor, sFldD, sAug, sPar, sSub, sRetN, dAndV, dOrV, dNotV, dAnd, dOr, dNot, dB, dTru, dIf, dOp, dCall, dCallF, dMeth, dProp, dFld, dMake, dMakeC, dCons, dNil, dStar, dTup, dLst, dNew, dVar, dFrz, dC, dSlice, dPart, dNoPart, dMt, dLc, dYes, iLst, iTupD, iRngD1, iRngD2, iEnumD, iZipD, rF, dTg, startD, wipeD, setMany, List.map, List.set, List.length_cons, List.length_nil, List.replicate, List.append, List.cons_append, List.nil_append, List.append_nil, List.getElem?_cons_zero, List.getElem?_cons_succ, Nat.reduceAdd, Nat.reduceSub, Nat.sub_self, Nat.zero_add, Option.some.injEq, exists_eq_left, exists_eq_left', exists_eq_right, List.cons.injEq, and_true, true_and, if_true, if_false, Bool.false_eq_true, Bool.not_true, Bool.not_false, D.bl.injEq, D.int.injEq, D.cell.injEq, reduceCtorEq, false_and, and_false, exists_false, or_false, false_or, exists_and_left, exists_and_right]
    exact lessQ.of q
  | true =>
    simp only [dNeg, sRet, sSeq, sAsg, sDrop, sIf, sNext, sSetLc, sFor, sFldD, sAug, sPar, sSub, sRetN, dAndV, dOrV, dNotV, dAnd, dOr, dNot, dB, dTru, dIf, dOp, dCall, dCallF, dMeth, dProp, dFld, dMake, dMakeC, dCons, dNil, dStar, dTup, dLst, dNew, dVar, dFrz, dC, dSlice, dPart, dNoPart, dMt, dLc, dYes, iLst, iTupD, iRngD1, iRngD2, iEnumD, iZipD, rF, dTg, startD, wipeD, setMany, List.map, List.set, List.length_cons, List.length_nil, List.replicate, List.append, List.cons_append, List.nil_append, List.append_nil, List.getElem?_cons_zero, List.getElem?_cons_succ, Nat.reduceAdd, Nat.reduceSub, Nat.sub_self, Nat.zero_add, Option.some.injEq, exists_eq_left, exists_eq_left', exists_eq_right, List.cons.injEq, and_true, true_and, if_true, if_false, Bool.false_eq_true, Bool.not_true, Bool.not_false, D.bl.injEq, D.int.injEq, D.cell.injEq, reduceCtorEq, false_and, and_false, exists_false, or_false, false_or, exists_and_left, exists_and_right]
    exact ⟨p, rfl, p', rfl, n2, b2, h3, h4, lessQ.of q⟩
theorem r_system_of : Reads t_system_of N_system_of 1 sp_system_of := by
  rintro ds M Q E hl ⟨b, rfl, hb, q⟩
  unfold t_system_of
  simp only [dNeg, sRet, sSeq, sAsg, sDrop, sIf, sNext, sSetLc, sFor, sFldD, sAug, sPar, sSub, sRetN, dAndV, dOrV, dNotV, dAnd, dOr, dNot, dB, dTru, dIf, dOp, dCall, dCallF, dMeth, dProp, dFld, dMake, dMakeC, dCons, dNil, dStar, dTup, dLst, dNew, dVar, dFrz, dC, dSlice, dPart, dNoPart, dMt, dLc, dYes, iLst, iTupD, iRngD1, iRngD2, iEnumD, iZipD, rF, dTg, startD, wipeD, setMany, List.map, List.set, List.length_cons, List.length_nil, List.replicate, List.append, List.cons_append, List.nil_append, List.append_nil, List.getElem?_cons_zero, List.getElem?_cons_succ, Nat.reduceAdd, Nat.reduceSub, Nat.sub_self, Nat.zero_add, Option.some.injEq, exists_eq_left, exists_eq_left', exists_eq_right, List.cons.injEq, and_true, true_and, if_true, if_false, Bool.false_eq_true, Bool.not_true, Bool.not_false, D.bl.injEq, D.int.injEq, D.cell.injEq, reduceCtorEq, false_and, and_false, exists_false, or_false, false_or, exists_and_left, exists_and_right]
  have hb' : b ≤ 3 ∧ 2 ≤ b := by rcases hb with h | h <;> omega
  have len : (upto 0 b.toNat).length ≤ 100000 := by rw [upto_len]; omega
  refine ⟨rfl, _, _, rfl, rfl, b, _, rfl, b, rfl, by omega, by omega, len, ?_⟩
  refine lcM (fun k : Nat => D.int (0 + (k : Int))) (fun _ => .lst (List.replicate b.toNat (.lst []))) trivial (List.range b.toNat) (fun x hx K k => ?_) ?_
  · simp only [dNeg, sRet, sSeq, sAsg, sDrop, sIf, sNext, sSetLc, sFor, sFldD, sAug, sPar, sSub, sRetN, dAndV, dOrV, dNotV, dAnd, dOr, dNot, dB, dTru, dIf, dOp, dCall, dCallF, dMeth, dProp, dFld, dMake, dMakeC, dCons, dNil, dStar, dTup, dLst, dNew, dVar, dFrz, dC, dSlice, dPart, dNoPart, dMt, dLc, dYes, iLst, iTupD, iRngD1, iRngD2, iEnumD, iZipD, rF, dTg, startD, wipeD, setMany, List.map, List.set, List.length_cons, List.length_nil, List.replicate, List.append, List.cons_append, List.nil_append, List.append_nil, List.getElem?_cons_zero, List.getElem?_cons_succ, Nat.reduceAdd, Nat.reduceSub, Nat.sub_self, Nat.zero_add, Option.some.injEq, exists_eq_left, exists_eq_left', exists_eq_right, List.cons.injEq, and_true, true_and, if_true, if_false, Bool.false_eq_true, Bool.not_true, Bool.not_false, D.bl.injEq, D.int.injEq, D.cell.injEq, reduceCtorEq, false_and, and_false, exists_false, or_false, false_or, exists_and_left, exists_and_right]
    refine ⟨rfl, b, _, rfl, b, rfl, by omega, by omega, len, ?_⟩
    refine lcM (fun k : Nat => D.int (0 + (k : Int))) (fun _ => .lst []) trivial (List.range b.toNat) (fun y hy K k => ?_) ?_
    · simp only [dNeg, sRet, sSeq, sAsg, sDrop, sIf, sNext, sSetLc, sFor, sFldD, sAug, sPar, sSub, sRetN, dAndV, dOrV, dNotV, dAnd, dOr, dNot, dB, dTru, dIf, dOp, dCall, dCallF, dMeth, dProp, dFld, dMake, dMakeC, dCons, dNil, dStar, dTup, dLst, dNew, dVar, dFrz, dC, dSlice, dPart, dNoPart, dMt, dLc, dYes, iLst, iTupD, iRngD1, iRngD2, iEnumD, iZipD, rF, dTg, startD, wipeD, setMany, List.map, List.set, List.length_cons, List.length_nil, List.replicate, List.append, List.cons_append, List.nil_append, List.append_nil, List.getElem?_cons_zero, List.getElem?_cons_succ, Nat.reduceAdd, Nat.reduceSub, Nat.sub_self, Nat.zero_add, Option.some.injEq, exists_eq_left, exists_eq_left', exists_eq_right, List.cons.injEq, and_true, true_and, if_true, if_false, Bool.false_eq_true, Bool.not_true, Bool.not_false, D.bl.injEq, D.int.injEq, D.cell.injEq, reduceCtorEq, false_and, and_false, exists_false, or_false, false_or, exists_and_left, exists_and_right]
      exact ⟨b, _, _, rfl, k⟩
    · rw [List.map_const', List.length_range]; exact k
  · rw [List.map_const', List.length_range]
    refine ⟨b, [], rfl, by decide, rfl, _, _, rfl, fun a ha => ⟨a, _, _, _, rfl, MS.put_same, rfl, _, MS.put_same, ?_⟩⟩
    rw [MS.put_put, MS.del_put ha]
    exact lessQ.of q
theorem r_kin_in : Reads t_kin_in N_kin_in 1 sp_kin_in := by
  rintro ds M Q E hl ⟨b, rfl, q⟩
  unfold t_kin_in
  simp only [dNeg, sRet, sSeq, sAsg, sDrop, sIf, sNext, sSetLc, sFor, sFldD, sAug, sPar, sSub, sRetN, dAndV, dOrV, dNotV, dAnd, dOr, dNot, dB, dTru, dIf, dOp, dCall, dCallF, dMeth, dProp, dFld, dMake, dMakeC, dCons, dNil, dStar, dTup, dLst, dNew, dVar, dFrz, dC, dSlice, dPart, dNoPart, dMt, dLc, dYes, iLst, iTupD, iRngD1, iRngD2, iEnumD, iZipD, rF, dTg, startD, wipeD, setMany, List.map, List.set, List.length_cons, List.length_nil, List.replicate, List.append, List.cons_append, List.nil_append, List.append_nil, List.getElem?_cons_zero, List.getElem?_cons_succ, Nat.reduceAdd, Nat.reduceSub, Nat.sub_self, Nat.zero_add, Option.some.injEq, exists_eq_left, exists_eq_left', exists_eq_right, List.cons.injEq, and_true, true_and, if_true, if_false, Bool.false_eq_true, Bool.not_true, Bool.not_false, D.bl.injEq, D.int.injEq, D.cell.injEq, reduceCtorEq, false_and, and_false, exists_false, or_false, false_or, exists_and_left, exists_and_right]
  refine ⟨by decide, .lst [], rfl, r_list rfl ⟨by decide, fun a ha => ?_⟩⟩
  refine ⟨fun m e M' => (m = 1 ∧ e = [some (sysD b), some (.lst []), some (.cell a), none, none, none] ∧ M' = M.put a (.lst [.lst []])) ∨ (m = 0 ∧ e = [some (sysD b), some (.lst []), some (.cell a), some (.lst []), none, none] ∧ M' = M.put a (.lst [])), ⟨1, .inl ⟨rfl, rfl, rfl⟩⟩, ?_⟩
  rintro m e M' (⟨rfl, rfl, rfl⟩ | ⟨rfl, rfl, rfl⟩)
  · simp only [dNeg, sRet, sSeq, sAsg, sDrop, sIf, sNext, sSetLc, sFor, sFldD, sAug, sPar, sSub, sRetN, dAndV, dOrV, dNotV, dAnd, dOr, dNot, dB, dTru, dIf, dOp, dCall, dCallF, dMeth, dProp, dFld, dMake, dMakeC, dCons, dNil, dStar, dTup, dLst, dNew, dVar, dFrz, dC, dSlice, dPart, dNoPart, dMt, dLc, dYes, iLst, iTupD, iRngD1, iRngD2, iEnumD, iZipD, rF, dTg, startD, wipeD, setMany, List.map, List.set, List.length_cons, List.length_nil, List.replicate, List.append, List.cons_append, List.nil_append, List.append_nil, List.getElem?_cons_zero, List.getElem?_cons_succ, Nat.reduceAdd, Nat.reduceSub, Nat.sub_self, Nat.zero_add, Option.some.injEq, exists_eq_left, exists_eq_left', exists_eq_right, List.cons.injEq, and_true, true_and, if_true, if_false, Bool.false_eq_true, Bool.not_true, Bool.not_false, D.bl.injEq, D.int.injEq, D.cell.injEq, reduceCtorEq, false_and, and_false, exists_false, or_false, false_or, exists_and_left, exists_and_right]
    have hk : look (M.put a (.lst [.lst []])) (.cell a) = .lst [.lst []] := by show lookO a (lstOf ((M.put a _) a)) = _; rw [MS.put_same]; rfl
    refine ⟨by decide, .inr ⟨.list [.list []], .list [], by rw [hk]; rfl, rfl, by decide, by decide, true, rfl, ?_⟩⟩
    unfold b_kin_in_1
    simp only [dNeg, sRet, sSeq, sAsg, sDrop, sIf, sNext, sSetLc, sFor, sFldD, sAug, sPar, sSub, sRetN, dAndV, dOrV, dNotV, dAnd, dOr, dNot, dB, dTru, dIf, dOp, dCall, dCallF, dMeth, dProp, dFld, dMake, dMakeC, dCons, dNil, dStar, dTup, dLst, dNew, dVar, dFrz, dC, dSlice, dPart, dNoPart, dMt, dLc, dYes, iLst, iTupD, iRngD1, iRngD2, iEnumD, iZipD, rF, dTg, startD, wipeD, setMany, List.map, List.set, List.length_cons, List.length_nil, List.replicate, List.append, List.cons_append, List.nil_append, List.append_nil, List.getElem?_cons_zero, List.getElem?_cons_succ, Nat.reduceAdd, Nat.reduceSub, Nat.sub_self, Nat.zero_add, Option.some.injEq, exists_eq_left, exists_eq_left', exists_eq_right, List.cons.injEq, and_true, true_and, if_true, if_false, Bool.false_eq_true, Bool.not_true, Bool.not_false, D.bl.injEq, D.int.injEq, D.cell.injEq, reduceCtorEq, false_and, and_false, exists_false, or_false, false_or, exists_and_left, exists_and_right]
    refine ⟨⟨[.lst []], by show lstOf ((M.put a _) a) = _; rw [MS.put_same]; rfl⟩, a, [.lst []], .lst [], rfl, rfl, MS.put_same, rfl, ?_⟩
    simp only [dNeg, sRet, sSeq, sAsg, sDrop, sIf, sNext, sSetLc, sFor, sFldD, sAug, sPar, sSub, sRetN, dAndV, dOrV, dNotV, dAnd, dOr, dNot, dB, dTru, dIf, dOp, dCall, dCallF, dMeth, dProp, dFld, dMake, dMakeC, dCons, dNil, dStar, dTup, dLst, dNew, dVar, dFrz, dC, dSlice, dPart, dNoPart, dMt, dLc, dYes, iLst, iTupD, iRngD1, iRngD2, iEnumD, iZipD, rF, dTg, startD, wipeD, setMany, List.map, List.set, List.length_cons, List.length_nil, List.replicate, List.append, List.cons_append, List.nil_append, List.append_nil, List.getElem?_cons_zero, List.getElem?_cons_succ, Nat.reduceAdd, Nat.reduceSub, Nat.sub_self, Nat.zero_add, Option.some.injEq, exists_eq_left, exists_eq_left', exists_eq_right, List.cons.injEq, and_true, true_and, if_true, if_false, Bool.false_eq_true, Bool.not_true, Bool.not_false, D.bl.injEq, D.int.injEq, D.cell.injEq, reduceCtorEq, false_and, and_false, exists_false, or_false, false_or, exists_and_left, exists_and_right]
    refine ⟨rfl, rfl, false, rfl, ?_⟩
    simp only [dNeg, sRet, sSeq, sAsg, sDrop, sIf, sNext, sSetLc, sFor, sFldD, sAug, sPar, sSub, sRetN, dAndV, dOrV, dNotV, dAnd, dOr, dNot, dB, dTru, dIf, dOp, dCall, dCallF, dMeth, dProp, dFld, dMake, dMakeC, dCons, dNil, dStar, dTup, dLst, dNew, dVar, dFrz, dC, dSlice, dPart, dNoPart, dMt, dLc, dYes, iLst, iTupD, iRngD1, iRngD2, iEnumD, iZipD, rF, dTg, startD, wipeD, setMany, List.map, List.set, List.length_cons, List.length_nil, List.replicate, List.append, List.cons_append, List.nil_append, List.append_nil, List.getElem?_cons_zero, List.getElem?_cons_succ, Nat.reduceAdd, Nat.reduceSub, Nat.sub_self, Nat.zero_add, Option.some.injEq, exists_eq_left, exists_eq_left', exists_eq_right, List.cons.injEq, and_true, true_and, if_true, if_false, Bool.false_eq_true, Bool.not_true, Bool.not_false, D.bl.injEq, D.int.injEq, D.cell.injEq, reduceCtorEq, false_and, and_false, exists_false, or_false, false_or, exists_and_left, exists_and_right]
    refine ⟨0, by decide, rfl, ?_⟩
    rw [MS.put_put]; rfl
  · simp only [dNeg, sRet, sSeq, sAsg, sDrop, sIf, sNext, sSetLc, sFor, sFldD, sAug, sPar, sSub, sRetN, dAndV, dOrV, dNotV, dAnd, dOr, dNot, dB, dTru, dIf, dOp, dCall, dCallF, dMeth, dProp, dFld, dMake, dMakeC, dCons, dNil, dStar, dTup, dLst, dNew, dVar, dFrz, dC, dSlice, dPart, dNoPart, dMt, dLc, dYes, iLst, iTupD, iRngD1, iRngD2, iEnumD, iZipD, rF, dTg, startD, wipeD, setMany, List.map, List.set, List.length_cons, List.length_nil, List.replicate, List.append, List.cons_append, List.nil_append, List.append_nil, List.getElem?_cons_zero, List.getElem?_cons_succ, Nat.reduceAdd, Nat.reduceSub, Nat.sub_self, Nat.zero_add, Option.some.injEq, exists_eq_left, exists_eq_left', exists_eq_right, List.cons.injEq, and_true, true_and, if_true, if_false, Bool.false_eq_true, Bool.not_true, Bool.not_false, D.bl.injEq, D.int.injEq, D.cell.injEq, reduceCtorEq, false_and, and_false, exists_false, or_false, false_or, exists_and_left, exists_and_right]
    refine ⟨by decide, r_neNil (by show lookO a (lstOf ((M.put a _) a)) = _; rw [MS.put_same]; rfl) ⟨false, rfl, ?_⟩⟩
    simp only [dNeg, sRet, sSeq, sAsg, sDrop, sIf, sNext, sSetLc, sFor, sFldD, sAug, sPar, sSub, sRetN, dAndV, dOrV, dNotV, dAnd, dOr, dNot, dB, dTru, dIf, dOp, dCall, dCallF, dMeth, dProp, dFld, dMake, dMakeC, dCons, dNil, dStar, dTup, dLst, dNew, dVar, dFrz, dC, dSlice, dPart, dNoPart, dMt, dLc, dYes, iLst, iTupD, iRngD1, iRngD2, iEnumD, iZipD, rF, dTg, startD, wipeD, setMany, List.map, List.set, List.length_cons, List.length_nil, List.replicate, List.append, List.cons_append, List.nil_append, List.append_nil, List.getElem?_cons_zero, List.getElem?_cons_succ, Nat.reduceAdd, Nat.reduceSub, Nat.sub_self, Nat.zero_add, Option.some.injEq, exists_eq_left, exists_eq_left', exists_eq_right, List.cons.injEq, and_true, true_and, if_true, if_false, Bool.false_eq_true, Bool.not_true, Bool.not_false, D.bl.injEq, D.int.injEq, D.cell.injEq, reduceCtorEq, false_and, and_false, exists_false, or_false, false_or, exists_and_left, exists_and_right]
    exact ⟨M, Sub.put ha, q⟩
theorem r_kept_places : Reads t_kept_places N_kept_places 2 sp_kept_places := by
  rintro ds M Q E hl ⟨b, rfl, q⟩
  unfold t_kept_places
  simp only [dNeg, sRet, sSeq, sAsg, sDrop, sIf, sNext, sSetLc, sFor, sFldD, sAug, sPar, sSub, sRetN, dAndV, dOrV, dNotV, dAnd, dOr, dNot, dB, dTru, dIf, dOp, dCall, dCallF, dMeth, dProp, dFld, dMake, dMakeC, dCons, dNil, dStar, dTup, dLst, dNew, dVar, dFrz, dC, dSlice, dPart, dNoPart, dMt, dLc, dYes, iLst, iTupD, iRngD1, iRngD2, iEnumD, iZipD, rF, dTg, startD, wipeD, setMany, List.map, List.set, List.length_cons, List.length_nil, List.replicate, List.append, List.cons_append, List.nil_append, List.append_nil, List.getElem?_cons_zero, List.getElem?_cons_succ, Nat.reduceAdd, Nat.reduceSub, Nat.sub_self, Nat.zero_add, Option.some.injEq, exists_eq_left, exists_eq_left', exists_eq_right, List.cons.injEq, and_true, true_and, if_true, if_false, Bool.false_eq_true, Bool.not_true, Bool.not_false, D.bl.injEq, D.int.injEq, D.cell.injEq, reduceCtorEq, false_and, and_false, exists_false, or_false, false_or, exists_and_left, exists_and_right]
  intro a ha
  refine ⟨a, rfl, MS.put_same, rfl, by decide, fun f hf => ?_⟩
  rw [MS.put_put] at hf ⊢
  have hfa : f ≠ a := fun e => by subst e; rw [MS.put_same] at hf; cases hf
  have hMf : M f = none := by rw [MS.put_ne hfa] at hf; exact hf
  refine ⟨by decide, .lst [], rfl, by decide, by decide, ?_⟩
  refine ⟨fun m e M' => (m = 1 ∧ e = [some (sysD b), some (.lst []), some (.cell a), some (.cell f), some (.lst [.tup [.tup [.int 0, .int 0, .int 0], .lst []]]), none, none, none, none] ∧ M' = (M.put a spanM).put f (.lst [])) ∨
    (m = 0 ∧ (∃ e5 e6 e7 e8, e = [some (sysD b), some (.lst []), some (.cell a), some (.cell f), some (.lst []), e5, e6, e7, e8]) ∧ M' = (M.put a spanM).put f (.lst [])), ⟨1, .inl ⟨rfl, rfl, rfl⟩⟩, ?_⟩
  have done : Sub M (((M.put a spanM).put f (.lst [])).del f) := by
    rw [MS.del_put (by rw [MS.put_ne hfa]; exact hMf)]
    exact Sub.put ha
  rintro m e M' (⟨rfl, rfl, rfl⟩ | ⟨rfl, ⟨e5, e6, e7, e8, rfl⟩, rfl⟩)
  · simp only [dNeg, sRet, sSeq, sAsg, sDrop, sIf, sNext, sSetLc, sFor, sFldD, sAug, sPar, sSub, sRetN, dAndV, dOrV, dNotV, dAnd, dOr, dNot, dB, dTru, dIf, dOp, dCall, dCallF, dMeth, dProp, dFld, dMake, dMakeC, dCons, dNil, dStar, dTup, dLst, dNew, dVar, dFrz, dC, dSlice, dPart, dNoPart, dMt, dLc, dYes, iLst, iTupD, iRngD1, iRngD2, iEnumD, iZipD, rF, dTg, startD, wipeD, setMany, List.map, List.set, List.length_cons, List.length_nil, List.replicate, List.append, List.cons_append, List.nil_append, List.append_nil, List.getElem?_cons_zero, List.getElem?_cons_succ, Nat.reduceAdd, Nat.reduceSub, Nat.sub_self, Nat.zero_add, Option.some.injEq, exists_eq_left, exists_eq_left', exists_eq_right, List.cons.injEq, and_true, true_and, if_true, if_false, Bool.false_eq_true, Bool.not_true, Bool.not_false, D.bl.injEq, D.int.injEq, D.cell.injEq, reduceCtorEq, false_and, and_false, exists_false, or_false, false_or, exists_and_left, exists_and_right]
    refine ⟨by decide, .inr ⟨.list [.tuple [.tuple [.int 0, .int 0, .int 0], .list []]], .list [], rfl, rfl, by decide, by decide, true, rfl, ?_⟩⟩
    unfold b_kept_places_1
    simp only [dNeg, sRet, sSeq, sAsg, sDrop, sIf, sNext, sSetLc, sFor, sFldD, sAug, sPar, sSub, sRetN, dAndV, dOrV, dNotV, dAnd, dOr, dNot, dB, dTru, dIf, dOp, dCall, dCallF, dMeth, dProp, dFld, dMake, dMakeC, dCons, dNil, dStar, dTup, dLst, dNew, dVar, dFrz, dC, dSlice, dPart, dNoPart, dMt, dLc, dYes, iLst, iTupD, iRngD1, iRngD2, iEnumD, iZipD, rF, dTg, startD, wipeD, setMany, List.map, List.set, List.length_cons, List.length_nil, List.replicate, List.append, List.cons_append, List.nil_append, List.append_nil, List.getElem?_cons_zero, List.getElem?_cons_succ, Nat.reduceAdd, Nat.reduceSub, Nat.sub_self, Nat.zero_add, Option.some.injEq, exists_eq_left, exists_eq_left', exists_eq_right, List.cons.injEq, and_true, true_and, if_true, if_false, Bool.false_eq_true, Bool.not_true, Bool.not_false, D.bl.injEq, D.int.injEq, D.cell.injEq, reduceCtorEq, false_and, and_false, exists_false, or_false, false_or, exists_and_left, exists_and_right]
    refine ⟨by decide, fun c hc => ⟨_, _, rfl, rfl, by decide, ?_⟩⟩
    refine ⟨_, rfl, ?_⟩
    simp only [forTurns]
    refine ⟨trivial, ?_⟩
    simp only [dNeg, sRet, sSeq, sAsg, sDrop, sIf, sNext, sSetLc, sFor, sFldD, sAug, sPar, sSub, sRetN, dAndV, dOrV, dNotV, dAnd, dOr, dNot, dB, dTru, dIf, dOp, dCall, dCallF, dMeth, dProp, dFld, dMake, dMakeC, dCons, dNil, dStar, dTup, dLst, dNew, dVar, dFrz, dC, dSlice, dPart, dNoPart, dMt, dLc, dYes, iLst, iTupD, iRngD1, iRngD2, iEnumD, iZipD, rF, dTg, startD, wipeD, setMany, List.map, List.set, List.length_cons, List.length_nil, List.replicate, List.append, List.cons_append, List.nil_append, List.append_nil, List.getElem?_cons_zero, List.getElem?_cons_succ, Nat.reduceAdd, Nat.reduceSub, Nat.sub_self, Nat.zero_add, Option.some.injEq, exists_eq_left, exists_eq_left', exists_eq_right, List.cons.injEq, and_true, true_and, if_true, if_false, Bool.false_eq_true, Bool.not_true, Bool.not_false, D.bl.injEq, D.int.injEq, D.cell.injEq, reduceCtorEq, false_and, and_false, exists_false, or_false, false_or, exists_and_left, exists_and_right]
    have hca : c ≠ a := fun e => by subst e; rw [MS.put_ne (fun z => hfa z.symm), MS.put_same] at hc; cases hc
    have hcf : c ≠ f := fun e => by subst e; rw [MS.put_same] at hc; cases hc
    have hsp : (((M.put a spanM).put f (.lst [])).put c (.lst [])) a = some spanM := by rw [MS.put_ne (Ne.symm hca), MS.put_ne (Ne.symm hfa), MS.put_same]
    unfold b_kept_places_0
    simp only [dNeg, sRet, sSeq, sAsg, sDrop, sIf, sNext, sSetLc, sFor, sFldD, sAug, sPar, sSub, sRetN, dAndV, dOrV, dNotV, dAnd, dOr, dNot, dB, dTru, dIf, dOp, dCall, dCallF, dMeth, dProp, dFld, dMake, dMakeC, dCons, dNil, dStar, dTup, dLst, dNew, dVar, dFrz, dC, dSlice, dPart, dNoPart, dMt, dLc, dYes, iLst, iTupD, iRngD1, iRngD2, iEnumD, iZipD, rF, dTg, startD, wipeD, setMany, List.map, List.set, List.length_cons, List.length_nil, List.replicate, List.append, List.cons_append, List.nil_append, List.append_nil, List.getElem?_cons_zero, List.getElem?_cons_succ, Nat.reduceAdd, Nat.reduceSub, Nat.sub_self, Nat.zero_add, Option.some.injEq, exists_eq_left, exists_eq_left', exists_eq_right, List.cons.injEq, and_true, true_and, if_true, if_false, Bool.false_eq_true, Bool.not_true, Bool.not_false, D.bl.injEq, D.int.injEq, D.cell.injEq, reduceCtorEq, false_and, and_false, exists_false, or_false, false_or, exists_and_left, exists_and_right]
    refine ⟨_, rfl, rfl, ?_⟩
    simp only [dNeg, sRet, sSeq, sAsg, sDrop, sIf, sNext, sSetLc, sFor, sFldD, sAug, sPar, sSub, sRetN, dAndV, dOrV, dNotV, dAnd, dOr, dNot, dB, dTru, dIf, dOp, dCall, dCallF, dMeth, dProp, dFld, dMake, dMakeC, dCons, dNil, dStar, dTup, dLst, dNew, dVar, dFrz, dC, dSlice, dPart, dNoPart, dMt, dLc, dYes, iLst, iTupD, iRngD1, iRngD2, iEnumD, iZipD, rF, dTg, startD, wipeD, setMany, List.map, List.set, List.length_cons, List.length_nil, List.replicate, List.append, List.cons_append, List.nil_append, List.append_nil, List.getElem?_cons_zero, List.getElem?_cons_succ, Nat.reduceAdd, Nat.reduceSub, Nat.sub_self, Nat.zero_add, Option.some.injEq, exists_eq_left, exists_eq_left', exists_eq_right, List.cons.injEq, and_true, true_and, if_true, if_false, Bool.false_eq_true, Bool.not_true, Bool.not_false, D.bl.injEq, D.int.injEq, D.cell.injEq, reduceCtorEq, false_and, and_false, exists_false, or_false, false_or, exists_and_left, exists_and_right]
    refine ⟨isCls_cell hsp rfl, [], rfl, by decide, trivial, a, rfl, hsp, false, rfl, ?_⟩
    simp only [dNeg, sRet, sSeq, sAsg, sDrop, sIf, sNext, sSetLc, sFor, sFldD, sAug, sPar, sSub, sRetN, dAndV, dOrV, dNotV, dAnd, dOr, dNot, dB, dTru, dIf, dOp, dCall, dCallF, dMeth, dProp, dFld, dMake, dMakeC, dCons, dNil, dStar, dTup, dLst, dNew, dVar, dFrz, dC, dSlice, dPart, dNoPart, dMt, dLc, dYes, iLst, iTupD, iRngD1, iRngD2, iEnumD, iZipD, rF, dTg, startD, wipeD, setMany, List.map, List.set, List.length_cons, List.length_nil, List.replicate, List.append, List.cons_append, List.nil_append, List.append_nil, List.getElem?_cons_zero, List.getElem?_cons_succ, Nat.reduceAdd, Nat.reduceSub, Nat.sub_self, Nat.zero_add, Option.some.injEq, exists_eq_left, exists_eq_left', exists_eq_right, List.cons.injEq, and_true, true_and, if_true, if_false, Bool.false_eq_true, Bool.not_true, Bool.not_false, D.bl.injEq, D.int.injEq, D.cell.injEq, reduceCtorEq, false_and, and_false, exists_false, or_false, false_or, exists_and_left, exists_and_right]
    refine ⟨trivial, [], MS.put_same, 0, by decide, rfl, ⟨rfl, _, rfl⟩, ?_⟩
    exact MS.del_put hc
  · simp only [dNeg, sRet, sSeq, sAsg, sDrop, sIf, sNext, sSetLc, sFor, sFldD, sAug, sPar, sSub, sRetN, dAndV, dOrV, dNotV, dAnd, dOr, dNot, dB, dTru, dIf, dOp, dCall, dCallF, dMeth, dProp, dFld, dMake, dMakeC, dCons, dNil, dStar, dTup, dLst, dNew, dVar, dFrz, dC, dSlice, dPart, dNoPart, dMt, dLc, dYes, iLst, iTupD, iRngD1, iRngD2, iEnumD, iZipD, rF, dTg, startD, wipeD, setMany, List.map, List.set, List.length_cons, List.length_nil, List.replicate, List.append, List.cons_append, List.nil_append, List.append_nil, List.getElem?_cons_zero, List.getElem?_cons_succ, Nat.reduceAdd, Nat.reduceSub, Nat.sub_self, Nat.zero_add, Option.some.injEq, exists_eq_left, exists_eq_left', exists_eq_right, List.cons.injEq, and_true, true_and, if_true, if_false, Bool.false_eq_true, Bool.not_true, Bool.not_false, D.bl.injEq, D.int.injEq, D.cell.injEq, reduceCtorEq, false_and, and_false, exists_false, or_false, false_or, exists_and_left, exists_and_right]
    refine ⟨by decide, r_neNil rfl ⟨false, rfl, ?_⟩⟩
    simp only [dNeg, sRet, sSeq, sAsg, sDrop, sIf, sNext, sSetLc, sFor, sFldD, sAug, sPar, sSub, sRetN, dAndV, dOrV, dNotV, dAnd, dOr, dNot, dB, dTru, dIf, dOp, dCall, dCallF, dMeth, dProp, dFld, dMake, dMakeC, dCons, dNil, dStar, dTup, dLst, dNew, dVar, dFrz, dC, dSlice, dPart, dNoPart, dMt, dLc, dYes, iLst, iTupD, iRngD1, iRngD2, iEnumD, iZipD, rF, dTg, startD, wipeD, setMany, List.map, List.set, List.length_cons, List.length_nil, List.replicate, List.append, List.cons_append, List.nil_append, List.append_nil, List.getElem?_cons_zero, List.getElem?_cons_succ, Nat.reduceAdd, Nat.reduceSub, Nat.sub_self, Nat.zero_add, Option.some.injEq, exists_eq_left, exists_eq_left', exists_eq_right, List.cons.injEq, and_true, true_and, if_true, if_false, Bool.false_eq_true, Bool.not_true, Bool.not_false, D.bl.injEq, D.int.injEq, D.cell.injEq, reduceCtorEq, false_and, and_false, exists_false, or_false, false_or, exists_and_left, exists_and_right]
    exact ⟨[], MS.put_same, M, done, q⟩
theorem r_rank_of : Reads t_rank_of N_rank_of 1 sp_rank_of := by
  rintro ds M Q E hl ⟨b, rfl, hb, q⟩
  unfold t_rank_of
  simp only [dNeg, sRet, sSeq, sAsg, sDrop, sIf, sNext, sSetLc, sFor, sFldD, sAug, sPar, sSub, sRetN, dAndV, dOrV, dNotV, dAnd, dOr, dNot, dB, dTru, dIf, dOp, dCall, dCallF, dMeth, dProp, dFld, dMake, dMakeC, dCons, dNil, dStar, dTup, dLst, dNew, dVar, dFrz, dC, dSlice, dPart, dNoPart, dMt, dLc, dYes, iLst, iTupD, iRngD1, iRngD2, iEnumD, iZipD, rF, dTg, startD, wipeD, setMany, List.map, List.set, List.length_cons, List.length_nil, List.replicate, List.append, List.cons_append, List.nil_append, List.append_nil, List.getElem?_cons_zero, List.getElem?_cons_succ, Nat.reduceAdd, Nat.reduceSub, Nat.sub_self, Nat.zero_add, Option.some.injEq, exists_eq_left, exists_eq_left', exists_eq_right, List.cons.injEq, and_true, true_and, if_true, if_false, Bool.false_eq_true, Bool.not_true, Bool.not_false, D.bl.injEq, D.int.injEq, D.cell.injEq, reduceCtorEq, false_and, and_false, exists_false, or_false, false_or, exists_and_left, exists_and_right]
  exact ⟨b, rfl, hb, b, rfl, hb, .lst [], rfl, r_lenL rfl (lessQ.of q)⟩
theorem r_plain_system : Reads t_plain_system N_plain_system 1 sp_plain_system := by
  rintro ds M Q E hl ⟨b, rfl, hb, q⟩
  unfold t_plain_system
  simp only [dNeg, sRet, sSeq, sAsg, sDrop, sIf, sNext, sSetLc, sFor, sFldD, sAug, sPar, sSub, sRetN, dAndV, dOrV, dNotV, dAnd, dOr, dNot, dB, dTru, dIf, dOp, dCall, dCallF, dMeth, dProp, dFld, dMake, dMakeC, dCons, dNil, dStar, dTup, dLst, dNew, dVar, dFrz, dC, dSlice, dPart, dNoPart, dMt, dLc, dYes, iLst, iTupD, iRngD1, iRngD2, iEnumD, iZipD, rF, dTg, startD, wipeD, setMany, List.map, List.set, List.length_cons, List.length_nil, List.replicate, List.append, List.cons_append, List.nil_append, List.append_nil, List.getElem?_cons_zero, List.getElem?_cons_succ, Nat.reduceAdd, Nat.reduceSub, Nat.sub_self, Nat.zero_add, Option.some.injEq, exists_eq_left, exists_eq_left', exists_eq_right, List.cons.injEq, and_true, true_and, if_true, if_false, Bool.false_eq_true, Bool.not_true, Bool.not_false, D.bl.injEq, D.int.injEq, D.cell.injEq, reduceCtorEq, false_and, and_false, exists_false, or_false, false_or, exists_and_left, exists_and_right]
  refine ⟨b, rfl, rfl, ?_⟩
  refine ⟨_, _, _, rfl, ?_⟩
  refine ⟨b, rfl, ?_⟩
  refine r_lenL rfl ?_
  refine ⟨[], rfl, by decide, ⟨trivial, ?_⟩⟩
  refine ⟨rfl, ?_⟩
  refine ⟨[], rfl, by decide, ⟨trivial, ?_⟩⟩
  refine ⟨[], rfl, by decide, ⟨trivial, ?_⟩⟩
  refine r_lenL rfl ?_
  refine ⟨_, rfl, _, rfl, by decide, fun a ha => ⟨by decide, _, rfl, rfl, ?_⟩⟩
  simp only [dNeg, sRet, sSeq, sAsg, sDrop, sIf, sNext, sSetLc, sFor, sFldD, sAug, sPar, sSub, sRetN, dAndV, dOrV, dNotV, dAnd, dOr, dNot, dB, dTru, dIf, dOp, dCall, dCallF, dMeth, dProp, dFld, dMake, dMakeC, dCons, dNil, dStar, dTup, dLst, dNew, dVar, dFrz, dC, dSlice, dPart, dNoPart, dMt, dLc, dYes, iLst, iTupD, iRngD1, iRngD2, iEnumD, iZipD, rF, dTg, startD, wipeD, setMany, List.map, List.set, List.length_cons, List.length_nil, List.replicate, List.append, List.cons_append, List.nil_append, List.append_nil, List.getElem?_cons_zero, List.getElem?_cons_succ, Nat.reduceAdd, Nat.reduceSub, Nat.sub_self, Nat.zero_add, Option.some.injEq, exists_eq_left, exists_eq_left', exists_eq_right, List.cons.injEq, and_true, true_and, if_true, if_false, Bool.false_eq_true, Bool.not_true, Bool.not_false, D.bl.injEq, D.int.injEq, D.cell.injEq, reduceCtorEq, false_and, and_false, exists_false, or_false, false_or, exists_and_left, exists_and_right]
  have hbn : (b.toNat : Int) = b := by rcases hb with rfl | rfl <;> rfl
  unfold iZtD
  simp only [dNeg, sRet, sSeq, sAsg, sDrop, sIf, sNext, sSetLc, sFor, sFldD, sAug, sPar, sSub, sRetN, dAndV, dOrV, dNotV, dAnd, dOr, dNot, dB, dTru, dIf, dOp, dCall, dCallF, dMeth, dProp, dFld, dMake, dMakeC, dCons, dNil, dStar, dTup, dLst, dNew, dVar, dFrz, dC, dSlice, dPart, dNoPart, dMt, dLc, dYes, iLst, iTupD, iRngD1, iRngD2, iEnumD, iZipD, rF, dTg, startD, wipeD, setMany, List.map, List.set, List.length_cons, List.length_nil, List.replicate, List.append, List.cons_append, List.nil_append, List.append_nil, List.getElem?_cons_zero, List.getElem?_cons_succ, Nat.reduceAdd, Nat.reduceSub, Nat.sub_self, Nat.zero_add, Option.some.injEq, exists_eq_left, exists_eq_left', exists_eq_right, List.cons.injEq, and_true, true_and, if_true, if_false, Bool.false_eq_true, Bool.not_true, Bool.not_false, D.bl.injEq, D.int.injEq, D.cell.injEq, reduceCtorEq, false_and, and_false, exists_false, or_false, false_or, exists_and_left, exists_and_right]
  refine ⟨_, _, ⟨rfl, rfl⟩, by decide +kernel, [], rfl, ?_⟩
  show forTurns _ _ _ _ [] _ _
  simp only [forTurns]
  simp only [dNeg, sRet, sSeq, sAsg, sDrop, sIf, sNext, sSetLc, sFor, sFldD, sAug, sPar, sSub, sRetN, dAndV, dOrV, dNotV, dAnd, dOr, dNot, dB, dTru, dIf, dOp, dCall, dCallF, dMeth, dProp, dFld, dMake, dMakeC, dCons, dNil, dStar, dTup, dLst, dNew, dVar, dFrz, dC, dSlice, dPart, dNoPart, dMt, dLc, dYes, iLst, iTupD, iRngD1, iRngD2, iEnumD, iZipD, rF, dTg, startD, wipeD, setMany, List.map, List.set, List.length_cons, List.length_nil, List.replicate, List.append, List.cons_append, List.nil_append, List.append_nil, List.getElem?_cons_zero, List.getElem?_cons_succ, Nat.reduceAdd, Nat.reduceSub, Nat.sub_self, Nat.zero_add, Option.some.injEq, exists_eq_left, exists_eq_left', exists_eq_right, List.cons.injEq, and_true, true_and, if_true, if_false, Bool.false_eq_true, Bool.not_true, Bool.not_false, D.bl.injEq, D.int.injEq, D.cell.injEq, reduceCtorEq, false_and, and_false, exists_false, or_false, false_or, exists_and_left, exists_and_right]
  refine ⟨trivial, [], rfl, by decide, ⟨trivial, ?_⟩⟩
  refine ⟨rfl, ?_⟩
  simp only [dNeg, sRet, sSeq, sAsg, sDrop, sIf, sNext, sSetLc, sFor, sFldD, sAug, sPar, sSub, sRetN, dAndV, dOrV, dNotV, dAnd, dOr, dNot, dB, dTru, dIf, dOp, dCall, dCallF, dMeth, dProp, dFld, dMake, dMakeC, dCons, dNil, dStar, dTup, dLst, dNew, dVar, dFrz, dC, dSlice, dPart, dNoPart, dMt, dLc, dYes, iLst, iTupD, iRngD1, iRngD2, iEnumD, iZipD, rF, dTg, startD, wipeD, setMany, List.map, List.set, List.length_cons, List.length_nil, List.replicate, List.append, List.cons_append, List.nil_append, List.append_nil, List.getElem?_cons_zero, List.getElem?_cons_succ, Nat.reduceAdd, Nat.reduceSub, Nat.sub_self, Nat.zero_add, Option.some.injEq, exists_eq_left, exists_eq_left', exists_eq_right, List.cons.injEq, and_true, true_and, if_true, if_false, Bool.false_eq_true, Bool.not_true, Bool.not_false, D.bl.injEq, D.int.injEq, D.cell.injEq, reduceCtorEq, false_and, and_false, exists_false, or_false, false_or, exists_and_left, exists_and_right]
  refine ⟨[], rfl, by decide, ⟨trivial, ?_⟩⟩
  refine ⟨[], MS.put_same, ?_⟩
  rw [MS.del_put ha]
  intro c hc
  simp only [List.length_replicate, hbn]
  refine ⟨c, b, [], rfl, ⟨hb, by decide, nofun, List.nodup_nil, nofun, nofun⟩, MS.put_same, rfl, _, by rw [MS.put_put]; exact MS.put_same, ?_⟩
  rw [MS.put_put, MS.del_put hc]
  intro t ht
  refine ⟨t, b, [], [], rfl, rfl, by decide, MS.put_same, rfl, _, by rw [MS.put_put]; exact MS.put_same, by decide, ?_⟩
  rw [MS.put_put, MS.del_put ht]
  exact lessQ.of q
end HD
namespace HD
open PySem PySem.Spec L2
theorem fld_sh {M : MS} {a : Addr} {l : Option Int} {b : Int} {cs ss : List D} (h : M a = some (shO l b cs ss)) :
    fldOf ["Shelf", "SmallShelf"] M (.cell a) "calls" = some (.lst cs) ∧ fldOf ["Shelf", "SmallShelf"] M (.cell a) "states" = some (.lst ss) ∧ fldOf ["Book", "Shelf", "SmallShelf"] M (.cell a) "radix" = some (.int b) := by
  cases l with
  | none => exact ⟨(fld_cell h (by decide)).trans rfl, (fld_cell h (by decide)).trans rfl, (fld_cell h (by decide)).trans rfl⟩
  | some m => exact ⟨(fld_cell h (by decide)).trans rfl, (fld_cell h (by decide)).trans rfl, (fld_cell h (by decide)).trans rfl⟩
theorem ix_last {M : MS} {ds : List D} {d : D} : ixF M (.lst (ds ++ [d])) (.int (-1)) = some d := by
  unfold ixF itemsOf atI ixN
  have h : (-1 + ((ds.length : Int) + 1)).toNat = ds.length := by omega
  have h1 : (1 : Int) ≤ (ds.length : Int) + 1 := by omega
  simp [h, h1]
theorem cut_last {ds : List D} {d : D} : cutD (ds ++ [d]) none (some (-1)) = ds := by
  unfold cutD HT.sIx
  have h : (-1 + ((ds.length : Int) + 1)).toNat = ds.length := by omega
  simp [h]
theorem set_sh {M : MS} {a : Addr} {l : Option Int} {b : Int} {cs ss cs' ss' : List D} {R : MS → Prop} (h : M a = some (shO l b cs ss)) (q : R (M.put a (shO l b cs' ss'))) :
    setF ["Shelf", "SmallShelf"] "calls" (.cell a) (.lst cs') M fun M3 => setF ["Shelf", "SmallShelf"] "states" (.cell a) (.lst ss') M3 R := by
  cases l with
  | none =>
    refine ⟨a, _, _, _, rfl, h, by decide, by decide, a, _, _, _, rfl, MS.put_same, by decide, by decide, ?_⟩
    rw [MS.put_put]; exact q
  | some m =>
    refine ⟨a, _, _, _, rfl, h, by decide, by decide, a, _, _, _, rfl, MS.put_same, by decide, by decide, ?_⟩
    rw [MS.put_put]; exact q
theorem or_sh {M : MS} {a : Addr} {l : Option Int} {b : Int} {cs ss : List D} {m : Str} {n : Nat} {S : DSp} {i : Nat} {t : DA} {env : En} {Q : QD} {E : QE} (h0 : env[i]? = some (some (.cell a))) (h : M a = some (shO l b cs ss)) (hm : (["radix", "calls", "states", "greatest"] : List Str).contains m = false)
    (q : t env M (fun ds M2 => (D.cell a :: ds).length = n ∧ S (.cell a :: ds) M2 Q E) E) : dOrE (dMeth "Shelf" m n S (dVar i) t) (dMeth "SmallShelf" m n S (dVar i) t) env M Q E := by
  simp only [List.contains_cons, Bool.or_eq_false_iff] at hm
  cases l with
  | none => exact .inl ⟨_, h0, isCls_cell h (by simp only [List.contains_cons, List.contains_nil, Bool.or_false, Bool.or_eq_false_iff]; exact ⟨hm.1, hm.2.1, hm.2.2.1⟩), q⟩
  | some _ => exact .inr ⟨_, h0, isCls_cell h (by simp only [List.contains_cons, List.contains_nil, Bool.or_false, Bool.or_eq_false_iff]; exact ⟨hm.1, hm.2.1, hm.2.2.1, hm.2.2.2.1⟩), q⟩
theorem lim_sh {M : MS} {a : Addr} {l : Option Int} {b : Int} {cs ss : List D} {i : Nat} {env : En} {Q : QD} {E : QE} (h0 : env[i]? = some (some (.cell a))) (h : M a = some (shO l b cs ss)) (q : Q (limD l) M) :
    dOrE (dMeth "Shelf" "limit" 1 sp_Shelf_limit (dVar i) dNil) (dMeth "SmallShelf" "limit" 1 sp_SmallShelf_limit (dVar i) dNil) env M Q E := by
  cases l with
  | none => exact .inl ⟨_, h0, isCls_cell h (by decide), rfl, a, b, cs, ss, rfl, h, q⟩
  | some m => exact .inr ⟨_, h0, isCls_cell h (by decide), rfl, a, b, cs, ss, m, rfl, h, q⟩
theorem r_Shelf__init : Reads t_Shelf__init N_Shelf__init 2 sp_Shelf__init := by
  rintro ds M Q E hl ⟨a, b, c, rfl, hb, hc, hM, q⟩
  unfold t_Shelf__init
  simp only [dNeg, sRet, sSeq, sAsg, sDrop, sIf, sNext, sSetLc, sFor, sFldD, sAug, sPar, sSub, sRetN, dAndV, dOrV, dNotV, dAnd, dOr, dNot, dB, dTru, dIf, dOp, dCall, dCallF, dMeth, dProp, dFld, dMake, dMakeC, dCons, dNil, dStar, dTup, dLst, dNew, dVar, dFrz, dC, dSlice, dPart, dNoPart, dMt, dLc, dYes, iLst, iTupD, iRngD1, iRngD2, iEnumD, iZipD, rF, dTg, startD, wipeD, setMany, List.map, List.set, List.length_cons, List.length_nil, List.replicate, List.append, List.cons_append, List.nil_append, List.append_nil, List.getElem?_cons_zero, List.getElem?_cons_succ, Nat.reduceAdd, Nat.reduceSub, Nat.sub_self, Nat.zero_add, Option.some.injEq, exists_eq_left, exists_eq_left', exists_eq_right, List.cons.injEq, and_true, true_and, if_true, if_false, Bool.false_eq_true, Bool.not_true, Bool.not_false, D.bl.injEq, D.int.injEq, D.cell.injEq, reduceCtorEq, false_and, and_false, exists_false, or_false, false_or, exists_and_left, exists_and_right]
  refine r_notIn (b := true) (by rcases hb with rfl | rfl <;> rfl) ⟨false, rfl, ?_⟩
  rw [if_neg Bool.false_ne_true]
  have h1 : (["Book", "Shelf", "SmallShelf"] : List Str).contains c = true := by rcases hc with rfl | rfl <;> decide
  have h2 : (["Shelf", "SmallShelf"] : List Str).contains c = true := by rcases hc with rfl | rfl <;> decide
  refine ⟨c, [], [], hM, h1, by decide, by decide, c, _, _, MS.put_same, h2, by decide, by decide, c, _, _, by rw [MS.put_put]; exact MS.put_same, h2, by decide, ?_⟩
  rw [MS.put_put, MS.put_put]
  exact lessQ.of q
theorem r_Shelf_limit : Reads t_Shelf_limit N_Shelf_limit 1 sp_Shelf_limit := by
  rintro ds M Q E hl ⟨a, b, cs, ss, rfl, hM, q⟩
  unfold t_Shelf_limit
  simp only [dNeg, sRet, sSeq, sAsg, sDrop, sIf, sNext, sSetLc, sFor, sFldD, sAug, sPar, sSub, sRetN, dAndV, dOrV, dNotV, dAnd, dOr, dNot, dB, dTru, dIf, dOp, dCall, dCallF, dMeth, dProp, dFld, dMake, dMakeC, dCons, dNil, dStar, dTup, dLst, dNew, dVar, dFrz, dC, dSlice, dPart, dNoPart, dMt, dLc, dYes, iLst, iTupD, iRngD1, iRngD2, iEnumD, iZipD, rF, dTg, startD, wipeD, setMany, List.map, List.set, List.length_cons, List.length_nil, List.replicate, List.append, List.cons_append, List.nil_append, List.append_nil, List.getElem?_cons_zero, List.getElem?_cons_succ, Nat.reduceAdd, Nat.reduceSub, Nat.sub_self, Nat.zero_add, Option.some.injEq, exists_eq_left, exists_eq_left', exists_eq_right, List.cons.injEq, and_true, true_and, if_true, if_false, Bool.false_eq_true, Bool.not_true, Bool.not_false, D.bl.injEq, D.int.injEq, D.cell.injEq, reduceCtorEq, false_and, and_false, exists_false, or_false, false_or, exists_and_left, exists_and_right]
  exact lessQ.of q
theorem r_SmallShelf_limit : Reads t_SmallShelf_limit N_SmallShelf_limit 1 sp_SmallShelf_limit := by
  rintro ds M Q E hl ⟨a, b, cs, ss, m, rfl, hM, q⟩
  unfold t_SmallShelf_limit
  simp only [dNeg, sRet, sSeq, sAsg, sDrop, sIf, sNext, sSetLc, sFor, sFldD, sAug, sPar, sSub, sRetN, dAndV, dOrV, dNotV, dAnd, dOr, dNot, dB, dTru, dIf, dOp, dCall, dCallF, dMeth, dProp, dFld, dMake, dMakeC, dCons, dNil, dStar, dTup, dLst, dNew, dVar, dFrz, dC, dSlice, dPart, dNoPart, dMt, dLc, dYes, iLst, iTupD, iRngD1, iRngD2, iEnumD, iZipD, rF, dTg, startD, wipeD, setMany, List.map, List.set, List.length_cons, List.length_nil, List.replicate, List.append, List.cons_append, List.nil_append, List.append_nil, List.getElem?_cons_zero, List.getElem?_cons_succ, Nat.reduceAdd, Nat.reduceSub, Nat.sub_self, Nat.zero_add, Option.some.injEq, exists_eq_left, exists_eq_left', exists_eq_right, List.cons.injEq, and_true, true_and, if_true, if_false, Bool.false_eq_true, Bool.not_true, Bool.not_false, D.bl.injEq, D.int.injEq, D.cell.injEq, reduceCtorEq, false_and, and_false, exists_false, or_false, false_or, exists_and_left, exists_and_right]
  exact ⟨_, (fld_cell hM (by decide)).trans rfl, lessQ.of q⟩
theorem r_Shelf_keep : Reads t_Shelf_keep N_Shelf_keep 3 sp_Shelf_keep := by
  rintro ds M Q E hl ⟨a, l, b, cs, ss, c, s, rfl, hM, h1, h2, q⟩
  unfold t_Shelf_keep sFld2
  obtain ⟨f1, f2, f3⟩ := fld_sh hM
  simp only [dNeg, sRet, sSeq, sAsg, sDrop, sIf, sNext, sSetLc, sFor, sFldD, sAug, sPar, sSub, sRetN, dAndV, dOrV, dNotV, dAnd, dOr, dNot, dB, dTru, dIf, dOp, dCall, dCallF, dMeth, dProp, dFld, dMake, dMakeC, dCons, dNil, dStar, dTup, dLst, dNew, dVar, dFrz, dC, dSlice, dPart, dNoPart, dMt, dLc, dYes, iLst, iTupD, iRngD1, iRngD2, iEnumD, iZipD, rF, dTg, startD, wipeD, setMany, List.map, List.set, List.length_cons, List.length_nil, List.replicate, List.append, List.cons_append, List.nil_append, List.append_nil, List.getElem?_cons_zero, List.getElem?_cons_succ, Nat.reduceAdd, Nat.reduceSub, Nat.sub_self, Nat.zero_add, Option.some.injEq, exists_eq_left, exists_eq_left', exists_eq_right, List.cons.injEq, and_true, true_and, if_true, if_false, Bool.false_eq_true, Bool.not_true, Bool.not_false, D.bl.injEq, D.int.injEq, D.cell.injEq, reduceCtorEq, false_and, and_false, exists_false, or_false, false_or, exists_and_left, exists_and_right]
  refine ⟨_, f1, _, rfl, by rw [List.length_append]; simp only [List.length_cons, List.length_nil]; omega, _, f2, _, rfl, by rw [List.length_append]; simp only [List.length_cons, List.length_nil]; omega, by decide, _, _, rfl, set_sh hM (lessQ.of q)⟩
theorem r_Shelf_titles : Reads t_Shelf_titles N_Shelf_titles 1 sp_Shelf_titles := by
  rintro ds M Q E hl ⟨a, l, b, cs, ss, ts, vs, rfl, hM, h1, q⟩
  obtain ⟨f1, f2, f3⟩ := fld_sh hM
  unfold t_Shelf_titles
  simp only [dNeg, sRet, sSeq, sAsg, sDrop, sIf, sNext, sSetLc, sFor, sFldD, sAug, sPar, sSub, sRetN, dAndV, dOrV, dNotV, dAnd, dOr, dNot, dB, dTru, dIf, dOp, dCall, dCallF, dMeth, dProp, dFld, dMake, dMakeC, dCons, dNil, dStar, dTup, dLst, dNew, dVar, dFrz, dC, dSlice, dPart, dNoPart, dMt, dLc, dYes, iLst, iTupD, iRngD1, iRngD2, iEnumD, iZipD, rF, dTg, startD, wipeD, setMany, List.map, List.set, List.length_cons, List.length_nil, List.replicate, List.append, List.cons_append, List.nil_append, List.append_nil, List.getElem?_cons_zero, List.getElem?_cons_succ, Nat.reduceAdd, Nat.reduceSub, Nat.sub_self, Nat.zero_add, Option.some.injEq, exists_eq_left, exists_eq_left', exists_eq_right, List.cons.injEq, and_true, true_and, if_true, if_false, Bool.false_eq_true, Bool.not_true, Bool.not_false, D.bl.injEq, D.int.injEq, D.cell.injEq, reduceCtorEq, false_and, and_false, exists_false, or_false, false_or, exists_and_left, exists_and_right]
  exact ⟨_, f2, _, ix_last, _, _, ts, rfl, rfl, h1, fun ys p1 p2 => lessQ.of (q ys p1 p2)⟩
theorem r_Shelf_check_title : Reads t_Shelf_check_title N_Shelf_check_title 2 sp_Shelf_check_title := by
  rintro ds M Q E hl ⟨a, l, b, cs, ss, ks, vs, x, z, rfl, hM, h1, q⟩
  obtain ⟨f1, f2, f3⟩ := fld_sh hM
  unfold t_Shelf_check_title dDIn
  simp only [dNeg, sRet, sSeq, sAsg, sDrop, sIf, sNext, sSetLc, sFor, sFldD, sAug, sPar, sSub, sRetN, dAndV, dOrV, dNotV, dAnd, dOr, dNot, dB, dTru, dIf, dOp, dCall, dCallF, dMeth, dProp, dFld, dMake, dMakeC, dCons, dNil, dStar, dTup, dLst, dNew, dVar, dFrz, dC, dSlice, dPart, dNoPart, dMt, dLc, dYes, iLst, iTupD, iRngD1, iRngD2, iEnumD, iZipD, rF, dTg, startD, wipeD, setMany, List.map, List.set, List.length_cons, List.length_nil, List.replicate, List.append, List.cons_append, List.nil_append, List.append_nil, List.getElem?_cons_zero, List.getElem?_cons_succ, Nat.reduceAdd, Nat.reduceSub, Nat.sub_self, Nat.zero_add, Option.some.injEq, exists_eq_left, exists_eq_left', exists_eq_right, List.cons.injEq, and_true, true_and, if_true, if_false, Bool.false_eq_true, Bool.not_true, Bool.not_false, D.bl.injEq, D.int.injEq, D.cell.injEq, reduceCtorEq, false_and, and_false, exists_false, or_false, false_or, exists_and_left, exists_and_right]
  refine ⟨_, f2, _, ix_last, _, _, rfl, _, rfl, ?_⟩
  rw [h1]
  exact lessQ.of q
theorem r_Shelf_check_base : Reads t_Shelf_check_base N_Shelf_check_base 2 sp_Shelf_check_base := by
  rintro ds M Q E hl ⟨a, l, b, cs, ss, n, sh, rfl, hM, q⟩
  obtain ⟨f1, f2, f3⟩ := fld_sh hM
  unfold t_Shelf_check_base
  simp only [dNeg, sRet, sSeq, sAsg, sDrop, sIf, sNext, sSetLc, sFor, sFldD, sAug, sPar, sSub, sRetN, dAndV, dOrV, dNotV, dAnd, dOr, dNot, dB, dTru, dIf, dOp, dCall, dCallF, dMeth, dProp, dFld, dMake, dMakeC, dCons, dNil, dStar, dTup, dLst, dNew, dVar, dFrz, dC, dSlice, dPart, dNoPart, dMt, dLc, dYes, iLst, iTupD, iRngD1, iRngD2, iEnumD, iZipD, rF, dTg, startD, wipeD, setMany, List.map, List.set, List.length_cons, List.length_nil, List.replicate, List.append, List.cons_append, List.nil_append, List.append_nil, List.getElem?_cons_zero, List.getElem?_cons_succ, Nat.reduceAdd, Nat.reduceSub, Nat.sub_self, Nat.zero_add, Option.some.injEq, exists_eq_left, exists_eq_left', exists_eq_right, List.cons.injEq, and_true, true_and, if_true, if_false, Bool.false_eq_true, Bool.not_true, Bool.not_false, D.bl.injEq, D.int.injEq, D.cell.injEq, reduceCtorEq, false_and, and_false, exists_false, or_false, false_or, exists_and_left, exists_and_right]
  refine ⟨rfl, _, _, rfl, rfl, b, _, rfl, _, f3, r_neI ⟨false, by simp, ?_⟩⟩
  exact lessQ.of q
theorem r_Shelf_table_on : Reads t_Shelf_table_on N_Shelf_table_on 2 sp_Shelf_table_on := by
  rintro ds M Q E hl ⟨a, l, b, cs, ss, ks, vs, x, z, rfl, hM, h1, q⟩
  obtain ⟨f1, f2, f3⟩ := fld_sh hM
  unfold t_Shelf_table_on dGet
  simp only [dNeg, sRet, sSeq, sAsg, sDrop, sIf, sNext, sSetLc, sFor, sFldD, sAug, sPar, sSub, sRetN, dAndV, dOrV, dNotV, dAnd, dOr, dNot, dB, dTru, dIf, dOp, dCall, dCallF, dMeth, dProp, dFld, dMake, dMakeC, dCons, dNil, dStar, dTup, dLst, dNew, dVar, dFrz, dC, dSlice, dPart, dNoPart, dMt, dLc, dYes, iLst, iTupD, iRngD1, iRngD2, iEnumD, iZipD, rF, dTg, startD, wipeD, setMany, List.map, List.set, List.length_cons, List.length_nil, List.replicate, List.append, List.cons_append, List.nil_append, List.append_nil, List.getElem?_cons_zero, List.getElem?_cons_succ, Nat.reduceAdd, Nat.reduceSub, Nat.sub_self, Nat.zero_add, Option.some.injEq, exists_eq_left, exists_eq_left', exists_eq_right, List.cons.injEq, and_true, true_and, if_true, if_false, Bool.false_eq_true, Bool.not_true, Bool.not_false, D.bl.injEq, D.int.injEq, D.cell.injEq, reduceCtorEq, false_and, and_false, exists_false, or_false, false_or, exists_and_left, exists_and_right]
  refine or_sh rfl hM (by decide) ?_
  simp only [dNeg, sRet, sSeq, sAsg, sDrop, sIf, sNext, sSetLc, sFor, sFldD, sAug, sPar, sSub, sRetN, dAndV, dOrV, dNotV, dAnd, dOr, dNot, dB, dTru, dIf, dOp, dCall, dCallF, dMeth, dProp, dFld, dMake, dMakeC, dCons, dNil, dStar, dTup, dLst, dNew, dVar, dFrz, dC, dSlice, dPart, dNoPart, dMt, dLc, dYes, iLst, iTupD, iRngD1, iRngD2, iEnumD, iZipD, rF, dTg, startD, wipeD, setMany, List.map, List.set, List.length_cons, List.length_nil, List.replicate, List.append, List.cons_append, List.nil_append, List.append_nil, List.getElem?_cons_zero, List.getElem?_cons_succ, Nat.reduceAdd, Nat.reduceSub, Nat.sub_self, Nat.zero_add, Option.some.injEq, exists_eq_left, exists_eq_left', exists_eq_right, List.cons.injEq, and_true, true_and, if_true, if_false, Bool.false_eq_true, Bool.not_true, Bool.not_false, D.bl.injEq, D.int.injEq, D.cell.injEq, reduceCtorEq, false_and, and_false, exists_false, or_false, false_or, exists_and_left, exists_and_right]
  exact ⟨a, l, b, cs, ss, ks, vs, x, z, rfl, hM, h1, _, f2, _, ix_last, _, _, rfl, _, rfl, _, h1, lessQ.of q⟩
theorem r_Shelf_undo : Reads (t_Shelf_undo) N_Shelf_undo 1 sp_Shelf_undo := by
  rintro ds M Q E hl ⟨a, l, b, cs, c, ss, s, rfl, hM, q⟩
  obtain ⟨f1, f2, f3⟩ := fld_sh hM
  unfold t_Shelf_undo sFld2
  simp only [dNeg, sRet, sSeq, sAsg, sDrop, sIf, sNext, sSetLc, sFor, sFldD, sAug, sPar, sSub, sRetN, dAndV, dOrV, dNotV, dAnd, dOr, dNot, dB, dTru, dIf, dOp, dCall, dCallF, dMeth, dProp, dFld, dMake, dMakeC, dCons, dNil, dStar, dTup, dLst, dNew, dVar, dFrz, dC, dSlice, dPart, dNoPart, dMt, dLc, dYes, iLst, iTupD, iRngD1, iRngD2, iEnumD, iZipD, rF, dTg, startD, wipeD, setMany, List.map, List.set, List.length_cons, List.length_nil, List.replicate, List.append, List.cons_append, List.nil_append, List.append_nil, List.getElem?_cons_zero, List.getElem?_cons_succ, Nat.reduceAdd, Nat.reduceSub, Nat.sub_self, Nat.zero_add, Option.some.injEq, exists_eq_left, exists_eq_left', exists_eq_right, List.cons.injEq, and_true, true_and, if_true, if_false, Bool.false_eq_true, Bool.not_true, Bool.not_false, D.bl.injEq, D.int.injEq, D.cell.injEq, reduceCtorEq, false_and, and_false, exists_false, or_false, false_or, exists_and_left, exists_and_right]
  refine ⟨_, f1, by decide, 1, false, by decide, .inr (.inl ⟨_, _, rfl, rfl, ?_⟩), false, rfl, ?_⟩
  · cases cs <;> rfl
  simp only [dNeg, sRet, sSeq, sAsg, sDrop, sIf, sNext, sSetLc, sFor, sFldD, sAug, sPar, sSub, sRetN, dAndV, dOrV, dNotV, dAnd, dOr, dNot, dB, dTru, dIf, dOp, dCall, dCallF, dMeth, dProp, dFld, dMake, dMakeC, dCons, dNil, dStar, dTup, dLst, dNew, dVar, dFrz, dC, dSlice, dPart, dNoPart, dMt, dLc, dYes, iLst, iTupD, iRngD1, iRngD2, iEnumD, iZipD, rF, dTg, startD, wipeD, setMany, List.map, List.set, List.length_cons, List.length_nil, List.replicate, List.append, List.cons_append, List.nil_append, List.append_nil, List.getElem?_cons_zero, List.getElem?_cons_succ, Nat.reduceAdd, Nat.reduceSub, Nat.sub_self, Nat.zero_add, Option.some.injEq, exists_eq_left, exists_eq_left', exists_eq_right, List.cons.injEq, and_true, true_and, if_true, if_false, Bool.false_eq_true, Bool.not_true, Bool.not_false, D.bl.injEq, D.int.injEq, D.cell.injEq, reduceCtorEq, false_and, and_false, exists_false, or_false, false_or, exists_and_left, exists_and_right]
  refine ⟨_, f1, _, rfl, _, f2, _, rfl, by decide, _, _, rfl, ?_⟩
  rw [cut_last, cut_last]
  exact set_sh hM (lessQ.of q)
theorem r_Shelf_drop : Reads t_Shelf_drop N_Shelf_drop 2 sp_Shelf_drop := by
  rintro ds M Q E hl ⟨a, l, b, cs, ss, z1, z2, rfl, hM, h1, h2, q⟩
  obtain ⟨f1, f2, f3⟩ := fld_sh hM
  unfold t_Shelf_drop
  simp only [dNeg, sRet, sSeq, sAsg, sDrop, sIf, sNext, sSetLc, sFor, sFldD, sAug, sPar, sSub, sRetN, dAndV, dOrV, dNotV, dAnd, dOr, dNot, dB, dTru, dIf, dOp, dCall, dCallF, dMeth, dProp, dFld, dMake, dMakeC, dCons, dNil, dStar, dTup, dLst, dNew, dVar, dFrz, dC, dSlice, dPart, dNoPart, dMt, dLc, dYes, iLst, iTupD, iRngD1, iRngD2, iEnumD, iZipD, rF, dTg, startD, wipeD, setMany, List.map, List.set, List.length_cons, List.length_nil, List.replicate, List.append, List.cons_append, List.nil_append, List.append_nil, List.getElem?_cons_zero, List.getElem?_cons_succ, Nat.reduceAdd, Nat.reduceSub, Nat.sub_self, Nat.zero_add, Option.some.injEq, exists_eq_left, exists_eq_left', exists_eq_right, List.cons.injEq, and_true, true_and, if_true, if_false, Bool.false_eq_true, Bool.not_true, Bool.not_false, D.bl.injEq, D.int.injEq, D.cell.injEq, reduceCtorEq, false_and, and_false, exists_false, or_false, false_or, exists_and_left, exists_and_right]
  refine or_sh rfl hM (by decide) ?_
  simp only [dNeg, sRet, sSeq, sAsg, sDrop, sIf, sNext, sSetLc, sFor, sFldD, sAug, sPar, sSub, sRetN, dAndV, dOrV, dNotV, dAnd, dOr, dNot, dB, dTru, dIf, dOp, dCall, dCallF, dMeth, dProp, dFld, dMake, dMakeC, dCons, dNil, dStar, dTup, dLst, dNew, dVar, dFrz, dC, dSlice, dPart, dNoPart, dMt, dLc, dYes, iLst, iTupD, iRngD1, iRngD2, iEnumD, iZipD, rF, dTg, startD, wipeD, setMany, List.map, List.set, List.length_cons, List.length_nil, List.replicate, List.append, List.cons_append, List.nil_append, List.append_nil, List.getElem?_cons_zero, List.getElem?_cons_succ, Nat.reduceAdd, Nat.reduceSub, Nat.sub_self, Nat.zero_add, Option.some.injEq, exists_eq_left, exists_eq_left', exists_eq_right, List.cons.injEq, and_true, true_and, if_true, if_false, Bool.false_eq_true, Bool.not_true, Bool.not_false, D.bl.injEq, D.int.injEq, D.cell.injEq, reduceCtorEq, false_and, and_false, exists_false, or_false, false_or, exists_and_left, exists_and_right]
  refine ⟨a, l, b, cs, ss, _, _, "b", z2, rfl, hM, rfl, ?_⟩
  refine or_sh rfl hM (by decide) ?_
  unfold dDc iItmD
  simp only [dNeg, sRet, sSeq, sAsg, sDrop, sIf, sNext, sSetLc, sFor, sFldD, sAug, sPar, sSub, sRetN, dAndV, dOrV, dNotV, dAnd, dOr, dNot, dB, dTru, dIf, dOp, dCall, dCallF, dMeth, dProp, dFld, dMake, dMakeC, dCons, dNil, dStar, dTup, dLst, dNew, dVar, dFrz, dC, dSlice, dPart, dNoPart, dMt, dLc, dYes, iLst, iTupD, iRngD1, iRngD2, iEnumD, iZipD, rF, dTg, startD, wipeD, setMany, List.map, List.set, List.length_cons, List.length_nil, List.replicate, List.append, List.cons_append, List.nil_append, List.append_nil, List.getElem?_cons_zero, List.getElem?_cons_succ, Nat.reduceAdd, Nat.reduceSub, Nat.sub_self, Nat.zero_add, Option.some.injEq, exists_eq_left, exists_eq_left', exists_eq_right, List.cons.injEq, and_true, true_and, if_true, if_false, Bool.false_eq_true, Bool.not_true, Bool.not_false, D.bl.injEq, D.int.injEq, D.cell.injEq, reduceCtorEq, false_and, and_false, exists_false, or_false, false_or, exists_and_left, exists_and_right]
  refine ⟨by decide, _, f2, _, ix_last, _, _, rfl, by simp [pairsD], ?_⟩
  simp only [pairsD, List.zipWith, keyOf, dcTurns]
  simp only [dNeg, sRet, sSeq, sAsg, sDrop, sIf, sNext, sSetLc, sFor, sFldD, sAug, sPar, sSub, sRetN, dAndV, dOrV, dNotV, dAnd, dOr, dNot, dB, dTru, dIf, dOp, dCall, dCallF, dMeth, dProp, dFld, dMake, dMakeC, dCons, dNil, dStar, dTup, dLst, dNew, dVar, dFrz, dC, dSlice, dPart, dNoPart, dMt, dLc, dYes, iLst, iTupD, iRngD1, iRngD2, iEnumD, iZipD, rF, dTg, startD, wipeD, setMany, List.map, List.set, List.length_cons, List.length_nil, List.replicate, List.append, List.cons_append, List.nil_append, List.append_nil, List.getElem?_cons_zero, List.getElem?_cons_succ, Nat.reduceAdd, Nat.reduceSub, Nat.sub_self, Nat.zero_add, Option.some.injEq, exists_eq_left, exists_eq_left', exists_eq_right, List.cons.injEq, and_true, true_and, if_true, if_false, Bool.false_eq_true, Bool.not_true, Bool.not_false, D.bl.injEq, D.int.injEq, D.cell.injEq, reduceCtorEq, false_and, and_false, exists_false, or_false, false_or, exists_and_left, exists_and_right]
  refine ⟨_, rfl, rfl, ?_⟩
  simp only [dNeg, sRet, sSeq, sAsg, sDrop, sIf, sNext, sSetLc, sFor, sFldD, sAug, sPar, sSub, sRetN, dAndV, dOrV, dNotV, dAnd, dOr, dNot, dB, dTru, dIf, dOp, dCall, dCallF, dMeth, dProp, dFld, dMake, dMakeC, dCons, dNil, dStar, dTup, dLst, dNew, dVar, dFrz, dC, dSlice, dPart, dNoPart, dMt, dLc, dYes, iLst, iTupD, iRngD1, iRngD2, iEnumD, iZipD, rF, dTg, startD, wipeD, setMany, List.map, List.set, List.length_cons, List.length_nil, List.replicate, List.append, List.cons_append, List.nil_append, List.append_nil, List.getElem?_cons_zero, List.getElem?_cons_succ, Nat.reduceAdd, Nat.reduceSub, Nat.sub_self, Nat.zero_add, Option.some.injEq, exists_eq_left, exists_eq_left', exists_eq_right, List.cons.injEq, and_true, true_and, if_true, if_false, Bool.false_eq_true, Bool.not_true, Bool.not_false, D.bl.injEq, D.int.injEq, D.cell.injEq, reduceCtorEq, false_and, and_false, exists_false, or_false, false_or, exists_and_left, exists_and_right]
  refine r_neS ⟨true, rfl, ?_⟩
  simp only [dNeg, sRet, sSeq, sAsg, sDrop, sIf, sNext, sSetLc, sFor, sFldD, sAug, sPar, sSub, sRetN, dAndV, dOrV, dNotV, dAnd, dOr, dNot, dB, dTru, dIf, dOp, dCall, dCallF, dMeth, dProp, dFld, dMake, dMakeC, dCons, dNil, dStar, dTup, dLst, dNew, dVar, dFrz, dC, dSlice, dPart, dNoPart, dMt, dLc, dYes, iLst, iTupD, iRngD1, iRngD2, iEnumD, iZipD, rF, dTg, startD, wipeD, setMany, List.map, List.set, List.length_cons, List.length_nil, List.replicate, List.append, List.cons_append, List.nil_append, List.append_nil, List.getElem?_cons_zero, List.getElem?_cons_succ, Nat.reduceAdd, Nat.reduceSub, Nat.sub_self, Nat.zero_add, Option.some.injEq, exists_eq_left, exists_eq_left', exists_eq_right, List.cons.injEq, and_true, true_and, if_true, if_false, Bool.false_eq_true, Bool.not_true, Bool.not_false, D.bl.injEq, D.int.injEq, D.cell.injEq, reduceCtorEq, false_and, and_false, exists_false, or_false, false_or, exists_and_left, exists_and_right]
  refine ⟨_, rfl, _, rfl, rfl, ?_⟩
  simp only [dNeg, sRet, sSeq, sAsg, sDrop, sIf, sNext, sSetLc, sFor, sFldD, sAug, sPar, sSub, sRetN, dAndV, dOrV, dNotV, dAnd, dOr, dNot, dB, dTru, dIf, dOp, dCall, dCallF, dMeth, dProp, dFld, dMake, dMakeC, dCons, dNil, dStar, dTup, dLst, dNew, dVar, dFrz, dC, dSlice, dPart, dNoPart, dMt, dLc, dYes, iLst, iTupD, iRngD1, iRngD2, iEnumD, iZipD, rF, dTg, startD, wipeD, setMany, List.map, List.set, List.length_cons, List.length_nil, List.replicate, List.append, List.cons_append, List.nil_append, List.append_nil, List.getElem?_cons_zero, List.getElem?_cons_succ, Nat.reduceAdd, Nat.reduceSub, Nat.sub_self, Nat.zero_add, Option.some.injEq, exists_eq_left, exists_eq_left', exists_eq_right, List.cons.injEq, and_true, true_and, if_true, if_false, Bool.false_eq_true, Bool.not_true, Bool.not_false, D.bl.injEq, D.int.injEq, D.cell.injEq, reduceCtorEq, false_and, and_false, exists_false, or_false, false_or, exists_and_left, exists_and_right]
  refine r_neS ⟨false, rfl, ?_⟩
  simp only [dNeg, sRet, sSeq, sAsg, sDrop, sIf, sNext, sSetLc, sFor, sFldD, sAug, sPar, sSub, sRetN, dAndV, dOrV, dNotV, dAnd, dOr, dNot, dB, dTru, dIf, dOp, dCall, dCallF, dMeth, dProp, dFld, dMake, dMakeC, dCons, dNil, dStar, dTup, dLst, dNew, dVar, dFrz, dC, dSlice, dPart, dNoPart, dMt, dLc, dYes, iLst, iTupD, iRngD1, iRngD2, iEnumD, iZipD, rF, dTg, startD, wipeD, setMany, List.map, List.set, List.length_cons, List.length_nil, List.replicate, List.append, List.cons_append, List.nil_append, List.append_nil, List.getElem?_cons_zero, List.getElem?_cons_succ, Nat.reduceAdd, Nat.reduceSub, Nat.sub_self, Nat.zero_add, Option.some.injEq, exists_eq_left, exists_eq_left', exists_eq_right, List.cons.injEq, and_true, true_and, if_true, if_false, Bool.false_eq_true, Bool.not_true, Bool.not_false, D.bl.injEq, D.int.injEq, D.cell.injEq, reduceCtorEq, false_and, and_false, exists_false, or_false, false_or, exists_and_left, exists_and_right]
  exact ⟨a, l, b, cs, _, _, _, rfl, hM, by omega, by rw [List.length_append]; simp only [List.length_cons, List.length_nil]; omega, lessQ.of q⟩
theorem r_Shelf_put : Reads t_Shelf_put N_Shelf_put 3 sp_Shelf_put := by
  rintro ds M Q E hl ⟨a, l, b, cs, ss, ks, vs, x, n, sh, rfl, hx, hM, h1, h2, h3, hb, hlim, q⟩
  obtain ⟨f1, f2, f3⟩ := fld_sh hM
  unfold t_Shelf_put
  simp only [dNeg, sRet, sSeq, sAsg, sDrop, sIf, sNext, sSetLc, sFor, sFldD, sAug, sPar, sSub, sRetN, dAndV, dOrV, dNotV, dAnd, dOr, dNot, dB, dTru, dIf, dOp, dCall, dCallF, dMeth, dProp, dFld, dMake, dMakeC, dCons, dNil, dStar, dTup, dLst, dNew, dVar, dFrz, dC, dSlice, dPart, dNoPart, dMt, dLc, dYes, iLst, iTupD, iRngD1, iRngD2, iEnumD, iZipD, rF, dTg, startD, wipeD, setMany, List.map, List.set, List.length_cons, List.length_nil, List.replicate, List.append, List.cons_append, List.nil_append, List.append_nil, List.getElem?_cons_zero, List.getElem?_cons_succ, Nat.reduceAdd, Nat.reduceSub, Nat.sub_self, Nat.zero_add, Option.some.injEq, exists_eq_left, exists_eq_left', exists_eq_right, List.cons.injEq, and_true, true_and, if_true, if_false, Bool.false_eq_true, Bool.not_true, Bool.not_false, D.bl.injEq, D.int.injEq, D.cell.injEq, reduceCtorEq, false_and, and_false, exists_false, or_false, false_or, exists_and_left, exists_and_right]
  refine ⟨x, hx, rfl, _, rfl, ?_⟩
  simp only [dNeg, sRet, sSeq, sAsg, sDrop, sIf, sNext, sSetLc, sFor, sFldD, sAug, sPar, sSub, sRetN, dAndV, dOrV, dNotV, dAnd, dOr, dNot, dB, dTru, dIf, dOp, dCall, dCallF, dMeth, dProp, dFld, dMake, dMakeC, dCons, dNil, dStar, dTup, dLst, dNew, dVar, dFrz, dC, dSlice, dPart, dNoPart, dMt, dLc, dYes, iLst, iTupD, iRngD1, iRngD2, iEnumD, iZipD, rF, dTg, startD, wipeD, setMany, List.map, List.set, List.length_cons, List.length_nil, List.replicate, List.append, List.cons_append, List.nil_append, List.append_nil, List.getElem?_cons_zero, List.getElem?_cons_succ, Nat.reduceAdd, Nat.reduceSub, Nat.sub_self, Nat.zero_add, Option.some.injEq, exists_eq_left, exists_eq_left', exists_eq_right, List.cons.injEq, and_true, true_and, if_true, if_false, Bool.false_eq_true, Bool.not_true, Bool.not_false, D.bl.injEq, D.int.injEq, D.cell.injEq, reduceCtorEq, false_and, and_false, exists_false, or_false, false_or, exists_and_left, exists_and_right]
  refine or_sh rfl hM (by decide) ?_
  simp only [dNeg, sRet, sSeq, sAsg, sDrop, sIf, sNext, sSetLc, sFor, sFldD, sAug, sPar, sSub, sRetN, dAndV, dOrV, dNotV, dAnd, dOr, dNot, dB, dTru, dIf, dOp, dCall, dCallF, dMeth, dProp, dFld, dMake, dMakeC, dCons, dNil, dStar, dTup, dLst, dNew, dVar, dFrz, dC, dSlice, dPart, dNoPart, dMt, dLc, dYes, iLst, iTupD, iRngD1, iRngD2, iEnumD, iZipD, rF, dTg, startD, wipeD, setMany, List.map, List.set, List.length_cons, List.length_nil, List.replicate, List.append, List.cons_append, List.nil_append, List.append_nil, List.getElem?_cons_zero, List.getElem?_cons_succ, Nat.reduceAdd, Nat.reduceSub, Nat.sub_self, Nat.zero_add, Option.some.injEq, exists_eq_left, exists_eq_left', exists_eq_right, List.cons.injEq, and_true, true_and, if_true, if_false, Bool.false_eq_true, Bool.not_true, Bool.not_false, D.bl.injEq, D.int.injEq, D.cell.injEq, reduceCtorEq, false_and, and_false, exists_false, or_false, false_or, exists_and_left, exists_and_right]
  refine ⟨a, l, b, cs, _, n, sh, rfl, hM, lim_sh rfl hM ?_⟩
  have keep : dOrE (dMeth "Shelf" "keep" 3 sp_Shelf_keep (dVar 0)
                    (dCons (dTup (dCons (dC (.str "put")) (dCons (dVar 1) (dCons (dVar 2) dNil))))
                      (dCons (dMrg (dOp (rF ixF) (dFld ["Shelf", "SmallShelf"] "states" (dVar 0)) (dNeg (dC (.int 1)))) (dVar 1) (dVar 2)) dNil)))
                  (dMeth "SmallShelf" "keep" 3 sp_Shelf_keep (dVar 0)
                    (dCons (dTup (dCons (dC (.str "put")) (dCons (dVar 1) (dCons (dVar 2) dNil))))
                      (dCons (dMrg (dOp (rF ixF) (dFld ["Shelf", "SmallShelf"] "states" (dVar 0)) (dNeg (dC (.int 1)))) (dVar 1) (dVar 2)) dNil)))
      [some (.cell a), some (.str x), some (tableD b n sh)] M (fun _ M1 => lessQ Q .non M1) (lessE E) := by
    refine or_sh rfl hM (by decide) ?_
    unfold dMrg
    simp only [dNeg, sRet, sSeq, sAsg, sDrop, sIf, sNext, sSetLc, sFor, sFldD, sAug, sPar, sSub, sRetN, dAndV, dOrV, dNotV, dAnd, dOr, dNot, dB, dTru, dIf, dOp, dCall, dCallF, dMeth, dProp, dFld, dMake, dMakeC, dCons, dNil, dStar, dTup, dLst, dNew, dVar, dFrz, dC, dSlice, dPart, dNoPart, dMt, dLc, dYes, iLst, iTupD, iRngD1, iRngD2, iEnumD, iZipD, rF, dTg, startD, wipeD, setMany, List.map, List.set, List.length_cons, List.length_nil, List.replicate, List.append, List.cons_append, List.nil_append, List.append_nil, List.getElem?_cons_zero, List.getElem?_cons_succ, Nat.reduceAdd, Nat.reduceSub, Nat.sub_self, Nat.zero_add, Option.some.injEq, exists_eq_left, exists_eq_left', exists_eq_right, List.cons.injEq, and_true, true_and, if_true, if_false, Bool.false_eq_true, Bool.not_true, Bool.not_false, D.bl.injEq, D.int.injEq, D.cell.injEq, reduceCtorEq, false_and, and_false, exists_false, or_false, false_or, exists_and_left, exists_and_right]
    refine ⟨by decide, _, f2, _, ix_last, _, _, rfl, by omega, _, rfl, ?_⟩
    exact ⟨a, l, b, cs, _, _, _, rfl, hM, by omega, by rw [List.length_append]; simp only [List.length_cons, List.length_nil]; omega, lessQ.of q⟩
  rcases hlim with rfl | ⟨m, rfl, hm, rfl, rfl⟩
  · refine ⟨rfl, false, rfl, ?_⟩
    exact keep
  · refine ⟨rfl, true, rfl, ?_⟩
    simp only [dNeg, sRet, sSeq, sAsg, sDrop, sIf, sNext, sSetLc, sFor, sFldD, sAug, sPar, sSub, sRetN, dAndV, dOrV, dNotV, dAnd, dOr, dNot, dB, dTru, dIf, dOp, dCall, dCallF, dMeth, dProp, dFld, dMake, dMakeC, dCons, dNil, dStar, dTup, dLst, dNew, dVar, dFrz, dC, dSlice, dPart, dNoPart, dMt, dLc, dYes, iLst, iTupD, iRngD1, iRngD2, iEnumD, iZipD, rF, dTg, startD, wipeD, setMany, List.map, List.set, List.length_cons, List.length_nil, List.replicate, List.append, List.cons_append, List.nil_append, List.append_nil, List.getElem?_cons_zero, List.getElem?_cons_succ, Nat.reduceAdd, Nat.reduceSub, Nat.sub_self, Nat.zero_add, Option.some.injEq, exists_eq_left, exists_eq_left', exists_eq_right, List.cons.injEq, and_true, true_and, if_true, if_false, Bool.false_eq_true, Bool.not_true, Bool.not_false, D.bl.injEq, D.int.injEq, D.cell.injEq, reduceCtorEq, false_and, and_false, exists_false, or_false, false_or, exists_and_left, exists_and_right]
    refine ⟨b, rfl, hb, lim_sh rfl hM (r_int trivial ⟨false, by simp [hm], ?_⟩)⟩
    exact keep
theorem lim_eq {l l' : Option Int} : scalEq (limD l) (limD l') = some (decide (l = l')) := by
  cases l <;> cases l' <;> simp [limD, scalEq]
theorem ty_sh {M : MS} {a : Addr} {l : Option Int} {b : Int} {cs ss : List D} (h : M a = some (shO l b cs ss)) : ∃ t, tyD M (.cell a) = some t ∧ okTy tyCs t = true ∧ isTy tySub "Shelf" t = true := by
  cases l with
  | none => exact ⟨_, tyD_cell h, by decide, by decide⟩
  | some m => exact ⟨_, tyD_cell h, by decide, by decide⟩
theorem r_Shelf__eq {G : Gx} : Reads (t_Shelf__eq G) N_Shelf__eq 2 sp_Shelf__eq := by
  rintro ds M Q E hl ⟨a, l, b, cs, ss, hM, ⟨x, t, rfl, h1, h2, h3, q⟩ | ⟨a', l', b', cs', ss', rfl, hM', h⟩⟩
  · unfold t_Shelf__eq
    simp only [dNeg, sRet, sSeq, sAsg, sDrop, sIf, sNext, sSetLc, sFor, sFldD, sAug, sPar, sSub, sRetN, dAndV, dOrV, dNotV, dAnd, dOr, dNot, dB, dTru, dIf, dOp, dCall, dCallF, dMeth, dProp, dFld, dMake, dMakeC, dCons, dNil, dStar, dTup, dLst, dNew, dVar, dFrz, dC, dSlice, dPart, dNoPart, dMt, dLc, dYes, iLst, iTupD, iRngD1, iRngD2, iEnumD, iZipD, rF, dTg, startD, wipeD, setMany, List.map, List.set, List.length_cons, List.length_nil, List.replicate, List.append, List.cons_append, List.nil_append, List.append_nil, List.getElem?_cons_zero, List.getElem?_cons_succ, Nat.reduceAdd, Nat.reduceSub, Nat.sub_self, Nat.zero_add, Option.some.injEq, exists_eq_left, exists_eq_left', exists_eq_right, List.cons.injEq, and_true, true_and, if_true, if_false, Bool.false_eq_true, Bool.not_true, Bool.not_false, D.bl.injEq, D.int.injEq, D.cell.injEq, reduceCtorEq, false_and, and_false, exists_false, or_false, false_or, exists_and_left, exists_and_right]
    refine ⟨_, t, rfl, h1, h2, _, rfl, ?_⟩
    rw [h3]
    exact lessQ.of q
  · obtain ⟨t, h1, h2, h3⟩ := ty_sh hM'
    obtain ⟨f1, f2, f3⟩ := fld_sh hM
    obtain ⟨g1, g2, g3⟩ := fld_sh hM'
    unfold t_Shelf__eq
    simp only [dNeg, sRet, sSeq, sAsg, sDrop, sIf, sNext, sSetLc, sFor, sFldD, sAug, sPar, sSub, sRetN, dAndV, dOrV, dNotV, dAnd, dOr, dNot, dB, dTru, dIf, dOp, dCall, dCallF, dMeth, dProp, dFld, dMake, dMakeC, dCons, dNil, dStar, dTup, dLst, dNew, dVar, dFrz, dC, dSlice, dPart, dNoPart, dMt, dLc, dYes, iLst, iTupD, iRngD1, iRngD2, iEnumD, iZipD, rF, dTg, startD, wipeD, setMany, List.map, List.set, List.length_cons, List.length_nil, List.replicate, List.append, List.cons_append, List.nil_append, List.append_nil, List.getElem?_cons_zero, List.getElem?_cons_succ, Nat.reduceAdd, Nat.reduceSub, Nat.sub_self, Nat.zero_add, Option.some.injEq, exists_eq_left, exists_eq_left', exists_eq_right, List.cons.injEq, and_true, true_and, if_true, if_false, Bool.false_eq_true, Bool.not_true, Bool.not_false, D.bl.injEq, D.int.injEq, D.cell.injEq, reduceCtorEq, false_and, and_false, exists_false, or_false, false_or, exists_and_left, exists_and_right]
    refine ⟨_, t, rfl, h1, h2, _, rfl, ?_⟩
    rw [h3]
    refine ⟨_, f3, _, g3, r_neI ⟨_, rfl, ?_⟩⟩
    rcases h with ⟨hb, q⟩ | ⟨rfl, hlm, q⟩ | ⟨rfl, rfl, n, r, hn, hr, q⟩
    · rw [decide_eq_false hb]
      exact lessQ.of q
    · rw [decide_eq_true rfl]
      refine lim_sh rfl hM (lim_sh rfl hM' (.inl ⟨_, lim_eq, _, rfl, ?_⟩))
      rw [decide_eq_false hlm]
      exact lessQ.of q
    · rw [decide_eq_true rfl]
      refine lim_sh rfl hM (lim_sh rfl hM' (.inl ⟨_, lim_eq, _, rfl, ?_⟩))
      rw [decide_eq_true rfl]
      exact ⟨_, f1, _, g1, n, r, by omega, hr, lessQ.of q⟩
end HD
namespace HD
open PySem PySem.Spec L2
theorem lg_lt {n k : Nat} (h : n < 2 ^ k) (hk : 0 < k) : n.log2 < k := by
  by_cases h0 : n = 0
  · subst h0; exact hk
  · exact (Nat.log2_lt h0).mpr h
theorem mulOk_of {i j : Int} (hi : i.natAbs < 2 ^ 2000) (hj : j.natAbs < 2 ^ 2000) : MulOk i j := by
  have h1 := lg_lt hi (by decide)
  have h2 := lg_lt hj (by decide)
  unfold MulOk; omega
theorem powOk_of {i : Int} (hi : i.natAbs < 2 ^ 2000) : PowOk i 3 := by
  have h1 := lg_lt hi (by decide)
  refine ⟨by decide, ?_⟩
  have : ((i.natAbs.log2 : Int) + 1) ≤ 2000 := by omega
  omega
theorem nat_small {i : Int} (h0 : 0 ≤ i) (h : i < 2 ^ 200) : i.natAbs < 2 ^ 2000 := by
  have h2 : (2 : Nat) ^ 200 < 2 ^ 2000 := Nat.pow_lt_pow_right (by decide) (by decide)
  have h3 : i.natAbs < 2 ^ 200 := by
    have : ((i.natAbs : Nat) : Int) < ((2 ^ 200 : Nat) : Int) := by rw [Int.natAbs_of_nonneg h0]; exact_mod_cast h
    exact_mod_cast this
  exact Nat.lt_trans h3 h2
theorem divOk_of {i : Int} (h0 : 0 < i) (h : i < 2 ^ 200) : DivOk i := by
  have h1 : i.natAbs < 2 ^ 200 := by
    have : ((i.natAbs : Nat) : Int) < ((2 ^ 200 : Nat) : Int) := by rw [Int.natAbs_of_nonneg (by omega)]; exact_mod_cast h
    exact_mod_cast this
  have h2 := lg_lt h1 (by decide)
  exact ⟨by omega, by omega⟩
theorem ix_cell {M : MS} {a : Addr} {ds : List D} {i : Int} {e : D} (h : M a = some (.lst ds)) (q : atI ds i = some e) : ixF M (.cell a) (.int i) = some e := by
  show (lstOf (M a)).bind (fun ds => atI ds i) = _
  rw [h]; exact q
theorem r_L_draw : Reads t_L_draw N_L_draw 2 sp_L_draw := by
  rintro ds M Q E hl ⟨a, n, K, o, rfl, hn0, hn, hM, ⟨x, y, z, rfl, hx, hy, hy2, hz, hzK⟩, hK, q⟩
  unfold t_L_draw
  simp only [dNeg, sRet, sSeq, sAsg, sDrop, sIf, sNext, sSetLc, sFor, sFldD, sAug, sPar, sSub, sRetN, dAndV, dOrV, dNotV, dAnd, dOr, dNot, dB, dTru, dIf, dOp, dCall, dCallF, dMeth, dProp, dFld, dMake, dMakeC, dCons, dNil, dStar, dTup, dLst, dNew, dVar, dFrz, dC, dSlice, dPart, dNoPart, dMt, dLc, dYes, iLst, iTupD, iRngD1, iRngD2, iEnumD, iZipD, rF, dTg, startD, wipeD, setMany, List.map, List.set, List.length_cons, List.length_nil, List.replicate, List.append, List.cons_append, List.nil_append, List.append_nil, List.getElem?_cons_zero, List.getElem?_cons_succ, Nat.reduceAdd, Nat.reduceSub, Nat.sub_self, Nat.zero_add, Option.some.injEq, exists_eq_left, exists_eq_left', exists_eq_right, List.cons.injEq, and_true, true_and, if_true, if_false, Bool.false_eq_true, Bool.not_true, Bool.not_false, D.bl.injEq, D.int.injEq, D.cell.injEq, reduceCtorEq, false_and, and_false, exists_false, or_false, false_or, exists_and_left, exists_and_right]
  have hnz : n ≠ 0 := by omega
  refine ⟨.int x, ix_cell hM rfl, r_int trivial ⟨_, rfl, ?_⟩⟩
  by_cases hx0 : 0 < x
  · rw [decide_eq_true hx0, if_pos rfl]
    refine ⟨.int x, ix_cell hM rfl, .inl ⟨x, rfl, r_int hnz ⟨.int x, ix_cell hM rfl, r_int ?_ ⟨_, hM, 0, rfl, ?_⟩⟩⟩⟩
    · exact divOk_of (by omega) (by omega)
    · exact lessQ.of (q _ _ (Int.fmod_nonneg_of_pos _ hn0) (Int.fmod_lt_of_pos _ hn0) ⟨_, _, _, rfl, Int.fdiv_nonneg hx (by omega), hy, hy2, hz, by omega⟩)
  · rw [decide_eq_false hx0, if_neg Bool.false_ne_true]
    refine ⟨.int z, ix_cell hM rfl, r_addI ⟨_, hM, 2, rfl, ?_⟩⟩
    have hN : (M.put a (.lst [.int x, .int y, .int (z + 1)])) a = some (.lst [.int x, .int y, .int (z + 1)]) := MS.put_same
    have hK' : z + 1 ≤ 1000000 := by unfold KM at hK; omega
    have n1 : (0 : Int) ≤ 15485863 * (z + 1) := by omega
    have n2 : (0 : Int) ≤ y + 15485863 * (z + 1) := by omega
    have hy3 : y ≤ 18446744073709551616 := by simpa using hy2
    refine ⟨.int y, ix_cell hN rfl, .int (z + 1), ix_cell hN rfl, r_int (mulOk_of (by decide +kernel) (nat_small (by omega) (by omega))) (r_addI (r_int (powOk_of (nat_small n2 (by omega))) (.inl ⟨_, rfl, r_int (by decide) ⟨.int (z + 1), ix_cell hN rfl, ?_⟩⟩)))⟩
    have m0 := Int.fmod_nonneg_of_pos ((y + 15485863 * (z + 1)) ^ (3 : Int).toNat) (b := 162259276829213363391578010288127) (by decide)
    have m1 := Int.fmod_lt_of_pos ((y + 15485863 * (z + 1)) ^ (3 : Int).toNat) (b := 162259276829213363391578010288127) (by decide)
    generalize Int.fmod ((y + 15485863 * (z + 1)) ^ (3 : Int).toNat) 162259276829213363391578010288127 = m at m0 m1 ⊢
    refine r_int (mulOk_of (by decide +kernel) (nat_small (by omega) (by omega))) (r_addI (r_int (powOk_of (nat_small (by omega) (by omega))) (.inl ⟨_, rfl, r_int (by decide) (r_int ?_ (.inl ⟨_, rfl, r_int hnz (lessQ.of ?_)⟩))⟩)))
    · exact divOk_of (by omega) (by omega)
    · exact q _ _ (Int.fmod_nonneg_of_pos _ hn0) (Int.fmod_lt_of_pos _ hn0) ⟨_, _, _, rfl, hx, hy, hy2, by omega, by omega⟩
theorem draw_at {M : MS} {a : Addr} {n K : Int} {o : MO} {Q : QD} {E : QE} (hM : M a = some o) (hp : PoolM K o) (hK : K < KM) (h0 : 0 < n) (h1 : n ≤ 100) (q : ∀ r o', 0 ≤ r → r < n → PoolM (K + 1) o' → Q (.int r) (M.put a o')) : sp_L_draw [.cell a, .int n] M Q E :=
  ⟨a, n, K, o, rfl, h0, h1, hM, hp, hK, q⟩
theorem draw_put {M : MS} {a : Addr} {n K : Int} {o : MO} {Q : QD} {E : QE} (hp : PoolM K o) (hK : K < KM) (h0 : 0 < n) (h1 : n ≤ 100) (q : ∀ r o', 0 ≤ r → r < n → PoolM (K + 1) o' → Q (.int r) (M.put a o')) : sp_L_draw [.cell a, .int n] (M.put a o) Q E :=
  ⟨a, n, K, o, rfl, h0, h1, MS.put_same, hp, hK, fun r o' r0 r1 p => by rw [MS.put_put]; exact q r o' r0 r1 p⟩
theorem PoolM.le {K K' : Int} {o : MO} (h : PoolM K o) (hk : K ≤ K') : PoolM K' o := by
  obtain ⟨x, y, z, e, h1, h2, h3, h4, h5⟩ := h
  exact ⟨x, y, z, e, h1, h2, h3, h4, by omega⟩
theorem r_L_factor : Reads t_L_factor N_L_factor 1 sp_L_factor := by
  rintro ds M Q E hl ⟨a, K, o, rfl, hM, hp, hK, q⟩
  unfold t_L_factor
  simp only [dNeg, sRet, sSeq, sAsg, sDrop, sIf, sNext, sSetLc, sFor, sFldD, sAug, sPar, sSub, sRetN, dAndV, dOrV, dNotV, dAnd, dOr, dNot, dB, dTru, dIf, dOp, dCall, dCallF, dMeth, dProp, dFld, dMake, dMakeC, dCons, dNil, dStar, dTup, dLst, dNew, dVar, dFrz, dC, dSlice, dPart, dNoPart, dMt, dLc, dYes, iLst, iTupD, iRngD1, iRngD2, iEnumD, iZipD, rF, dTg, startD, wipeD, setMany, List.map, List.set, List.length_cons, List.length_nil, List.replicate, List.append, List.cons_append, List.nil_append, List.append_nil, List.getElem?_cons_zero, List.getElem?_cons_succ, Nat.reduceAdd, Nat.reduceSub, Nat.sub_self, Nat.zero_add, Option.some.injEq, exists_eq_left, exists_eq_left', exists_eq_right, List.cons.injEq, and_true, true_and, if_true, if_false, Bool.false_eq_true, Bool.not_true, Bool.not_false, D.bl.injEq, D.int.injEq, D.cell.injEq, reduceCtorEq, false_and, and_false, exists_false, or_false, false_or, exists_and_left, exists_and_right]
  refine draw_at hM hp (by omega) (by decide) (by decide) fun r1 o1 a1 b1 p1 => r_addI ?_
  refine draw_put p1 (by omega) (by decide) (by decide) fun r2 o2 a2 b2 p2 => r_addI ⟨by decide, ?_⟩
  refine draw_put p2 (by omega) (by decide) (by decide) fun r3 o3 a3 b3 p3 => ?_
  have h3 : ∃ r, ixF (M.put a o3) (.lst [.int 1, .int 1, .int (1 + r1), .int (1 + r2)]) (.int r3) = some (.int r) ∧ r.natAbs < 2 ^ 2000 := by
    rcases (show r3 = 0 ∨ r3 = 1 ∨ r3 = 2 ∨ r3 = 3 by omega) with rfl | rfl | rfl | rfl
    · exact ⟨_, rfl, nat_small (by decide) (by decide)⟩
    · exact ⟨_, rfl, nat_small (by decide) (by decide)⟩
    · exact ⟨_, rfl, nat_small (by omega) (by omega)⟩
    · exact ⟨_, rfl, nat_small (by omega) (by omega)⟩
  obtain ⟨v, h3, h4⟩ := h3
  refine ⟨_, h3, draw_put p3 (by omega) (by decide) (by decide) fun r4 o4 a4 b4 p4 => ?_⟩
  refine r_int (mulOk_of (nat_small (by decide) (by decide)) (nat_small a4 (by omega))) (r_int trivial (r_int (mulOk_of h4 ?_) (lessQ.of (q _ _ (p4.le (by omega))))))
  rcases (show r4 = 0 ∨ r4 = 1 by omega) with rfl | rfl
  · exact nat_small (by decide) (by decide)
  · exact (by decide +kernel)
theorem factor_put {M : MS} {a : Addr} {K : Int} {o : MO} {Q : QD} {E : QE} (hp : PoolM K o) (hK : K + 4 < KM) (q : ∀ r o', PoolM (K + 4) o' → Q (.int r) (M.put a o')) : sp_L_factor [.cell a] (M.put a o) Q E :=
  ⟨a, K, o, rfl, MS.put_same, hp, hK, fun r o' p => by rw [MS.put_put]; exact q r o' p⟩
/-- a list comprehension whose items are drawn -/
theorem lcP {α : Type} (enc : α → D) (P : α → Prop) {a : Addr} {c B : Int} {g : Tg} {te : DE} {keep : MS → Prop} {env : En} {M : MS} {Q : QD} (hk : ∀ M, keep M) (hc : 0 ≤ c) :
    ∀ (ds : List D) (acc : List α) (K : Int) (o : MO), PoolM K o → K + c * ds.length ≤ B →
      (∀ d ∈ ds, ∀ (K : Int) (o : MO) (R : QD), PoolM K o → K + c ≤ B → (∀ v o', P v → PoolM (K + c) o' → R (enc v) (M.put a o')) → dTg g d env (M.put a o) fun env' M1 => te env' M1 R E00) →
      (∀ (vs : List α) o', vs.length = ds.length → (∀ v ∈ vs, P v) → PoolM (K + c * ds.length) o' → Q (.lst ((acc ++ vs).map enc)) (M.put a o')) → lcTurns g dYes te keep env ds (acc.map enc) (M.put a o) Q
  | [], acc, K, o, hp, _, _, q => ⟨hk _, by
      have z := q [] o rfl (by simp) (hp.le (by simp))
      simpa using z⟩
  | d :: ds, acc, K, o, hp, hB, h, q => by
    have e1 : c * ((d :: ds).length : Int) = c + c * (ds.length : Int) := by
      rw [List.length_cons, Int.natCast_add, Int.mul_add]; simp [Int.add_comm]
    have e2 : 0 ≤ c * (ds.length : Int) := Int.mul_nonneg hc (by omega)
    refine ⟨hk _, ?_⟩
    have z := h d (List.mem_cons_self ..) K o (fun y M3 => lcTurns g dYes te keep env ds (acc.map enc ++ [y]) M3 Q) hp (by omega) (fun v o' pv pp => ?_)
    · exact z
    · have w := lcP enc P (a := a) (c := c) (B := B) (g := g) (te := te) (keep := keep) (env := env) (M := M) (Q := Q) hk hc ds (acc ++ [v]) (K + c) o' pp (by omega) (fun d hd => h d (List.mem_cons_of_mem _ hd)) (fun vs o2 hl hv p2 => by
        have z2 := q (v :: vs) o2 (by simp [hl]) (fun x hx => by
          rcases List.mem_cons.mp hx with rfl | hx
          · exact pv
          · exact hv x hx) (p2.le (by omega))
        simpa using z2)
      simpa using w
theorem r_L_pane : Reads t_L_pane N_L_pane 2 sp_L_pane := by
  rintro ds M Q E hl ⟨a, ls, K, o, rfl, hls, hls6, hM, hp, hK, q⟩
  unfold t_L_pane
  simp only [dNeg, sRet, sSeq, sAsg, sDrop, sIf, sNext, sSetLc, sFor, sFldD, sAug, sPar, sSub, sRetN, dAndV, dOrV, dNotV, dAnd, dOr, dNot, dB, dTru, dIf, dOp, dCall, dCallF, dMeth, dProp, dFld, dMake, dMakeC, dCons, dNil, dStar, dTup, dLst, dNew, dVar, dFrz, dC, dSlice, dPart, dNoPart, dMt, dLc, dYes, iLst, iTupD, iRngD1, iRngD2, iEnumD, iZipD, rF, dTg, startD, wipeD, setMany, List.map, List.set, List.length_cons, List.length_nil, List.replicate, List.append, List.cons_append, List.nil_append, List.append_nil, List.getElem?_cons_zero, List.getElem?_cons_succ, Nat.reduceAdd, Nat.reduceSub, Nat.sub_self, Nat.zero_add, Option.some.injEq, exists_eq_left, exists_eq_left', exists_eq_right, List.cons.injEq, and_true, true_and, if_true, if_false, Bool.false_eq_true, Bool.not_true, Bool.not_false, D.bl.injEq, D.int.injEq, D.cell.injEq, reduceCtorEq, false_and, and_false, exists_false, or_false, false_or, exists_and_left, exists_and_right]
  refine ⟨by decide, draw_at hM hp (by omega) (by decide) (by decide) fun r1 o1 a1 b1 p1 => ?_⟩
  have h3 : ∃ m : Nat, ixF (M.put a o1) (.lst [.int 0, .int 1, .int 1, .int 2, .int 2, .int 3]) (.int r1) = some (.int m) ∧ m ≤ 3 := by
    rcases (show r1 = 0 ∨ r1 = 1 ∨ r1 = 2 ∨ r1 = 3 ∨ r1 = 4 ∨ r1 = 5 by omega) with rfl | rfl | rfl | rfl | rfl | rfl
    · exact ⟨0, rfl, by decide⟩
    · exact ⟨1, rfl, by decide⟩
    · exact ⟨1, rfl, by decide⟩
    · exact ⟨2, rfl, by decide⟩
    · exact ⟨2, rfl, by decide⟩
    · exact ⟨3, rfl, by decide⟩
  obtain ⟨m, h3, h4⟩ := h3
  refine ⟨_, h3, _, rfl, by omega, by omega, by simp [upto]; omega, ?_⟩
  refine lcP dPr (fun p => p.2 ∈ ls) (c := 5) (B := K + 16) (fun _ => trivial) (by decide) (upto 0 m) [] _ o1 p1 (by rw [upto_len]; omega) (fun d hd K2 o2 R pp hB qq => ?_) (fun vs o2 hl hv pp => ?_)
  · simp only [dNeg, sRet, sSeq, sAsg, sDrop, sIf, sNext, sSetLc, sFor, sFldD, sAug, sPar, sSub, sRetN, dAndV, dOrV, dNotV, dAnd, dOr, dNot, dB, dTru, dIf, dOp, dCall, dCallF, dMeth, dProp, dFld, dMake, dMakeC, dCons, dNil, dStar, dTup, dLst, dNew, dVar, dFrz, dC, dSlice, dPart, dNoPart, dMt, dLc, dYes, iLst, iTupD, iRngD1, iRngD2, iEnumD, iZipD, rF, dTg, startD, wipeD, setMany, List.map, List.set, List.length_cons, List.length_nil, List.replicate, List.append, List.cons_append, List.nil_append, List.append_nil, List.getElem?_cons_zero, List.getElem?_cons_succ, Nat.reduceAdd, Nat.reduceSub, Nat.sub_self, Nat.zero_add, Option.some.injEq, exists_eq_left, exists_eq_left', exists_eq_right, List.cons.injEq, and_true, true_and, if_true, if_false, Bool.false_eq_true, Bool.not_true, Bool.not_false, D.bl.injEq, D.int.injEq, D.cell.injEq, reduceCtorEq, false_and, and_false, exists_false, or_false, false_or, exists_and_left, exists_and_right]
    have hl1 : 0 < ls.length := List.length_pos_iff.mpr hls
    refine factor_put pp (by omega) fun v o3 p3 => r_lenL rfl ?_
    rw [List.length_map]
    refine draw_put p3 (by omega) (by omega) (by omega) fun r4 o4 a4 b4 p4 => ?_
    have hr : r4.toNat < ls.length := by omega
    refine ⟨.str (ls[r4.toNat]), ?_, by decide, ?_⟩
    · show atI (ls.map D.str) r4 = _
      unfold atI ixN
      rw [if_pos a4, List.length_map, if_pos b4]
      show (ls.map D.str)[r4.toNat]? = _
      rw [List.getElem?_map, List.getElem?_eq_getElem hr]; rfl
    · exact qq (v, ls[r4.toNat]) o4 (List.getElem_mem hr) (p4.le (by omega))
  · rw [upto_len] at hl pp
    exact lessQ.of (q vs o2 (by omega) hv (pp.le (by omega)))
theorem pane_put {M : MS} {a : Addr} {ls : List Str} {K : Int} {o : MO} {Q : QD} {E : QE} (hls : ls ≠ []) (h6 : ls.length ≤ 6) (hp : PoolM K o) (hK : K + 20 < KM) (q : ∀ (f : Pane) o', f.length ≤ 3 → (∀ p ∈ f, p.2 ∈ ls) → PoolM (K + 20) o' → Q (dPane f) (M.put a o')) : sp_L_pane [.cell a, lsD ls] (M.put a o) Q E :=
  ⟨a, ls, K, o, rfl, hls, h6, MS.put_same, hp, hK, fun f o' f1 f2 p => by rw [MS.put_put]; exact q f o' f1 f2 p⟩
end HD
namespace HD
open PySem PySem.Spec L2
theorem r_L_table_made : Reads t_L_table_made N_L_table_made 1 sp_L_table_made := by
  rintro ds M Q E hl ⟨b, n, sh, rfl, ok, hs, q⟩
  unfold t_L_table_made
  simp only [dNeg, sRet, sSeq, sAsg, sDrop, sIf, sNext, sSetLc, sFor, sFldD, sAug, sPar, sSub, sRetN, dAndV, dOrV, dNotV, dAnd, dOr, dNot, dB, dTru, dIf, dOp, dCall, dCallF, dMeth, dProp, dFld, dMake, dMakeC, dCons, dNil, dStar, dTup, dLst, dNew, dVar, dFrz, dC, dSlice, dPart, dNoPart, dMt, dLc, dYes, iLst, iTupD, iRngD1, iRngD2, iEnumD, iZipD, rF, dTg, startD, wipeD, setMany, List.map, List.set, List.length_cons, List.length_nil, List.replicate, List.append, List.cons_append, List.nil_append, List.append_nil, List.getElem?_cons_zero, List.getElem?_cons_succ, Nat.reduceAdd, Nat.reduceSub, Nat.sub_self, Nat.zero_add, Option.some.injEq, exists_eq_left, exists_eq_left', exists_eq_right, List.cons.injEq, and_true, true_and, if_true, if_false, Bool.false_eq_true, Bool.not_true, Bool.not_false, D.bl.injEq, D.int.injEq, D.cell.injEq, reduceCtorEq, false_and, and_false, exists_false, or_false, false_or, exists_and_left, exists_and_right]
  refine ⟨_, rfl, b, n, rfl, ok, _, rfl, ?_⟩
  refine ⟨_, _, rfl, rfl, fun t ht => ⟨t, b, n, sh, rfl, hs, ok.len, MS.put_same, rfl, _, by rw [MS.put_put]; exact MS.put_same, ?_⟩⟩
  rw [MS.put_put, MS.del_put ht]
  exact lessQ.of q
theorem r_L_parts : Reads t_L_parts N_L_parts 2 sp_L_parts := by
  rintro ds M Q E hl ⟨a, b, n, K, o, rfl, hn, hn3, hM, hp, hK, q⟩
  unfold t_L_parts
  simp only [dNeg, sRet, sSeq, sAsg, sDrop, sIf, sNext, sSetLc, sFor, sFldD, sAug, sPar, sSub, sRetN, dAndV, dOrV, dNotV, dAnd, dOr, dNot, dB, dTru, dIf, dOp, dCall, dCallF, dMeth, dProp, dFld, dMake, dMakeC, dCons, dNil, dStar, dTup, dLst, dNew, dVar, dFrz, dC, dSlice, dPart, dNoPart, dMt, dLc, dYes, iLst, iTupD, iRngD1, iRngD2, iEnumD, iZipD, rF, dTg, startD, wipeD, setMany, List.map, List.set, List.length_cons, List.length_nil, List.replicate, List.append, List.cons_append, List.nil_append, List.append_nil, List.getElem?_cons_zero, List.getElem?_cons_succ, Nat.reduceAdd, Nat.reduceSub, Nat.sub_self, Nat.zero_add, Option.some.injEq, exists_eq_left, exists_eq_left', exists_eq_right, List.cons.injEq, and_true, true_and, if_true, if_false, Bool.false_eq_true, Bool.not_true, Bool.not_false, D.bl.injEq, D.int.injEq, D.cell.injEq, reduceCtorEq, false_and, and_false, exists_false, or_false, false_or, exists_and_left, exists_and_right]
  have hn0 : 0 < n.length := List.length_pos_iff.mpr hn
  refine ⟨_, rfl, r_lenL rfl ?_⟩
  rw [List.length_map]
  refine draw_at hM hp (by omega) (by omega) (by omega) fun r1 o1 a1 b1 p1 => ?_
  refine draw_put p1 (by omega) (by decide) (by decide) fun r2 o2 a2 b2 p2 => r_eqI ⟨_, rfl, ?_⟩
  by_cases h2 : r2 = 0
  · rw [decide_eq_true h2, if_pos rfl]
    refine ⟨_, rfl, by omega, by omega, by rw [upto_len]; omega, ?_⟩
    refine lcP D.int (fun _ => True) (c := 0) (B := K + 10) (fun _ => trivial) (by decide) (upto 0 n.length) [] _ o2 p2 (by omega) (fun d hd K2 o3 R pp hB qq => ?_) (fun vs o3 hl hv pp => ?_)
    · simp only [dNeg, sRet, sSeq, sAsg, sDrop, sIf, sNext, sSetLc, sFor, sFldD, sAug, sPar, sSub, sRetN, dAndV, dOrV, dNotV, dAnd, dOr, dNot, dB, dTru, dIf, dOp, dCall, dCallF, dMeth, dProp, dFld, dMake, dMakeC, dCons, dNil, dStar, dTup, dLst, dNew, dVar, dFrz, dC, dSlice, dPart, dNoPart, dMt, dLc, dYes, iLst, iTupD, iRngD1, iRngD2, iEnumD, iZipD, rF, dTg, startD, wipeD, setMany, List.map, List.set, List.length_cons, List.length_nil, List.replicate, List.append, List.cons_append, List.nil_append, List.append_nil, List.getElem?_cons_zero, List.getElem?_cons_succ, Nat.reduceAdd, Nat.reduceSub, Nat.sub_self, Nat.zero_add, Option.some.injEq, exists_eq_left, exists_eq_left', exists_eq_right, List.cons.injEq, and_true, true_and, if_true, if_false, Bool.false_eq_true, Bool.not_true, Bool.not_false, D.bl.injEq, D.int.injEq, D.cell.injEq, reduceCtorEq, false_and, and_false, exists_false, or_false, false_or, exists_and_left, exists_and_right]
      obtain ⟨j, hj, rfl⟩ := List.mem_map.mp hd
      refine r_eqI (.inr ⟨_, rfl, ?_⟩)
      exact qq _ o3 trivial (pp.le (by omega))
    · rw [upto_len] at hl pp
      exact lessQ.of (q vs o3 hl (pp.le (by omega)))
  · rw [decide_eq_false h2, if_neg Bool.false_ne_true]
    refine ⟨_, rfl, by omega, by omega, by rw [upto_len]; omega, ?_⟩
    refine lcP D.int (fun _ => True) (c := 2) (B := K + 10) (fun _ => trivial) (by decide) (upto 0 n.length) [] _ o2 p2 (by rw [upto_len]; omega) (fun d hd K2 o3 R pp hB qq => ?_) (fun vs o3 hl hv pp => ?_)
    · simp only [dNeg, sRet, sSeq, sAsg, sDrop, sIf, sNext, sSetLc, sFor, sFldD, sAug, sPar, sSub, sRetN, dAndV, dOrV, dNotV, dAnd, dOr, dNot, dB, dTru, dIf, dOp, dCall, dCallF, dMeth, dProp, dFld, dMake, dMakeC, dCons, dNil, dStar, dTup, dLst, dNew, dVar, dFrz, dC, dSlice, dPart, dNoPart, dMt, dLc, dYes, iLst, iTupD, iRngD1, iRngD2, iEnumD, iZipD, rF, dTg, startD, wipeD, setMany, List.map, List.set, List.length_cons, List.length_nil, List.replicate, List.append, List.cons_append, List.nil_append, List.append_nil, List.getElem?_cons_zero, List.getElem?_cons_succ, Nat.reduceAdd, Nat.reduceSub, Nat.sub_self, Nat.zero_add, Option.some.injEq, exists_eq_left, exists_eq_left', exists_eq_right, List.cons.injEq, and_true, true_and, if_true, if_false, Bool.false_eq_true, Bool.not_true, Bool.not_false, D.bl.injEq, D.int.injEq, D.cell.injEq, reduceCtorEq, false_and, and_false, exists_false, or_false, false_or, exists_and_left, exists_and_right]
      refine draw_put pp (by omega) (by decide) (by decide) fun r4 o4 a4 b4 p4 => r_int trivial ⟨by decide, ?_⟩
      refine draw_put p4 (by omega) (by decide) (by decide) fun r5 o5 a5 b5 p5 => ?_
      rcases (show r5 = 0 ∨ r5 = 1 ∨ r5 = 2 by omega) with rfl | rfl | rfl
      · exact ⟨_, rfl, qq _ _ trivial (p5.le (by omega))⟩
      · exact ⟨_, rfl, qq _ _ trivial (p5.le (by omega))⟩
      · exact ⟨_, rfl, qq _ _ trivial (p5.le (by omega))⟩
    · rw [upto_len] at hl pp
      exact lessQ.of (q vs o3 hl (pp.le (by omega)))
theorem r_L_made : Reads t_L_made N_L_made 1 sp_L_made := by
  rintro ds M Q E hl ⟨b, n, rfl, ok, q⟩
  unfold t_L_made
  simp only [dNeg, sRet, sSeq, sAsg, sDrop, sIf, sNext, sSetLc, sFor, sFldD, sAug, sPar, sSub, sRetN, dAndV, dOrV, dNotV, dAnd, dOr, dNot, dB, dTru, dIf, dOp, dCall, dCallF, dMeth, dProp, dFld, dMake, dMakeC, dCons, dNil, dStar, dTup, dLst, dNew, dVar, dFrz, dC, dSlice, dPart, dNoPart, dMt, dLc, dYes, iLst, iTupD, iRngD1, iRngD2, iEnumD, iZipD, rF, dTg, startD, wipeD, setMany, List.map, List.set, List.length_cons, List.length_nil, List.replicate, List.append, List.cons_append, List.nil_append, List.append_nil, List.getElem?_cons_zero, List.getElem?_cons_succ, Nat.reduceAdd, Nat.reduceSub, Nat.sub_self, Nat.zero_add, Option.some.injEq, exists_eq_left, exists_eq_left', exists_eq_right, List.cons.injEq, and_true, true_and, if_true, if_false, Bool.false_eq_true, Bool.not_true, Bool.not_false, D.bl.injEq, D.int.injEq, D.cell.injEq, reduceCtorEq, false_and, and_false, exists_false, or_false, false_or, exists_and_left, exists_and_right]
  refine ⟨by decide, fun a ha => ⟨_, rfl, _, rfl, ?_⟩⟩
  have go : ∀ (n2 n1 : Nm) (e2 e3 e4 e5 e6 : Option D), n1 ++ n2 = n → forTurns (.tp [2, 3, 4]) b_L_made_0
      { nx := sRet (dMake "Book" 3 sp_Book__init (dCons (dOp (rF ixF) (dVar 0) (dC (.int 0))) (dCons (dFrz 1) dNil))) { nx := fun x M' => lessQ Q .non M', rt := lessQ Q, ex := fun x => lessE E }, rt := lessQ Q, ex := fun x => lessE E }
      (keepOf (dNm n) (n.map dEnt)) (n2.map dEnt) [some (kindD b n), some (.cell a), e2, e3, e4, e5, e6] (M.put a (.lst (n1.map dEnt))) := by
    intro n2
    induction n2 with
    | nil =>
      intro n1 e2 e3 e4 e5 e6 hn
      rw [List.append_nil] at hn
      subst hn
      simp only [List.map_nil, forTurns]
      refine ⟨trivial, ?_⟩
      simp only [dNeg, sRet, sSeq, sAsg, sDrop, sIf, sNext, sSetLc, sFor, sFldD, sAug, sPar, sSub, sRetN, dAndV, dOrV, dNotV, dAnd, dOr, dNot, dB, dTru, dIf, dOp, dCall, dCallF, dMeth, dProp, dFld, dMake, dMakeC, dCons, dNil, dStar, dTup, dLst, dNew, dVar, dFrz, dC, dSlice, dPart, dNoPart, dMt, dLc, dYes, iLst, iTupD, iRngD1, iRngD2, iEnumD, iZipD, rF, dTg, startD, wipeD, setMany, List.map, List.set, List.length_cons, List.length_nil, List.replicate, List.append, List.cons_append, List.nil_append, List.append_nil, List.getElem?_cons_zero, List.getElem?_cons_succ, Nat.reduceAdd, Nat.reduceSub, Nat.sub_self, Nat.zero_add, Option.some.injEq, exists_eq_left, exists_eq_left', exists_eq_right, List.cons.injEq, and_true, true_and, if_true, if_false, Bool.false_eq_true, Bool.not_true, Bool.not_false, D.bl.injEq, D.int.injEq, D.cell.injEq, reduceCtorEq, false_and, and_false, exists_false, or_false, false_or, exists_and_left, exists_and_right]
      refine ⟨_, rfl, _, MS.put_same, ?_⟩
      rw [MS.del_put ha]
      intro c hc
      refine ⟨c, b, n1, rfl, ok, MS.put_same, rfl, _, by rw [MS.put_put]; exact MS.put_same, ?_⟩
      rw [MS.put_put, MS.del_put hc]
      exact lessQ.of q
    | cons x xs ih =>
      intro n1 e2 e3 e4 e5 e6 hn
      have nx := fun e2 e3 e4 e5 e6 => ih (n1 ++ [x]) e2 e3 e4 e5 e6 (by rw [List.append_assoc]; exact hn)
      have hlen : n1.length < 100000 := by
        have := ok.len
        rw [← hn, List.length_append, List.length_cons] at this
        omega
      simp only [List.map_cons, forTurns]
      refine ⟨trivial, ?_⟩
      generalize forTurns (.tp [2, 3, 4]) b_L_made_0 _ (keepOf (dNm n) (n.map dEnt)) (xs.map dEnt) = Kn at nx ⊢
      simp only [dNeg, sRet, sSeq, sAsg, sDrop, sIf, sNext, sSetLc, sFor, sFldD, sAug, sPar, sSub, sRetN, dAndV, dOrV, dNotV, dAnd, dOr, dNot, dB, dTru, dIf, dOp, dCall, dCallF, dMeth, dProp, dFld, dMake, dMakeC, dCons, dNil, dStar, dTup, dLst, dNew, dVar, dFrz, dC, dSlice, dPart, dNoPart, dMt, dLc, dYes, iLst, iTupD, iRngD1, iRngD2, iEnumD, iZipD, rF, dTg, startD, wipeD, setMany, List.map, List.set, List.length_cons, List.length_nil, List.replicate, List.append, List.cons_append, List.nil_append, List.append_nil, List.getElem?_cons_zero, List.getElem?_cons_succ, Nat.reduceAdd, Nat.reduceSub, Nat.sub_self, Nat.zero_add, Option.some.injEq, exists_eq_left, exists_eq_left', exists_eq_right, List.cons.injEq, and_true, true_and, if_true, if_false, Bool.false_eq_true, Bool.not_true, Bool.not_false, D.bl.injEq, D.int.injEq, D.cell.injEq, reduceCtorEq, false_and, and_false, exists_false, or_false, false_or, exists_and_left, exists_and_right]
      refine ⟨_, rfl, rfl, ?_⟩
      unfold b_L_made_0
      simp only [dNeg, sRet, sSeq, sAsg, sDrop, sIf, sNext, sSetLc, sFor, sFldD, sAug, sPar, sSub, sRetN, dAndV, dOrV, dNotV, dAnd, dOr, dNot, dB, dTru, dIf, dOp, dCall, dCallF, dMeth, dProp, dFld, dMake, dMakeC, dCons, dNil, dStar, dTup, dLst, dNew, dVar, dFrz, dC, dSlice, dPart, dNoPart, dMt, dLc, dYes, iLst, iTupD, iRngD1, iRngD2, iEnumD, iZipD, rF, dTg, startD, wipeD, setMany, List.map, List.set, List.length_cons, List.length_nil, List.replicate, List.append, List.cons_append, List.nil_append, List.append_nil, List.getElem?_cons_zero, List.getElem?_cons_succ, Nat.reduceAdd, Nat.reduceSub, Nat.sub_self, Nat.zero_add, Option.some.injEq, exists_eq_left, exists_eq_left', exists_eq_right, List.cons.injEq, and_true, true_and, if_true, if_false, Bool.false_eq_true, Bool.not_true, Bool.not_false, D.bl.injEq, D.int.injEq, D.cell.injEq, reduceCtorEq, false_and, and_false, exists_false, or_false, false_or, exists_and_left, exists_and_right]
      have hx : x ∈ n := by rw [← hn]; simp
      obtain ⟨sq1, sq2⟩ := ok.sq x hx
      have hb3 : b ≤ 3 := by rcases ok.base with h | h <;> omega
      refine ⟨⟨_, by show lstOf ((M.put a _) a) = _; rw [MS.put_same]; rfl⟩, _, rfl, by rw [List.length_map]; omega, ?_⟩
      refine lcM dRow dRow trivial x.2.2 (fun row hr K k => ?_) ?_
      · simp only [dNeg, sRet, sSeq, sAsg, sDrop, sIf, sNext, sSetLc, sFor, sFldD, sAug, sPar, sSub, sRetN, dAndV, dOrV, dNotV, dAnd, dOr, dNot, dB, dTru, dIf, dOp, dCall, dCallF, dMeth, dProp, dFld, dMake, dMakeC, dCons, dNil, dStar, dTup, dLst, dNew, dVar, dFrz, dC, dSlice, dPart, dNoPart, dMt, dLc, dYes, iLst, iTupD, iRngD1, iRngD2, iEnumD, iZipD, rF, dTg, startD, wipeD, setMany, List.map, List.set, List.length_cons, List.length_nil, List.replicate, List.append, List.cons_append, List.nil_append, List.append_nil, List.getElem?_cons_zero, List.getElem?_cons_succ, Nat.reduceAdd, Nat.reduceSub, Nat.sub_self, Nat.zero_add, Option.some.injEq, exists_eq_left, exists_eq_left', exists_eq_right, List.cons.injEq, and_true, true_and, if_true, if_false, Bool.false_eq_true, Bool.not_true, Bool.not_false, D.bl.injEq, D.int.injEq, D.cell.injEq, reduceCtorEq, false_and, and_false, exists_false, or_false, false_or, exists_and_left, exists_and_right]
        have := sq2 row hr
        refine ⟨_, rfl, by rw [List.length_map]; omega, ?_⟩
        refine lcM dPane dPane trivial row (fun f hf K2 k2 => ?_) k
        simp only [dNeg, sRet, sSeq, sAsg, sDrop, sIf, sNext, sSetLc, sFor, sFldD, sAug, sPar, sSub, sRetN, dAndV, dOrV, dNotV, dAnd, dOr, dNot, dB, dTru, dIf, dOp, dCall, dCallF, dMeth, dProp, dFld, dMake, dMakeC, dCons, dNil, dStar, dTup, dLst, dNew, dVar, dFrz, dC, dSlice, dPart, dNoPart, dMt, dLc, dYes, iLst, iTupD, iRngD1, iRngD2, iEnumD, iZipD, rF, dTg, startD, wipeD, setMany, List.map, List.set, List.length_cons, List.length_nil, List.replicate, List.append, List.cons_append, List.nil_append, List.append_nil, List.getElem?_cons_zero, List.getElem?_cons_succ, Nat.reduceAdd, Nat.reduceSub, Nat.sub_self, Nat.zero_add, Option.some.injEq, exists_eq_left, exists_eq_left', exists_eq_right, List.cons.injEq, and_true, true_and, if_true, if_false, Bool.false_eq_true, Bool.not_true, Bool.not_false, D.bl.injEq, D.int.injEq, D.cell.injEq, reduceCtorEq, false_and, and_false, exists_false, or_false, false_or, exists_and_left, exists_and_right]
        exact ⟨_, _, rfl, rfl, k2⟩
      · refine ⟨by decide, r_app MS.put_same (by rw [List.length_map]; exact hlen) ?_⟩
        rw [MS.put_put]
        have z := nx (some (.str x.1)) (some (.int x.2.1)) (some (dBlk x.2.2)) e5 e6
        rw [List.map_append] at z
        exact z
  exact go n [] none none none none none rfl
theorem atI_in {ds : List D} {i : Int} (h0 : 0 ≤ i) (h1 : i < ds.length) : ∃ d ∈ ds, atI ds i = some d := by
  have hr : i.toNat < ds.length := by omega
  refine ⟨ds[i.toNat], List.getElem_mem hr, ?_⟩
  unfold atI ixN
  rw [if_pos h0, if_pos h1]
  exact List.getElem?_eq_getElem hr
/-- the letters of a drawn book -/
def six : List Str := ["t", "d", "u", "f", "q", "w"]
end HD
namespace HD
open PySem PySem.Spec L2
def RowOk (b : Int) (ls : List Str) (l : List Pane) : Prop := (l.length : Int) = b ∧ ∀ f ∈ l, f.length ≤ 3 ∧ ∀ p ∈ f, p.2 ∈ ls
theorem kind_rows {a p : Addr} {b B : Int} {ls : List Str} {D' : EndD} {M : MS} {e4 e5 e6 : Option D} (hpa : p ≠ a) (hb : b = 2 ∨ b = 3) (hls : ls ≠ []) (h6 : ls.length ≤ 6) (hB : B + 100 < KM) :
    ∀ (ds : List D) (rows : List (List Pane)) (K : Int) (o : MO) (e8 e9 : Option D), PoolM K o → K + 60 * ds.length ≤ B → (∀ l ∈ rows, RowOk b ls l) → rows.length + ds.length ≤ 3 →
      (∀ (rs : List (List Pane)) o' e8 e9, (∀ l ∈ rs, RowOk b ls l) → rs.length = rows.length + ds.length → PoolM (K + 60 * ds.length) o' → D'.nx [some (.cell a), some (.int 3), some (.int b), some (lsD ls), e4, e5, e6, some (.cell p), e8, e9] ((M.put p (.lst (rs.map dRow))).put a o')) →
      forTurns (.nm 8) b_L_kind_0 D' always ds [some (.cell a), some (.int 3), some (.int b), some (lsD ls), e4, e5, e6, some (.cell p), e8, e9] ((M.put p (.lst (rows.map dRow))).put a o) := by
  intro ds
  induction ds with
  | nil =>
    intro rows K o e8 e9 hp hK hr hl q
    simp only [forTurns]
    exact ⟨trivial, q rows o e8 e9 hr rfl (hp.le (by simp))⟩
  | cons d ds ih =>
    intro rows K o e8 e9 hp hK hr hl q
    have hpp : ∀ o, ((M.put p (.lst (rows.map dRow))).put a o) p = some (.lst (rows.map dRow)) := fun o => by rw [MS.put_ne hpa, MS.put_same]
    simp only [List.length_cons] at hK hl q
    have nx := fun row o' e8 e9 (h1 : RowOk b ls row) (pp : PoolM (K + 60) o') => ih (rows ++ [row]) (K + 60) o' e8 e9 pp (by omega) (fun l hl => by
      rcases List.mem_append.mp hl with h | h
      · exact hr l h
      · rw [List.mem_singleton.mp h]; exact h1) (by rw [List.length_append]; simp only [List.length_cons, List.length_nil]; omega) (fun rs o2 e8 e9 h2 h3 p2 => q rs o2 e8 e9 h2 (by rw [h3, List.length_append]; simp only [List.length_cons, List.length_nil]; omega) (p2.le (by omega)))
    simp only [forTurns]
    refine ⟨trivial, ?_⟩
    generalize forTurns (.nm 8) b_L_kind_0 D' always ds = Kn at nx ⊢
    simp only [dNeg, sRet, sSeq, sAsg, sDrop, sIf, sNext, sSetLc, sFor, sFldD, sAug, sPar, sSub, sRetN, dAndV, dOrV, dNotV, dAnd, dOr, dNot, dB, dTru, dIf, dOp, dCall, dCallF, dMeth, dProp, dFld, dMake, dMakeC, dCons, dNil, dStar, dTup, dLst, dNew, dVar, dFrz, dC, dSlice, dPart, dNoPart, dMt, dLc, dYes, iLst, iTupD, iRngD1, iRngD2, iEnumD, iZipD, rF, dTg, startD, wipeD, setMany, List.map, List.set, List.length_cons, List.length_nil, List.replicate, List.append, List.cons_append, List.nil_append, List.append_nil, List.getElem?_cons_zero, List.getElem?_cons_succ, Nat.reduceAdd, Nat.reduceSub, Nat.sub_self, Nat.zero_add, Option.some.injEq, exists_eq_left, exists_eq_left', exists_eq_right, List.cons.injEq, and_true, true_and, if_true, if_false, Bool.false_eq_true, Bool.not_true, Bool.not_false, D.bl.injEq, D.int.injEq, D.cell.injEq, reduceCtorEq, false_and, and_false, exists_false, or_false, false_or, exists_and_left, exists_and_right]
    unfold b_L_kind_0
    simp only [dNeg, sRet, sSeq, sAsg, sDrop, sIf, sNext, sSetLc, sFor, sFldD, sAug, sPar, sSub, sRetN, dAndV, dOrV, dNotV, dAnd, dOr, dNot, dB, dTru, dIf, dOp, dCall, dCallF, dMeth, dProp, dFld, dMake, dMakeC, dCons, dNil, dStar, dTup, dLst, dNew, dVar, dFrz, dC, dSlice, dPart, dNoPart, dMt, dLc, dYes, iLst, iTupD, iRngD1, iRngD2, iEnumD, iZipD, rF, dTg, startD, wipeD, setMany, List.map, List.set, List.length_cons, List.length_nil, List.replicate, List.append, List.cons_append, List.nil_append, List.append_nil, List.getElem?_cons_zero, List.getElem?_cons_succ, Nat.reduceAdd, Nat.reduceSub, Nat.sub_self, Nat.zero_add, Option.some.injEq, exists_eq_left, exists_eq_left', exists_eq_right, List.cons.injEq, and_true, true_and, if_true, if_false, Bool.false_eq_true, Bool.not_true, Bool.not_false, D.bl.injEq, D.int.injEq, D.cell.injEq, reduceCtorEq, false_and, and_false, exists_false, or_false, false_or, exists_and_left, exists_and_right]
    have hb3 : b ≤ 3 ∧ 0 ≤ b := by omega
    refine ⟨⟨_, by show lstOf (((M.put p _).put a o) p) = _; rw [hpp]; rfl⟩, by omega, by omega, by rw [upto_len]; omega, ?_⟩
    refine lcP dPane (fun f => f.length ≤ 3 ∧ ∀ p ∈ f, p.2 ∈ ls) (c := 20) (B := K + 60) (fun _ => trivial) (by decide) (upto 0 b.toNat) [] _ o hp (by rw [upto_len]; omega) (fun d hd K2 o3 R pp hB qq => ?_) (fun vs o3 hl hv pp => ?_)
    · simp only [dNeg, sRet, sSeq, sAsg, sDrop, sIf, sNext, sSetLc, sFor, sFldD, sAug, sPar, sSub, sRetN, dAndV, dOrV, dNotV, dAnd, dOr, dNot, dB, dTru, dIf, dOp, dCall, dCallF, dMeth, dProp, dFld, dMake, dMakeC, dCons, dNil, dStar, dTup, dLst, dNew, dVar, dFrz, dC, dSlice, dPart, dNoPart, dMt, dLc, dYes, iLst, iTupD, iRngD1, iRngD2, iEnumD, iZipD, rF, dTg, startD, wipeD, setMany, List.map, List.set, List.length_cons, List.length_nil, List.replicate, List.append, List.cons_append, List.nil_append, List.append_nil, List.getElem?_cons_zero, List.getElem?_cons_succ, Nat.reduceAdd, Nat.reduceSub, Nat.sub_self, Nat.zero_add, Option.some.injEq, exists_eq_left, exists_eq_left', exists_eq_right, List.cons.injEq, and_true, true_and, if_true, if_false, Bool.false_eq_true, Bool.not_true, Bool.not_false, D.bl.injEq, D.int.injEq, D.cell.injEq, reduceCtorEq, false_and, and_false, exists_false, or_false, false_or, exists_and_left, exists_and_right]
      exact pane_put hls h6 pp (by omega) fun f o4 f1 f2 p4 => qq f o4 ⟨f1, f2⟩ p4
    · rw [upto_len] at hl pp
      refine r_app (hpp o3) (by rw [List.length_map]; omega) ?_
      rw [MS.put_comm (Ne.symm hpa), MS.put_put]
      have z := nx vs o3 (some d) e9 ⟨by omega, hv⟩ (pp.le (by omega))
      rw [List.map_append] at z
      exact z
def LinesOk (b : Int) (ls : List Str) (n : Nm) : Prop := ∀ x ∈ n, (x.2.2.length : Int) = b ∧ ∀ l ∈ x.2.2, RowOk b ls l
theorem kind_lines {a c : Addr} {b B : Int} {ls : List Str} {D' : EndD} {M : MS} (hca : c ≠ a) (hb : b = 2 ∨ b = 3) (hls : ls ≠ []) (h3 : ls.length ≤ 3) (hB : B + 100 < KM) :
    ∀ (l2 : List Str) (n1 : Nm) (K : Int) (o : MO) (e5 e6 e7 e8 e9 : Option D), PoolM K o → K + 200 * l2.length ≤ B → LinesOk b ls n1 → n1.length + l2.length ≤ 3 →
      (∀ (n : Nm) o' e5 e6 e7 e8 e9, LinesOk b ls n → (n.map (·.1)).Perm (n1.map (·.1) ++ l2) → PoolM (K + 200 * l2.length) o' → D'.nx [some (.cell a), some (.int 3), some (.int b), some (lsD ls), some (.cell c), e5, e6, e7, e8, e9] ((M.put c (.lst (n.map dEnt))).put a o')) →
      forTurns (.nm 5) b_L_kind_1 D' (keepOf (lsD ls) (ls.map .str)) (l2.map D.str) [some (.cell a), some (.int 3), some (.int b), some (lsD ls), some (.cell c), e5, e6, e7, e8, e9] ((M.put c (.lst (n1.map dEnt))).put a o) := by
  intro l2
  induction l2 with
  | nil =>
    intro n1 K o e5 e6 e7 e8 e9 hp hK hn hl q
    simp only [List.map_nil, forTurns]
    exact ⟨trivial, q n1 o e5 e6 e7 e8 e9 hn (by simp) (hp.le (by simp))⟩
  | cons x l2 ih =>
    intro n1 K o e5 e6 e7 e8 e9 hp hK hn hl q
    simp only [List.length_cons] at hK hl q
    have nx := fun n o' e5 e6 e7 e8 e9 (h1 : LinesOk b ls n) (h2 : (n.map (·.1)).Perm (x :: n1.map (·.1))) (pp : PoolM (K + 200) o') => ih n (K + 200) o' e5 e6 e7 e8 e9 pp (by omega) h1 (by
      have := h2.length_eq
      simp only [List.length_map, List.length_cons] at this
      omega) (fun n' o2 e5 e6 e7 e8 e9 k1 k2 p2 => q n' o2 e5 e6 e7 e8 e9 k1 (k2.trans (by
        refine (h2.append_right l2).trans ?_
        exact List.perm_middle.symm)) (p2.le (by omega)))
    simp only [List.map_cons, forTurns]
    refine ⟨trivial, ?_⟩
    generalize forTurns (.nm 5) b_L_kind_1 D' _ (l2.map D.str) = Kn at nx ⊢
    simp only [dNeg, sRet, sSeq, sAsg, sDrop, sIf, sNext, sSetLc, sFor, sFldD, sAug, sPar, sSub, sRetN, dAndV, dOrV, dNotV, dAnd, dOr, dNot, dB, dTru, dIf, dOp, dCall, dCallF, dMeth, dProp, dFld, dMake, dMakeC, dCons, dNil, dStar, dTup, dLst, dNew, dVar, dFrz, dC, dSlice, dPart, dNoPart, dMt, dLc, dYes, iLst, iTupD, iRngD1, iRngD2, iEnumD, iZipD, rF, dTg, startD, wipeD, setMany, List.map, List.set, List.length_cons, List.length_nil, List.replicate, List.append, List.cons_append, List.nil_append, List.append_nil, List.getElem?_cons_zero, List.getElem?_cons_succ, Nat.reduceAdd, Nat.reduceSub, Nat.sub_self, Nat.zero_add, Option.some.injEq, exists_eq_left, exists_eq_left', exists_eq_right, List.cons.injEq, and_true, true_and, if_true, if_false, Bool.false_eq_true, Bool.not_true, Bool.not_false, D.bl.injEq, D.int.injEq, D.cell.injEq, reduceCtorEq, false_and, and_false, exists_false, or_false, false_or, exists_and_left, exists_and_right]
    unfold b_L_kind_1
    simp only [dNeg, sRet, sSeq, sAsg, sDrop, sIf, sNext, sSetLc, sFor, sFldD, sAug, sPar, sSub, sRetN, dAndV, dOrV, dNotV, dAnd, dOr, dNot, dB, dTru, dIf, dOp, dCall, dCallF, dMeth, dProp, dFld, dMake, dMakeC, dCons, dNil, dStar, dTup, dLst, dNew, dVar, dFrz, dC, dSlice, dPart, dNoPart, dMt, dLc, dYes, iLst, iTupD, iRngD1, iRngD2, iEnumD, iZipD, rF, dTg, startD, wipeD, setMany, List.map, List.set, List.length_cons, List.length_nil, List.replicate, List.append, List.cons_append, List.nil_append, List.append_nil, List.getElem?_cons_zero, List.getElem?_cons_succ, Nat.reduceAdd, Nat.reduceSub, Nat.sub_self, Nat.zero_add, Option.some.injEq, exists_eq_left, exists_eq_left', exists_eq_right, List.cons.injEq, and_true, true_and, if_true, if_false, Bool.false_eq_true, Bool.not_true, Bool.not_false, D.bl.injEq, D.int.injEq, D.cell.injEq, reduceCtorEq, false_and, and_false, exists_false, or_false, false_or, exists_and_left, exists_and_right]
    refine draw_put hp (by omega) (by decide) (by decide) fun r1 o1 a1 b1 p1 => r_int trivial ⟨by decide, draw_put p1 (by omega) (by decide) (by decide) fun r2 o2 a2 b2 p2 => ?_⟩
    have h3' : ∃ v : Int, ixF ((M.put c (.lst (n1.map dEnt))).put a o2) (.lst [.int 0, .int 1, .int 1, .int (r1 - 9)]) (.int r2) = some (.int v) := by
      rcases (show r2 = 0 ∨ r2 = 1 ∨ r2 = 2 ∨ r2 = 3 by omega) with rfl | rfl | rfl | rfl
      · exact ⟨_, rfl⟩
      · exact ⟨_, rfl⟩
      · exact ⟨_, rfl⟩
      · exact ⟨_, rfl⟩
    obtain ⟨v, h3'⟩ := h3'
    refine ⟨_, h3', by decide, fun p hp => ⟨by omega, by omega, ?_⟩⟩
    have hpa : p ≠ a := fun e => by subst e; rw [MS.put_same] at hp; cases hp
    have hpc : p ≠ c := fun e => by subst e; rw [MS.put_ne hca, MS.put_same] at hp; cases hp
    have hp0 : (M.put c (.lst (n1.map dEnt))) p = none := by rw [MS.put_ne hpa] at hp; exact hp
    rw [MS.put_comm (Ne.symm hpa)]
    refine kind_rows (M := M.put c (.lst (n1.map dEnt))) (B := K + 190) hpa hb hls (by omega) (by omega) (upto 0 b.toNat) [] _ o2 _ _ p2 (by rw [upto_len]; omega) (by simp) (by rw [upto_len]; simp; omega) (fun rs o3 e8 e9 k1 k2 p3 => ?_)
    rw [upto_len] at k2 p3
    simp only [dNeg, sRet, sSeq, sAsg, sDrop, sIf, sNext, sSetLc, sFor, sFldD, sAug, sPar, sSub, sRetN, dAndV, dOrV, dNotV, dAnd, dOr, dNot, dB, dTru, dIf, dOp, dCall, dCallF, dMeth, dProp, dFld, dMake, dMakeC, dCons, dNil, dStar, dTup, dLst, dNew, dVar, dFrz, dC, dSlice, dPart, dNoPart, dMt, dLc, dYes, iLst, iTupD, iRngD1, iRngD2, iEnumD, iZipD, rF, dTg, startD, wipeD, setMany, List.map, List.set, List.length_cons, List.length_nil, List.replicate, List.append, List.cons_append, List.nil_append, List.append_nil, List.getElem?_cons_zero, List.getElem?_cons_succ, Nat.reduceAdd, Nat.reduceSub, Nat.sub_self, Nat.zero_add, Option.some.injEq, exists_eq_left, exists_eq_left', exists_eq_right, List.cons.injEq, and_true, true_and, if_true, if_false, Bool.false_eq_true, Bool.not_true, Bool.not_false, D.bl.injEq, D.int.injEq, D.cell.injEq, reduceCtorEq, false_and, and_false, exists_false, or_false, false_or, exists_and_left, exists_and_right]
    have hcM : ∀ o, (((M.put c (.lst (n1.map dEnt))).put p (.lst (rs.map dRow))).put a o) c = some (.lst (n1.map dEnt)) := fun o => by rw [MS.put_ne hca, MS.put_ne (Ne.symm hpc), MS.put_same]
    refine ⟨⟨_, by show lstOf ((((M.put c _).put p _).put a o3) c) = _; rw [hcM]; rfl⟩, r_lenL (ds := n1.map dEnt) (by show lstOf ((((M.put c _).put p _).put a o3) c) = _; rw [hcM]; rfl) (r_addI ?_)⟩
    rw [List.length_map]
    refine draw_put p3 (by omega) (by omega) (by omega) fun r4 o4 a4 b4 p4 => ?_
    refine ⟨_, by rw [MS.put_ne hpa, MS.put_same], by decide, ?_⟩
    rw [MS.put_comm hpa, MS.del_put (by rw [MS.put_ne hpa]; exact hp0)]
    refine ⟨c, n1.map dEnt, r4, _, rfl, rfl, by rw [MS.put_ne hca, MS.put_same], by rw [List.length_map]; omega, a4, by omega, ?_⟩
    rw [MS.put_comm (Ne.symm hca), MS.put_put]
    have z := nx (n1.take r4.toNat ++ [(x, v, rs)] ++ n1.drop r4.toNat) o4 (some (.str x)) (some (.int v)) (some (.cell p)) e8 e9 (fun y hy => by
        rcases List.mem_append.mp hy with hy | hy
        · rcases List.mem_append.mp hy with hy | hy
          · exact hn y (List.mem_of_mem_take hy)
          · rw [List.mem_singleton.mp hy]
            refine ⟨?_, k1⟩
            have k3 : rs.length = b.toNat := by simpa using k2
            show (rs.length : Int) = b
            omega
        · exact hn y (List.mem_of_mem_drop hy)) (by
        rw [List.map_append, List.map_append, List.append_assoc]
        refine List.perm_middle.trans (List.Perm.cons _ ?_)
        have e : (n1.take r4.toNat).map (·.1) ++ (n1.drop r4.toNat).map (·.1) = n1.map (·.1) := by rw [← List.map_append, List.take_append_drop]
        exact List.Perm.of_eq e) (p4.le (by omega))
    rw [List.map_append, List.map_append, List.map_take, List.map_drop] at z
    exact z
theorem r_L_kind : Reads t_L_kind N_L_kind 2 sp_L_kind := by
  rintro ds M Q E hl ⟨a, K, o, rfl, hM, hp, hK, q⟩
  unfold t_L_kind
  simp only [dNeg, sRet, sSeq, sAsg, sDrop, sIf, sNext, sSetLc, sFor, sFldD, sAug, sPar, sSub, sRetN, dAndV, dOrV, dNotV, dAnd, dOr, dNot, dB, dTru, dIf, dOp, dCall, dCallF, dMeth, dProp, dFld, dMake, dMakeC, dCons, dNil, dStar, dTup, dLst, dNew, dVar, dFrz, dC, dSlice, dPart, dNoPart, dMt, dLc, dYes, iLst, iTupD, iRngD1, iRngD2, iEnumD, iZipD, rF, dTg, startD, wipeD, setMany, List.map, List.set, List.length_cons, List.length_nil, List.replicate, List.append, List.cons_append, List.nil_append, List.append_nil, List.getElem?_cons_zero, List.getElem?_cons_succ, Nat.reduceAdd, Nat.reduceSub, Nat.sub_self, Nat.zero_add, Option.some.injEq, exists_eq_left, exists_eq_left', exists_eq_right, List.cons.injEq, and_true, true_and, if_true, if_false, Bool.false_eq_true, Bool.not_true, Bool.not_false, D.bl.injEq, D.int.injEq, D.cell.injEq, reduceCtorEq, false_and, and_false, exists_false, or_false, false_or, exists_and_left, exists_and_right]
  refine ⟨by decide, draw_at hM hp (by omega) (by decide) (by decide) fun r1 o1 a1 b1 p1 => ?_⟩
  have h3 : ∃ b : Int, ixF (M.put a o1) (.lst [.int 2, .int 2, .int 3]) (.int r1) = some (.int b) ∧ (b = 2 ∨ b = 3) := by
    rcases (show r1 = 0 ∨ r1 = 1 ∨ r1 = 2 by omega) with rfl | rfl | rfl
    · exact ⟨2, rfl, .inl rfl⟩
    · exact ⟨2, rfl, .inl rfl⟩
    · exact ⟨3, rfl, .inr rfl⟩
  obtain ⟨b, h3, hb⟩ := h3
  refine ⟨_, h3, by decide, r_eqI ⟨_, rfl, ?_⟩⟩
  have rest : ∀ (r2 : Int) o2, 0 ≤ r2 → r2 < 3 → PoolM (K + 1 + 1) o2 → ∃ r, sliceF (M.put a o2) (.lst (six.map D.str)) none (some (1 + r2)) = some r ∧ 0 ≤ 100000 ∧ ∀ c, (M.put a o2) c = none →
      ∃ ds, listOf ((M.put a o2).put c (.lst [])) r = some ds ∧ forTurns (.nm 5) b_L_kind_1 { nx := sRet (dTup (dCons (dVar 2) (dCons (dFrz 4) dNil))) { nx := fun x M' => lessQ Q .non M', rt := lessQ Q, ex := fun x => lessE E }, rt := lessQ Q, ex := fun x => lessE E }
        (keepOf r ds) ds [some (.cell a), some (.int 3), some (.int b), some r, some (.cell c), none, none, none, none, none] ((M.put a o2).put c (.lst [])) := by
    intro r2 o2 a2 b2 p2
    have hls : ∃ ls : List Str, sliceF (M.put a o2) (.lst (six.map D.str)) none (some (1 + r2)) = some (lsD ls) ∧ ls ≠ [] ∧ ls.length ≤ 3 ∧ ls.Nodup ∧ ∀ x ∈ ls, okName x := by
      have ok6 : ∀ x ∈ (["t", "d", "u"] : List Str), okName x := fun x hx => by
        simp only [List.mem_cons, List.not_mem_nil, or_false] at hx
        rcases hx with rfl | rfl | rfl
        · exact ⟨116, rfl, by decide, by decide⟩
        · exact ⟨100, rfl, by decide, by decide⟩
        · exact ⟨117, rfl, by decide, by decide⟩
      rcases (show r2 = 0 ∨ r2 = 1 ∨ r2 = 2 by omega) with rfl | rfl | rfl
      · exact ⟨["t"], rfl, by decide, by decide, by decide, fun x hx => ok6 x (by simp only [List.mem_cons, List.not_mem_nil, or_false] at hx ⊢; exact .inl hx)⟩
      · exact ⟨["t", "d"], rfl, by decide, by decide, by decide, fun x hx => ok6 x (by simp only [List.mem_cons, List.not_mem_nil, or_false] at hx ⊢; exact hx.elim .inl fun h => .inr (.inl h))⟩
      · exact ⟨["t", "d", "u"], rfl, by decide, by decide, by decide, ok6⟩
    obtain ⟨ls, e, l1, l2, l3, l4⟩ := hls
    refine ⟨_, e, by decide, fun c hc => ⟨_, rfl, ?_⟩⟩
    have hca : c ≠ a := fun e => by subst e; rw [MS.put_same] at hc; cases hc
    have hMc : M c = none := by rw [MS.put_ne hca] at hc; exact hc
    rw [MS.put_comm (Ne.symm hca)]
    have hlp : (ls.length : Int) ≤ 3 := by omega
    refine kind_lines (M := M) (B := K + 700) hca hb l1 l2 (by omega) ls [] _ o2 none none none none none p2 (by omega) (fun x hx => by cases hx) (by simp; omega) (fun n o3 e5 e6 e7 e8 e9 k1 k2 p3 => ?_)
    simp only [dNeg, sRet, sSeq, sAsg, sDrop, sIf, sNext, sSetLc, sFor, sFldD, sAug, sPar, sSub, sRetN, dAndV, dOrV, dNotV, dAnd, dOr, dNot, dB, dTru, dIf, dOp, dCall, dCallF, dMeth, dProp, dFld, dMake, dMakeC, dCons, dNil, dStar, dTup, dLst, dNew, dVar, dFrz, dC, dSlice, dPart, dNoPart, dMt, dLc, dYes, iLst, iTupD, iRngD1, iRngD2, iEnumD, iZipD, rF, dTg, startD, wipeD, setMany, List.map, List.set, List.length_cons, List.length_nil, List.replicate, List.append, List.cons_append, List.nil_append, List.append_nil, List.getElem?_cons_zero, List.getElem?_cons_succ, Nat.reduceAdd, Nat.reduceSub, Nat.sub_self, Nat.zero_add, Option.some.injEq, exists_eq_left, exists_eq_left', exists_eq_right, List.cons.injEq, and_true, true_and, if_true, if_false, Bool.false_eq_true, Bool.not_true, Bool.not_false, D.bl.injEq, D.int.injEq, D.cell.injEq, reduceCtorEq, false_and, and_false, exists_false, or_false, false_or, exists_and_left, exists_and_right]
    refine ⟨_, by rw [MS.put_ne hca, MS.put_same], by decide, ?_⟩
    rw [MS.put_comm hca, MS.del_put (by rw [MS.put_ne hca]; exact hMc)]
    simp only [List.map_nil, List.nil_append] at k2
    have hnl : n.length = ls.length := by have := k2.length_eq; rwa [List.length_map] at this
    have hnm : ∀ y : Str, y ∈ ls → y ∈ n.map (·.1) := fun y hy => k2.mem_iff.mpr hy
    refine lessQ.of (q b n o3 ⟨hb, by omega, fun x hx => l4 _ (k2.mem_iff.mp (List.mem_map_of_mem hx)), k2.nodup_iff.mpr l3, fun x hx => ⟨(k1 x hx).1, fun l hl => ((k1 x hx).2 l hl).1⟩, fun x hx l hl f hf => ?_⟩ ?_ (by omega) (p3.le (by omega)))
    · have z := ((k1 x hx).2 l hl).2 f hf
      exact ⟨by omega, fun p hp => hnm _ (z.2 p hp)⟩
    · intro e; subst e
      exact l1 (List.length_eq_zero_iff.mp hnl.symm)
  rcases hb with rfl | rfl
  · rw [show decide ((2 : Int) = 2) = true from rfl, if_pos rfl]
    exact draw_put p1 (by omega) (by decide) (by decide) fun r2 o2 a2 b2 p2 => r_addI ⟨_, rfl, rest r2 o2 a2 b2 p2⟩
  · rw [show decide ((3 : Int) = 2) = false from rfl, if_neg Bool.false_ne_true]
    refine ⟨3, 3, rfl, ?_⟩
    exact draw_put p1 (by omega) (by decide) (by decide) fun r2 o2 a2 b2 p2 => r_addI ⟨_, rfl, rest r2 o2 a2 b2 p2⟩
end HD
namespace HD
open PySem PySem.Spec L2
def putAll (M : MS) (as : List Addr) (o : MO) : MS := as.foldl (fun M a => M.put a o) M
/-- a grid of fresh rows, all alike -/
theorem grid {te : DE} {y : D} {b : Int} {env : En} {Q : QD} (hb0 : 0 ≤ b) (hb : b ≤ 1000) (he : ∀ d, (env.set 7 (some d))[1]? = some (some (.int b))) (ht : ∀ env M K E, K y M → te env M K E) :
    ∀ (ds : List D) (acc : List Addr) (M : MS), (∀ as : List Addr, as.length = ds.length → as.Nodup → (∀ x ∈ as, M x = none) → Q (.lst ((acc ++ as).map .cell)) (putAll M as (.lst (List.replicate b.toNat y)))) →
      lcTurns (.nm 7) dYes (dLcC (iRngD1 (dCons (dVar 1) dNil)) (.nm 6) dYes te [6]) always env ds (acc.map .cell) M Q
  | [], acc, M, q => ⟨trivial, by
      have z := q [] rfl List.nodup_nil (fun _ h => by cases h)
      rw [List.append_nil] at z
      exact z⟩
  | d :: ds, acc, M, q => by
    refine ⟨trivial, ?_⟩
    generalize hK : lcTurns (.nm 7) dYes (dLcC (iRngD1 (dCons (dVar 1) dNil)) (.nm 6) dYes te [6]) always env ds = Kn
    unfold dLcC
    simp only [dNeg, sRet, sSeq, sAsg, sDrop, sIf, sNext, sSetLc, sFor, sFldD, sAug, sPar, sSub, sRetN, dAndV, dOrV, dNotV, dAnd, dOr, dNot, dB, dTru, dIf, dOp, dCall, dCallF, dMeth, dProp, dFld, dMake, dMakeC, dCons, dNil, dStar, dTup, dLst, dNew, dVar, dFrz, dC, dSlice, dPart, dNoPart, dMt, dLc, dYes, iLst, iTupD, iRngD1, iRngD2, iEnumD, iZipD, rF, dTg, startD, wipeD, setMany, List.map, List.set, List.length_cons, List.length_nil, List.replicate, List.append, List.cons_append, List.nil_append, List.append_nil, List.getElem?_cons_zero, List.getElem?_cons_succ, Nat.reduceAdd, Nat.reduceSub, Nat.sub_self, Nat.zero_add, Option.some.injEq, exists_eq_left, exists_eq_left', exists_eq_right, List.cons.injEq, and_true, true_and, if_true, if_false, Bool.false_eq_true, Bool.not_true, Bool.not_false, D.bl.injEq, D.int.injEq, D.cell.injEq, reduceCtorEq, false_and, and_false, exists_false, or_false, false_or, exists_and_left, exists_and_right]
    refine ⟨_, he d, b, rfl, by omega, by omega, by rw [upto_len]; omega, ?_⟩
    refine lcM (fun (i : Nat) => D.int (0 + (i : Int))) (fun _ => y) trivial (List.range b.toNat) (fun x hx K k => ht _ _ _ _ k) ?_
    have e : (List.range b.toNat).map (fun _ => y) = List.replicate b.toNat y := List.ext_getElem (by rw [List.length_map, List.length_range, List.length_replicate]) (fun i h1 h2 => by rw [List.getElem_map, List.getElem_replicate])
    rw [e]
    refine ⟨_, rfl, fun x hx => ?_⟩
    have z := grid (te := te) (y := y) (b := b) (env := env) (Q := Q) hb0 hb he ht ds (acc ++ [x]) (M.put x (.lst (List.replicate b.toNat y))) (fun as h1 h2 h3 => by
      have hxa : ∀ z ∈ as, z ≠ x := fun z hz e => by have := h3 z hz; rw [e, MS.put_same] at this; cases this
      have w := q (x :: as) (by rw [List.length_cons, List.length_cons, h1]) (List.nodup_cons.mpr ⟨fun h => hxa x h rfl, h2⟩) (fun z hz => by
        rcases List.mem_cons.mp hz with rfl | hz
        · exact hx
        · have := h3 z hz
          rwa [MS.put_ne (hxa z hz)] at this)
      rw [List.append_assoc]
      exact w)
    rw [List.map_append] at z
    rw [← hK]
    exact z
theorem none_ne {M : MS} {a b : Addr} {o : MO} (h : M b = none) (h2 : M a = some o) : b ≠ a := fun e => by rw [e, h2] at h; cases h
theorem same_out {M0 N : MS} (S : List Addr) (h1 : ∀ z ∈ S, M0 z = none) (h2 : ∀ z ∈ S, N z = none) (h3 : ∀ z, z ∉ S → N z = M0 z) : N = M0 := by
  funext z
  by_cases h : z ∈ S
  · rw [h1 z h, h2 z h]
  · exact h3 z h
theorem okN_t : okName "t" := ⟨116, rfl, by decide, by decide⟩
theorem okN_u : okName "u" := ⟨117, rfl, by decide, by decide⟩
theorem ok_tu {b s : Int} {P O : Blk} (hb : b = 2 ∨ b = 3) (hP : (P.length : Int) = b ∧ ∀ l ∈ P, (l.length : Int) = b) (hO : (O.length : Int) = b ∧ ∀ l ∈ O, (l.length : Int) = b)
    (pP : ∀ l ∈ P, ∀ f ∈ l, f.length ≤ 100 ∧ ∀ p ∈ f, p.2 ∈ (["t", "u"] : List Str)) (pO : ∀ l ∈ O, ∀ f ∈ l, f.length ≤ 100 ∧ ∀ p ∈ f, p.2 ∈ (["t", "u"] : List Str)) : OkNm b [("t", 1, P), ("u", s, O)] := by
  have two : ∀ x ∈ ([("t", 1, P), ("u", s, O)] : Nm), x = (("t" : Str), (1 : Int), P) ∨ x = (("u" : Str), s, O) := fun x hx => by simpa using hx
  refine ⟨hb, by simp, fun x hx => ?_, by simp; decide, fun x hx => ?_, fun x hx => ?_⟩
  · rcases two x hx with rfl | rfl
    · exact okN_t
    · exact okN_u
  · rcases two x hx with rfl | rfl
    · exact hP
    · exact hO
  · rcases two x hx with rfl | rfl
    · exact pP
    · exact pO
theorem r_L_base_table : Reads t_L_base_table N_L_base_table 3 sp_L_base_table := by
  rintro ds M Q E hl ⟨a, b, K, o, rfl, hb, hM, hp, hK, q⟩
  unfold t_L_base_table
  simp only [dNeg, sRet, sSeq, sAsg, sDrop, sIf, sNext, sSetLc, sFor, sFldD, sAug, sPar, sSub, sRetN, dAndV, dOrV, dNotV, dAnd, dOr, dNot, dB, dTru, dIf, dOp, dCall, dCallF, dMeth, dProp, dFld, dMake, dMakeC, dCons, dNil, dStar, dTup, dLst, dNew, dVar, dFrz, dC, dSlice, dPart, dNoPart, dMt, dLc, dYes, iLst, iTupD, iRngD1, iRngD2, iEnumD, iZipD, rF, dTg, startD, wipeD, setMany, List.map, List.set, List.length_cons, List.length_nil, List.replicate, List.append, List.cons_append, List.nil_append, List.append_nil, List.getElem?_cons_zero, List.getElem?_cons_succ, Nat.reduceAdd, Nat.reduceSub, Nat.sub_self, Nat.zero_add, Option.some.injEq, exists_eq_left, exists_eq_left', exists_eq_right, List.cons.injEq, and_true, true_and, if_true, if_false, Bool.false_eq_true, Bool.not_true, Bool.not_false, D.bl.injEq, D.int.injEq, D.cell.injEq, reduceCtorEq, false_and, and_false, exists_false, or_false, false_or, exists_and_left, exists_and_right]
  refine ⟨a, K, o, rfl, hM, hp, by omega, fun b' n o1 ok hn0 hn3 p1 => ⟨.int b', rfl, r_neI ⟨_, rfl, ?_⟩⟩⟩
  by_cases hbb : b' = b
  · subst hbb
    rw [decide_eq_true rfl, if_neg (by decide)]
    refine ⟨a, b', n, K + 1000, o1, rfl, hn0, hn3, MS.put_same, p1, by omega, fun sh o2 hs p2 => ⟨by decide, ?_⟩⟩
    rw [MS.put_put]
    exact lessQ.of (q n sh o2 ok hs hn3 (p2.le (by omega)))
  · rw [decide_eq_false hbb, if_pos (by decide)]
    refine draw_put p1 (by omega) (by decide) (by decide) fun r2 o2 a2 b2 p2 => r_addI ⟨by omega, by omega, by rw [upto_len]; omega, ?_⟩
    refine grid (y := .lst [.tup [.int 1, .str "t"]]) (b := b) (by omega) (by omega) (fun d => rfl) (fun env M K E k => ⟨by decide, by decide, k⟩) (upto 0 b.toNat) [] _ (fun as l1 l2 l3 => ?_)
    rw [upto_len] at l1
    rcases hb with rfl | rfl
    · obtain ⟨x, y, rfl⟩ : ∃ x y, as = [x, y] := by
        match as, l1 with
        | [x, y], _ => exact ⟨x, y, rfl⟩
      have hxy : x ≠ y := by simpa using l2
      have hx0 := l3 x (by simp)
      have hy0 := l3 y (by simp)
      generalize hM0 : M.put a o2 = M0 at *
      refine ⟨by decide, by decide, _, rfl, r_int trivial ⟨x, rfl, _, _, rfl, by simp [putAll, MS.put, hxy]; rfl, 1, rfl, by decide, by decide, by decide, ?_⟩⟩
      refine grid (y := .lst []) (b := 2) (by omega) (by omega) (fun d => rfl) (fun env M K E k => ⟨by decide, k⟩) (upto 0 2) [] _ (fun bs m1 m2 m3 => ?_)
      obtain ⟨u, v, rfl⟩ : ∃ x y, bs = [x, y] := by
        match bs, m1 with
        | [x, y], _ => exact ⟨x, y, rfl⟩
      have huv : u ≠ v := by simpa using m2
      have hu0 := m3 u (by simp)
      have hv0 := m3 v (by simp)
      have hux : u ≠ x := none_ne hu0 MS.put_same
      have hvx : v ≠ x := none_ne hv0 MS.put_same
      have huy : u ≠ y := fun e => by subst e; simp [putAll, MS.put, hux] at hu0
      have hvy : v ≠ y := fun e => by subst e; simp [putAll, MS.put, hvx] at hv0
      have hyx := Ne.symm hxy
      have hvu := Ne.symm huv
      have hxu := Ne.symm hux
      have hxv := Ne.symm hvx
      have hyu := Ne.symm huy
      have hyv := Ne.symm hvy
      have hu1 : M0 u = none := by simpa [putAll, MS.put, hux, huy] using hu0
      have hv1 : M0 v = none := by simpa [putAll, MS.put, hvx, hvy] using hv0
      refine ⟨by decide, by decide, by decide, _, rfl, v, rfl, _, by simp [putAll, MS.put]; rfl, 0, rfl, ?_⟩
      unfold dFrzD
      refine ⟨[x, y], [[.lst [.tup [.int 1, .str "t"]], .lst [.tup [.int (1 + r2), .str "u"]]], [.lst [.tup [.int 1, .str "t"]], .lst [.tup [.int 1, .str "t"]]]], _, rfl, ⟨?_, ?_, rfl⟩, by decide, ?_⟩
      · simp [putAll, MS.put, hxy, hxu, hxv]
      · simp [putAll, MS.put, MS.del, hyx, hyu, hyv]
      refine ⟨[u, v], [[.lst [], .lst []], [.lst [.tup [.int 1, .str "u"], .tup [.int (-1), .str "t"]], .lst []]], M0, rfl, ⟨?_, ?_, Eq.symm (same_out [x, y, u, v] ?_ ?_ ?_)⟩, by decide, by decide, ?_⟩
      · simp [putAll, MS.put, MS.del, huv, hux, huy]
      · simp [putAll, MS.put, MS.del, hvu, hvx, hvy]
      · intro z hz
        simp only [List.mem_cons, List.not_mem_nil, or_false] at hz
        rcases hz with rfl | rfl | rfl | rfl <;> assumption
      · intro z hz
        simp only [List.mem_cons, List.not_mem_nil, or_false] at hz
        rcases hz with rfl | rfl | rfl | rfl <;> simp [putAll, MS.put, MS.del]
      · intro z hz
        simp only [List.mem_cons, List.not_mem_nil, or_false, not_or] at hz
        simp [putAll, MS.put, MS.del, hz]
      refine ⟨_, rfl, by decide, r_int trivial ⟨false, rfl, ?_⟩⟩
      simp only [dNeg, sRet, sSeq, sAsg, sDrop, sIf, sNext, sSetLc, sFor, sFldD, sAug, sPar, sSub, sRetN, dAndV, dOrV, dNotV, dAnd, dOr, dNot, dB, dTru, dIf, dOp, dCall, dCallF, dMeth, dProp, dFld, dMake, dMakeC, dCons, dNil, dStar, dTup, dLst, dNew, dVar, dFrz, dC, dSlice, dPart, dNoPart, dMt, dLc, dYes, iLst, iTupD, iRngD1, iRngD2, iEnumD, iZipD, rF, dTg, startD, wipeD, setMany, List.map, List.set, List.length_cons, List.length_nil, List.replicate, List.append, List.cons_append, List.nil_append, List.append_nil, List.getElem?_cons_zero, List.getElem?_cons_succ, Nat.reduceAdd, Nat.reduceSub, Nat.sub_self, Nat.zero_add, Option.some.injEq, exists_eq_left, exists_eq_left', exists_eq_right, List.cons.injEq, and_true, true_and, if_true, if_false, Bool.false_eq_true, Bool.not_true, Bool.not_false, D.bl.injEq, D.int.injEq, D.cell.injEq, reduceCtorEq, false_and, and_false, exists_false, or_false, false_or, exists_and_left, exists_and_right]
      subst hM0
      refine ⟨a, 2, [("t", 1, [[[(1, "t")], [(1 + r2, "u")]], [[(1, "t")], [(1, "t")]]]), ("u", 1 + r2, [[[], []], [[(1, "u"), (-1, "t")], []]])], K + 1000 + 1, o2, rfl, by simp, by simp, MS.put_same, p2, by omega, fun sh o3 hs p3 => ⟨by decide, ?_⟩⟩
      rw [MS.put_put]
      refine lessQ.of (q _ sh o3 (ok_tu (.inl rfl) ⟨rfl, fun l hl => ?_⟩ ⟨rfl, fun l hl => ?_⟩ (fun l hl => ?_) fun l hl => ?_) hs (by simp) (p3.le (by omega)))
      all_goals simp only [List.mem_cons, List.not_mem_nil, or_false] at hl
      all_goals rcases hl with rfl | rfl
      all_goals first
        | rfl
        | (simp; done)
        | (simp; rintro _ _ (⟨_, rfl⟩ | ⟨_, rfl⟩) <;> simp)
    · obtain ⟨x, y, w, rfl⟩ : ∃ x y w, as = [x, y, w] := by
        match as, l1 with
        | [x, y, w], _ => exact ⟨x, y, w, rfl⟩
      have hn3' : x ≠ y ∧ x ≠ w ∧ y ≠ w := by
        simp only [List.nodup_cons, List.mem_cons, List.not_mem_nil, or_false, not_or] at l2
        exact ⟨l2.1.1, l2.1.2, l2.2.1⟩
      obtain ⟨hxy, hxw, hyw⟩ := hn3'
      have hx0 := l3 x (by simp)
      have hy0 := l3 y (by simp)
      have hw0 := l3 w (by simp)
      generalize hM0 : M.put a o2 = M0 at *
      refine ⟨by decide, by decide, _, rfl, r_int trivial ⟨x, rfl, _, _, rfl, by simp [putAll, MS.put, hxy, hxw]; rfl, 2, rfl, by decide, by decide, by decide, ?_⟩⟩
      refine grid (y := .lst []) (b := 3) (by omega) (by omega) (fun d => rfl) (fun env M K E k => ⟨by decide, k⟩) (upto 0 3) [] _ (fun bs m1 m2 m3 => ?_)
      obtain ⟨u, v, t, rfl⟩ : ∃ x y w, bs = [x, y, w] := by
        match bs, m1 with
        | [x, y, w], _ => exact ⟨x, y, w, rfl⟩
      have hm3' : u ≠ v ∧ u ≠ t ∧ v ≠ t := by
        simp only [List.nodup_cons, List.mem_cons, List.not_mem_nil, or_false, not_or] at m2
        exact ⟨m2.1.1, m2.1.2, m2.2.1⟩
      obtain ⟨huv, hut, hvt⟩ := hm3'
      have hyx := Ne.symm hxy
      have hwx := Ne.symm hxw
      have hwy := Ne.symm hyw
      have new : ∀ z, z ∈ [u, v, t] → z ≠ x ∧ z ≠ y ∧ z ≠ w ∧ M0 z = none := fun z hz => by
        have h := m3 z hz
        have zx : z ≠ x := none_ne h MS.put_same
        have zy : z ≠ y := fun e => by subst e; simp [putAll, MS.put, hyx, hyw] at h
        have zw : z ≠ w := fun e => by subst e; simp [putAll, MS.put, hwx] at h
        exact ⟨zx, zy, zw, by simpa [putAll, MS.put, zx, zy, zw] using h⟩
      obtain ⟨hux, huy, huw, hu1⟩ := new u (by simp)
      obtain ⟨hvx, hvy, hvw, hv1⟩ := new v (by simp)
      obtain ⟨htx, hty, htw, ht1⟩ := new t (by simp)
      have hvu := Ne.symm huv
      have htu := Ne.symm hut
      have htv := Ne.symm hvt
      refine ⟨by decide, by decide, by decide, _, rfl, v, rfl, _, by simp [putAll, MS.put, hvt]; rfl, 0, rfl, ?_⟩
      unfold dFrzD
      refine ⟨[x, y, w], [[.lst [.tup [.int 1, .str "t"]], .lst [.tup [.int 1, .str "t"]], .lst [.tup [.int (1 + r2), .str "u"]]], [.lst [.tup [.int 1, .str "t"]], .lst [.tup [.int 1, .str "t"]], .lst [.tup [.int 1, .str "t"]]], [.lst [.tup [.int 1, .str "t"]], .lst [.tup [.int 1, .str "t"]], .lst [.tup [.int 1, .str "t"]]]], _, rfl, ⟨?_, ?_, ?_, rfl⟩, by decide, ?_⟩
      · simp [putAll, MS.put, hxy, hxw, Ne.symm hux, Ne.symm hvx, Ne.symm htx]
      · simp [putAll, MS.put, MS.del, hyx, hyw, Ne.symm huy, Ne.symm hvy, Ne.symm hty]
      · simp [putAll, MS.put, MS.del, hwx, hwy, Ne.symm huw, Ne.symm hvw, Ne.symm htw]
      refine ⟨[u, v, t], [[.lst [], .lst [], .lst []], [.lst [.tup [.int 1, .str "u"], .tup [.int (-1), .str "t"]], .lst [], .lst []], [.lst [], .lst [], .lst []]], M0, rfl, ⟨?_, ?_, ?_, Eq.symm (same_out [x, y, w, u, v, t] ?_ ?_ ?_)⟩, by decide, by decide, ?_⟩
      · simp [putAll, MS.put, MS.del, huv, hut, hux, huy, huw]
      · simp [putAll, MS.put, MS.del, hvu, hvt, hvx, hvy, hvw]
      · simp [putAll, MS.put, MS.del, htu, htv, htx, hty, htw]
      · intro z hz
        simp only [List.mem_cons, List.not_mem_nil, or_false] at hz
        rcases hz with rfl | rfl | rfl | rfl | rfl | rfl <;> assumption
      · intro z hz
        simp only [List.mem_cons, List.not_mem_nil, or_false] at hz
        rcases hz with rfl | rfl | rfl | rfl | rfl | rfl <;> simp [putAll, MS.put, MS.del]
      · intro z hz
        simp only [List.mem_cons, List.not_mem_nil, or_false, not_or] at hz
        simp [putAll, MS.put, MS.del, hz]
      refine ⟨_, rfl, by decide, r_int trivial ⟨false, rfl, ?_⟩⟩
      simp only [dNeg, sRet, sSeq, sAsg, sDrop, sIf, sNext, sSetLc, sFor, sFldD, sAug, sPar, sSub, sRetN, dAndV, dOrV, dNotV, dAnd, dOr, dNot, dB, dTru, dIf, dOp, dCall, dCallF, dMeth, dProp, dFld, dMake, dMakeC, dCons, dNil, dStar, dTup, dLst, dNew, dVar, dFrz, dC, dSlice, dPart, dNoPart, dMt, dLc, dYes, iLst, iTupD, iRngD1, iRngD2, iEnumD, iZipD, rF, dTg, startD, wipeD, setMany, List.map, List.set, List.length_cons, List.length_nil, List.replicate, List.append, List.cons_append, List.nil_append, List.append_nil, List.getElem?_cons_zero, List.getElem?_cons_succ, Nat.reduceAdd, Nat.reduceSub, Nat.sub_self, Nat.zero_add, Option.some.injEq, exists_eq_left, exists_eq_left', exists_eq_right, List.cons.injEq, and_true, true_and, if_true, if_false, Bool.false_eq_true, Bool.not_true, Bool.not_false, D.bl.injEq, D.int.injEq, D.cell.injEq, reduceCtorEq, false_and, and_false, exists_false, or_false, false_or, exists_and_left, exists_and_right]
      subst hM0
      refine ⟨a, 3, [("t", 1, [[[(1, "t")], [(1, "t")], [(1 + r2, "u")]], [[(1, "t")], [(1, "t")], [(1, "t")]], [[(1, "t")], [(1, "t")], [(1, "t")]]]), ("u", 1 + r2, [[[], [], []], [[(1, "u"), (-1, "t")], [], []], [[], [], []]])], K + 1000 + 1, o2, rfl, by simp, by simp, MS.put_same, p2, by omega, fun sh o3 hs p3 => ⟨by decide, ?_⟩⟩
      rw [MS.put_put]
      refine lessQ.of (q _ sh o3 (ok_tu (.inr rfl) ⟨rfl, fun l hl => ?_⟩ ⟨rfl, fun l hl => ?_⟩ (fun l hl => ?_) fun l hl => ?_) hs (by simp) (p3.le (by omega)))
      all_goals simp only [List.mem_cons, List.not_mem_nil, or_false] at hl
      all_goals rcases hl with rfl | rfl | rfl
      all_goals first
        | rfl
        | (simp; done)
        | (simp; rintro _ _ (⟨_, rfl⟩ | ⟨_, rfl⟩) <;> simp)
theorem r_L_pool : Reads t_L_pool N_L_pool 2 sp_L_pool := by
  rintro ds M Q E hl ⟨ns, i, rfl, h0, h1, h2, q⟩
  unfold t_L_pool
  simp only [dNeg, sRet, sSeq, sAsg, sDrop, sIf, sNext, sSetLc, sFor, sFldD, sAug, sPar, sSub, sRetN, dAndV, dOrV, dNotV, dAnd, dOr, dNot, dB, dTru, dIf, dOp, dCall, dCallF, dMeth, dProp, dFld, dMake, dMakeC, dCons, dNil, dStar, dTup, dLst, dNew, dVar, dFrz, dC, dSlice, dPart, dNoPart, dMt, dLc, dYes, iLst, iTupD, iRngD1, iRngD2, iEnumD, iZipD, rF, dTg, startD, wipeD, setMany, List.map, List.set, List.length_cons, List.length_nil, List.replicate, List.append, List.cons_append, List.nil_append, List.append_nil, List.getElem?_cons_zero, List.getElem?_cons_succ, Nat.reduceAdd, Nat.reduceSub, Nat.sub_self, Nat.zero_add, Option.some.injEq, exists_eq_left, exists_eq_left', exists_eq_right, List.cons.injEq, and_true, true_and, if_true, if_false, Bool.false_eq_true, Bool.not_true, Bool.not_false, D.bl.injEq, D.int.injEq, D.cell.injEq, reduceCtorEq, false_and, and_false, exists_false, or_false, false_or, exists_and_left, exists_and_right]
  refine r_lenL (ds := ns.map D.int) rfl (r_int trivial ⟨_, rfl, ?_⟩)
  have fin : ∀ c : Int, rAbsD [.int c] M fun x M1 => rPowD (.int 10) (.int 18) M1 fun y M2 => rSubD x y M2 fun x M1 => rMaxD2 [.int 0, x] M1 fun x M1 => rIntD1 [.int c] M1 fun x_1 M1 => rModD x_1 (.int 2305843009213693951) M1 fun x_2 M1 =>
      rAddD (.int i) (.int 1) M1 fun y M2 => rMulD (.int 7368787) y M2 fun y M2 => rAddD x_2 y M2 fun x_3 M1 => 3 ≤ 100000 ∧ ∀ a, M1 a = none → lessQ Q (.cell a) (M1.put a (.lst [x, x_3, .int 0])) := by
    intro c
    have m0 := Int.fmod_nonneg_of_pos c (b := 2305843009213693951) (by decide)
    have m1 := Int.fmod_lt_of_pos c (b := 2305843009213693951) (by decide)
    refine ⟨c, rfl, r_int ⟨by decide, by decide +kernel⟩ (r_int trivial ⟨_, _, rfl, .inl ⟨_, rfl, r_int (by decide) (r_addI (r_int (mulOk_of (by decide +kernel) (nat_small (by omega) (by omega))) (r_addI ⟨by decide, fun p hp => lessQ.of (q p _ hp ⟨_, _, _, rfl, ?_, by omega, by omega, by omega, by omega⟩)⟩)))⟩⟩)⟩
    split <;> omega
  by_cases hi : i < ((ns.map D.int).length : Int)
  · rw [decide_eq_true hi, if_pos rfl]
    obtain ⟨d, hd, e⟩ := atI_in h0 hi
    obtain ⟨c, _, rfl⟩ := List.mem_map.mp hd
    exact ⟨_, e, fin c⟩
  · rw [decide_eq_false hi, if_neg Bool.false_ne_true]
    exact fin 0
end HD
namespace HD
open PySem PySem.Spec L2
/-! ## == of tables, of calls -/
theorem pw_refl {R : D → D → Bool → Prop} : ∀ {xs : List D}, (∀ x ∈ xs, R x x true) → Pw R xs xs true
  | [], _ => rfl
  | x :: xs, h => ⟨true, h x (List.mem_cons_self ..), by rw [if_pos rfl]; exact pw_refl fun y hy => h y (List.mem_cons_of_mem _ hy)⟩
theorem eq_tup {ob : Ob} {n : Nat} {xs : List D} (h : ∀ x ∈ xs, EqT ob n x x true) : EqT ob (n + 1) (.tup xs) (.tup xs) true := .inr (.inr (.inl ⟨xs, xs, rfl, rfl, pw_refl h⟩))
theorem eq_scal {ob : Ob} {n : Nat} {d e : D} {b : Bool} (h : scalEq d e = some b) : EqT ob n d e b := by
  cases n with
  | zero => exact h
  | succ n => exact .inl h
theorem eq_int {ob : Ob} {n : Nat} {i : Int} : EqT ob n (.int i) (.int i) true := eq_scal (by simp [scalEq])
theorem eq_str {ob : Ob} {n : Nat} {x : Str} : EqT ob n (.str x) (.str x) true := eq_scal (by simp [scalEq])
theorem eq_kNm {ob : Ob} {n : Nat} (m : Nm) : EqT ob (n + 6) (kNm m) (kNm m) true := by
  refine eq_tup fun x hx => ?_
  obtain ⟨e, _, rfl⟩ := List.mem_map.mp hx
  refine eq_tup fun x hx => ?_
  simp only [List.mem_cons, List.not_mem_nil, or_false] at hx
  rcases hx with rfl | rfl | rfl
  · exact eq_str
  · exact eq_int
  refine eq_tup fun x hx => ?_
  obtain ⟨l, _, rfl⟩ := List.mem_map.mp hx
  refine eq_tup fun x hx => ?_
  obtain ⟨f, _, rfl⟩ := List.mem_map.mp hx
  refine eq_tup fun x hx => ?_
  obtain ⟨p, _, rfl⟩ := List.mem_map.mp hx
  refine eq_tup fun x hx => ?_
  simp only [List.mem_cons, List.not_mem_nil, or_false] at hx
  rcases hx with rfl | rfl
  · exact eq_int
  · exact eq_str
theorem eq_ints {ob : Ob} {n : Nat} (xs : List Int) : EqT ob (n + 1) (.tup (xs.map D.int)) (.tup (xs.map D.int)) true := by
  refine eq_tup fun x hx => ?_
  obtain ⟨e, _, rfl⟩ := List.mem_map.mp hx
  exact eq_int
theorem eq_book {b : Int} {m m' : Nm} {r : Bool} (h : EqT ob0 20 (kNm m) (kNm m') r) : EqT obB 30 (bookD b m) (bookD b m') r :=
  .inr (.inr (.inr ⟨"Book", _, _, rfl, rfl, rfl, by decide, b, _, b, _, 20, r, rfl, rfl, by decide, h, by rw [decide_eq_true rfl, Bool.true_and]⟩))
theorem eq_tbl {b : Int} {m m' : Nm} {s s' : List Int} {r r' : Bool} (h : EqT ob0 20 (kNm m) (kNm m') r) (h' : EqT ob0 20 (.tup (s.map D.int)) (.tup (s'.map D.int)) r') : EqT obT 38 (tableD b m s) (tableD b m' s') (r && r') :=
  .inr (.inr (.inr ⟨"Table", _, _, rfl, rfl, .inr ⟨rfl, by decide, _, _, _, _, 30, 20, r, r', rfl, rfl, by decide, eq_book h, by decide, h', rfl⟩⟩))
theorem eq_tblR {b : Int} {m : Nm} {s : List Int} : EqT obT 38 (tableD b m s) (tableD b m s) true := eq_tbl (r := true) (r' := true) (eq_kNm m) (eq_ints s)
theorem eq_put {x x' : Str} {t t' : D} {r : Bool} (h : EqT obT 38 t t' r) : EqT obT 39 (putC (.str x) t) (putC (.str x') t') (decide (x = x') && r) := by
  refine .inr (.inr (.inl ⟨_, _, rfl, rfl, true, eq_str, ?_⟩))
  rw [if_pos rfl]
  refine ⟨decide (x = x'), eq_scal rfl, ?_⟩
  by_cases e : x = x'
  · rw [decide_eq_true e, if_pos rfl, Bool.true_and]
    refine ⟨r, h, ?_⟩
    cases r <;> rfl
  · rw [decide_eq_false e, Bool.false_and]; rfl
theorem eq_calls {xs ys : List D} {r : Bool} (h : Pw (EqT obT 39) xs ys r) : EqT obT 40 (.lst xs) (.lst ys) r := .inr (.inl ⟨xs, ys, rfl, rfl, h⟩)
/-! ## == of shelves -/
theorem ty_none {M : MS} {a : Addr} {b : Int} {cs ss : List D} (h : M a = some (shO none b cs ss)) : tyD M (.cell a) = some (.c "Shelf") := tyD_cell h
theorem ty_some {M : MS} {a : Addr} {m b : Int} {cs ss : List D} (h : M a = some (shO (some m) b cs ss)) : tyD M (.cell a) = some (.c "SmallShelf") := tyD_cell h
theorem sh_eq {M : MS} {a a' : Addr} {l l' : Option Int} {b b' : Int} {cs ss cs' ss' : List D} {r : Bool} {Q : QD} {E : QE} (h : M a = some (shO l b cs ss)) (h' : M a' = some (shO l' b' cs' ss'))
    (hr : (b ≠ b' ∧ r = false) ∨ (b = b' ∧ l ≠ l' ∧ r = false) ∨ (b = b' ∧ l = l' ∧ Pw (EqT obT 39) cs cs' r)) (q : Q (.bl r) M) : sp_Shelf__eq [.cell a, .cell a'] M Q E := by
  refine ⟨a, l, b, cs, ss, h, .inr ⟨a', l', b', cs', ss', rfl, h', ?_⟩⟩
  rcases hr with ⟨h1, rfl⟩ | ⟨h1, h2, rfl⟩ | ⟨h1, h2, h3⟩
  · exact .inl ⟨h1, q⟩
  · exact .inr (.inl ⟨h1, h2, q⟩)
  · exact .inr (.inr ⟨h1, h2, 40, r, by decide, eq_calls h3, q⟩)
section
variable {M : MS} {a a' : Addr} {l l' : Option Int} {m b b' : Int} {cs ss cs' ss' : List D} {r : Bool} {Q : QD}
theorem eq_SS (h : M a = some (shO none b cs ss)) (h' : M a' = some (shO none b' cs' ss')) (hr : (b ≠ b' ∧ r = false) ∨ (b = b' ∧ Pw (EqT obT 39) cs cs' r)) (q : Q (.bl r) M) : rShS (.cell a) (.cell a') M Q :=
  ⟨_, ty_none h, ty_none h', by decide, .inl ⟨_, rfl, rfl⟩, sh_eq h h' (hr.elim .inl fun z => .inr (.inr ⟨z.1, rfl, z.2⟩)) ⟨r, rfl, q⟩⟩
theorem ne_SS (h : M a = some (shO none b cs ss)) (h' : M a' = some (shO none b' cs' ss')) (hr : (b ≠ b' ∧ r = false) ∨ (b = b' ∧ Pw (EqT obT 39) cs cs' r)) (q : Q (.bl (!r)) M) : rShN (.cell a) (.cell a') M Q :=
  ⟨_, ty_none h, ty_none h', by decide, .inl ⟨_, rfl, rfl⟩, sh_eq h h' (hr.elim .inl fun z => .inr (.inr ⟨z.1, rfl, z.2⟩)) ⟨r, rfl, q⟩⟩
theorem eq_SX {x : D} {t : Ty0} (h : M a = some (shO none b cs ss)) (ht : tyD M x = some t) (h2 : okTy tyCs t = true) (h3 : isTy tySub "Shelf" t = false) (q : Q (.bl false) M) : rShS (.cell a) x M Q :=
  ⟨_, ty_none h, ht, h2, .inr h3, a, none, b, cs, ss, h, .inl ⟨x, t, rfl, ht, h2, h3, false, rfl, q⟩⟩
theorem eq_TT (h : M a = some (shO (some m) b cs ss)) (h' : M a' = some (shO l' b cs' ss')) (hr : (some m ≠ l' ∧ r = false) ∨ (some m = l' ∧ Pw (EqT obT 39) cs cs' r)) (q : Q (.bl r) M) : rShT (.cell a) (.cell a') M Q := by
  have e : sp_Shelf__eq [.cell a, .cell a'] M (fun d M' => ∃ b, d = .bl b ∧ Q (.bl b) M') E00 := sh_eq h h' (hr.elim (fun z => .inr (.inl ⟨rfl, z.1, z.2⟩)) fun z => .inr (.inr ⟨rfl, z.1, z.2⟩)) ⟨r, rfl, q⟩
  cases l' with
  | none => exact ⟨_, ty_some h, ty_none h', by decide, .inr (by decide), e⟩
  | some m' => exact ⟨_, ty_some h, ty_some h', by decide, .inl ⟨_, rfl, rfl⟩, e⟩
theorem eq_B (h : M a = some (shO none b cs ss)) (h' : M a' = some (shO (some m) b cs' ss')) (q : Q (.bl false) M) : rShB (.cell a) (.cell a') M Q :=
  ⟨ty_none h, ty_some h', sh_eq h' h (.inr (.inl ⟨rfl, by simp, rfl⟩)) ⟨false, rfl, q⟩⟩
end
end HD
namespace HD
open PySem PySem.Spec L2
/-! ## things of one's own -/
structure Own (M N : MS) (l : List (Addr × MO)) : Prop where
  sub : Sub M N
  nd : (l.map (·.1)).Nodup
  out : ∀ p ∈ l, M p.1 = none
  has : ∀ p ∈ l, N p.1 = some p.2
theorem Own.nil (M : MS) : Own M M [] := ⟨Sub.refl M, List.nodup_nil, fun _ h => (List.not_mem_nil h).elim, fun _ h => (List.not_mem_nil h).elim⟩
theorem Own.new {M N : MS} {l : List (Addr × MO)} {a : Addr} {o : MO} (w : Own M N l) (h : N a = none) : Own M (N.put a o) (l ++ [(a, o)]) := by
  have hM : M a = none := by
    cases q : M a with
    | none => rfl
    | some u => rw [w.sub a u q] at h; cases h
  have hne : ∀ p ∈ l, p.1 ≠ a := fun p hp e => by have := w.has p hp; rw [e, h] at this; cases this
  refine ⟨w.sub.trans (Sub.put h), ?_, fun p hp => ?_, fun p hp => ?_⟩
  · rw [List.map_append, List.nodup_append]
    refine ⟨w.nd, by simp, fun x hx y hy => ?_⟩
    obtain ⟨p, hp, rfl⟩ := List.mem_map.mp hx
    simp only [List.map_cons, List.map_nil, List.mem_singleton] at hy
    subst hy
    exact hne p hp
  · rcases List.mem_append.mp hp with hp | hp
    · exact w.out p hp
    · rw [List.mem_singleton.mp hp]; exact hM
  · rcases List.mem_append.mp hp with hp | hp
    · rw [MS.put_ne (hne p hp)]; exact w.has p hp
    · rw [List.mem_singleton.mp hp]; exact MS.put_same
theorem Own.get {M N : MS} {l : List (Addr × MO)} {a : Addr} {o : MO} (w : Own M N l) (i : Nat) (h : l[i]? = some (a, o)) : N a = some o := w.has (a, o) (List.mem_of_getElem? h)
theorem Own.set {M N : MS} {l : List (Addr × MO)} {a : Addr} {o o' : MO} (w : Own M N l) (i : Nat) (h : l[i]? = some (a, o)) : Own M (N.put a o') (l.set i (a, o')) := by
  obtain ⟨hi, hg⟩ := List.getElem?_eq_some_iff.mp h
  have hmem : ∀ p ∈ l.set i (a, o'), p = (a, o') ∨ (p ∈ l ∧ p.1 ≠ a) := fun p hp => by
    obtain ⟨j, hj, rfl⟩ := List.getElem_of_mem hp
    rw [List.length_set] at hj
    rw [List.getElem_set]
    split
    · exact .inl rfl
    · rename_i hij
      refine .inr ⟨List.getElem_mem hj, fun e => hij ?_⟩
      have hi' : i < (l.map (·.1)).length := by rw [List.length_map]; exact hi
      have hj' : j < (l.map (·.1)).length := by rw [List.length_map]; exact hj
      exact (List.getElem_inj (h₀ := hi') (h₁ := hj') w.nd).mp (by rw [List.getElem_map, List.getElem_map, hg, e])
  have hm : (l.set i (a, o')).map (·.1) = l.map (·.1) := by
    refine List.ext_getElem (by simp) fun j h1 h2 => ?_
    rw [List.getElem_map, List.getElem_map, List.getElem_set]
    split
    · rename_i e; subst e; rw [hg]
    · rfl
  refine ⟨fun b u e => ?_, by rw [hm]; exact w.nd, fun p hp => ?_, fun p hp => ?_⟩
  · have hb : b ≠ a := fun z => by
      have := w.out _ (List.mem_of_getElem? h)
      rw [z] at e; rw [this] at e; cases e
    rw [MS.put_ne hb]; exact w.sub b u e
  · rcases hmem p hp with rfl | ⟨hp, _⟩
    · exact w.out (a, o) (List.mem_of_getElem? h)
    · exact w.out p hp
  · rcases hmem p hp with rfl | ⟨hp, hne⟩
    · exact MS.put_same
    · rw [MS.put_ne hne]; exact w.has p hp
/-! ## steps over shelves -/
section
variable {N : MS} {a : Addr} {b m : Int} {n : Nm} {sh : List Int} {l : Option Int} {cs ss : List D} {Q : QD} {E : QE}
theorem newS {C : QD} (hb : b = 2 ∨ b = 3) (q : C .non (N.put a (shO none b [] [.dic [] []]))) : sp_Shelf__init [.cell a, .int b] (N.put a (.ins "Shelf" [] [])) C E :=
  ⟨a, b, "Shelf", rfl, hb, .inl rfl, MS.put_same, by rw [MS.put_put]; exact q⟩
theorem newT {C : QD} (hb : b = 2 ∨ b = 3) (hm : 0 ≤ m) (q : C .non (N.put a (shO (some m) b [] [.dic [] []]))) : sp_SmallShelf__init [.cell a, .int b, .int m] (N.put a (.ins "SmallShelf" [] [])) C E :=
  ⟨a, b, m, rfl, hb, hm, MS.put_same, by rw [MS.put_put]; exact q⟩
theorem mkB {C : QD} (ok : OkNm b n) (q : C .non (N.put a (.ins "Book" ["radix", "kept"] [.int b, kNm n]))) : sp_Book__init [.cell a, .int b, dNm n] (N.put a (.ins "Book" [] [])) C E :=
  ⟨a, b, n, rfl, ok, MS.put_same, by rw [MS.put_put]; exact q⟩
theorem mkT {C : QD} (hs : sh.length = n.length) (hn : n.length ≤ 100) (q : C .non (N.put a (.ins "Table" ["told_by", "parts"] [bookD b n, .tup (sh.map D.int)]))) : sp_Table__init [.cell a, bookD b n, .lst (sh.map D.int)] (N.put a (.ins "Table" [] [])) C E :=
  ⟨a, b, n, sh, rfl, hs, hn, MS.put_same, by rw [MS.put_put]; exact q⟩
theorem mkTB {env : En} {i : Nat} {tn ts : DE} (h0 : env[i]? = some (some (.int b))) (ok : OkNm b n) (hs : sh.length = n.length) (hn : ∀ Q E, Q (dNm n) N → tn env N Q E) (hsh : ∀ Q E, Q (.lst (sh.map D.int)) N → ts env N Q E) (q : Q (tableD b n sh) N) :
    dMake "Table" 3 sp_Table__init (dCons (dMake "Book" 3 sp_Book__init (dCons (dVar i) (dCons tn dNil))) (dCons ts dNil)) env N Q E := by
  simp only [dNeg, sRet, sSeq, sAsg, sDrop, sIf, sNext, sSetLc, sFor, sFldD, sAug, sPar, sSub, sRetN, dAndV, dOrV, dNotV, dAnd, dOr, dNot, dB, dTru, dIf, dOp, dCall, dCallF, dMeth, dProp, dFld, dMake, dMakeC, dCons, dNil, dStar, dTup, dLst, dNew, dVar, dFrz, dC, dSlice, dPart, dNoPart, dMt, dLc, dYes, iLst, iTupD, iRngD1, iRngD2, iEnumD, iZipD, rF, dTg, startD, wipeD, setMany, List.map, List.set, List.length_cons, List.length_nil, List.replicate, List.append, List.cons_append, List.nil_append, List.append_nil, List.getElem?_cons_zero, List.getElem?_cons_succ, Nat.reduceAdd, Nat.reduceSub, Nat.sub_self, Nat.zero_add, Option.some.injEq, exists_eq_left, exists_eq_left', exists_eq_right, List.cons.injEq, and_true, true_and, if_true, if_false, Bool.false_eq_true, Bool.not_true, Bool.not_false, D.bl.injEq, D.int.injEq, D.cell.injEq, reduceCtorEq, false_and, and_false, exists_false, or_false, false_or, exists_and_left, exists_and_right]
  refine ⟨_, h0, hn _ _ (fun c hc => mkB ok ⟨rfl, _, MS.put_same, ?_⟩)⟩
  rw [MS.del_put hc]
  refine hsh _ _ (fun c hc => mkT hs ok.len ⟨rfl, _, MS.put_same, ?_⟩)
  rw [MS.del_put hc]
  exact q
theorem putS {ks : List Key} {vs : List D} {x : Str} (ss : List D) (ks' : List Key) (vs' : List D) (hM : N a = some (shO l b cs (ss ++ [.dic ks vs]))) (hx : okName x) (h1 : cs.length < 900) (h2 : ss.length < 900) (h3 : ks.length < 900) (hb : b = 2 ∨ b = 3) (hl : l = none ∨ ∃ m, l = some m ∧ 0 ≤ m ∧ n = [] ∧ sh = [])
    (hk : kput ks (.inr x) = ks') (hv : dput ks vs (.inr x) (tableD b n sh) = vs') (q : Q .non (N.put a (shO l b (cs ++ [putC (.str x) (tableD b n sh)]) (ss ++ [.dic ks vs] ++ [.dic ks' vs'])))) : sp_Shelf_put [.cell a, .str x, tableD b n sh] N Q E := by
  subst hk; subst hv
  exact ⟨a, l, b, cs, ss, ks, vs, x, n, sh, rfl, hx, hM, h1, h2, h3, hb, hl, q⟩
end
theorem okN_a : okName "a" := ⟨97, rfl, by decide, by decide⟩
theorem okN_b : okName "b" := ⟨98, rfl, by decide, by decide⟩
theorem okN_c : okName "c" := ⟨99, rfl, by decide, by decide⟩
theorem okN_z : okName "z" := ⟨122, rfl, by decide, by decide⟩
theorem okNil {b : Int} (hb : b = 2 ∨ b = 3) : OkNm b [] := ⟨hb, by decide, fun _ h => (List.not_mem_nil h).elim, List.nodup_nil, fun _ h => (List.not_mem_nil h).elim, fun _ h => (List.not_mem_nil h).elim⟩
def voidB (b : Int) : Blk := List.replicate b.toNat (List.replicate b.toNat [])
theorem okZ {b : Int} (hb : b = 2 ∨ b = 3) : OkNm b [("z", 0, voidB b)] := by
  have hl : ((b.toNat : Nat) : Int) = b := by omega
  refine ⟨hb, by simp, fun x hx => ?_, by simp, fun x hx => ?_, fun x hx l hl f hf => ?_⟩
  · rw [List.mem_singleton.mp hx]; exact okN_z
  · rw [List.mem_singleton.mp hx]
    refine ⟨by unfold voidB; rw [List.length_replicate]; exact hl, fun l h => ?_⟩
    unfold voidB at h
    rw [List.eq_of_mem_replicate h, List.length_replicate]; exact hl
  · rw [List.mem_singleton.mp hx] at hl
    unfold voidB at hl
    rw [List.eq_of_mem_replicate hl] at hf
    rw [List.eq_of_mem_replicate hf]
    exact ⟨by decide, fun p hp => by cases hp⟩

theorem eqA {b : Int} {n n' : Nm} {s s' : List Int} {x x' : Str} {r : Bool} (h : EqT obT 38 (tableD b n s) (tableD b n' s') r) : Pw (EqT obT 39) [putC (.str x) (tableD b n s)] [putC (.str x') (tableD b n' s')] (decide (x = x') && r) := by
  refine ⟨_, eq_put h, ?_⟩
  cases (decide (x = x') && r) with
  | true => rw [if_pos rfl]; rfl
  | false => rw [if_neg Bool.false_ne_true]
/-- shelf.put(title, table) -/
theorem put_tb {R : MS → Prop} {N : MS} {a : Addr} {b : Int} {n : Nm} {sh : List Int} {l : Option Int} {cs : List D} {E : QE} {env : En} {i : Nat} {ks : List Key} {vs : List D} {x : Str} {tt : DE} (ss : List D) (ks' : List Key) (vs' : List D) (hi : env[i]? = some (some (.cell a))) (hM : N a = some (shO l b cs (ss ++ [.dic ks vs]))) (hx : okName x) (h1 : cs.length < 900) (h2 : ss.length < 900) (h3 : ks.length < 900) (hb : b = 2 ∨ b = 3) (hl : l = none ∨ ∃ m, l = some m ∧ 0 ≤ m ∧ n = [] ∧ sh = [])
    (hk : kput ks (.inr x) = ks') (hv : dput ks vs (.inr x) (tableD b n sh) = vs') (arg : ∀ Q E, Q (tableD b n sh) N → tt env N Q E) (q : R (N.put a (shO l b (cs ++ [putC (.str x) (tableD b n sh)]) (ss ++ [.dic ks vs] ++ [.dic ks' vs'])))) :
    dOrE (dMeth "Shelf" "put" 3 sp_Shelf_put (dVar i) (dCons (dC (.str x)) (dCons tt dNil))) (dMeth "SmallShelf" "put" 3 sp_Shelf_put (dVar i) (dCons (dC (.str x)) (dCons tt dNil))) env N (fun _ M1 => R M1) E := by
  refine or_sh hi hM (by decide) ?_
  simp only [dNeg, sRet, sSeq, sAsg, sDrop, sIf, sNext, sSetLc, sFor, sFldD, sAug, sPar, sSub, sRetN, dAndV, dOrV, dNotV, dAnd, dOr, dNot, dB, dTru, dIf, dOp, dCall, dCallF, dMeth, dProp, dFld, dMake, dMakeC, dCons, dNil, dStar, dTup, dLst, dNew, dVar, dFrz, dC, dSlice, dPart, dNoPart, dMt, dLc, dYes, iLst, iTupD, iRngD1, iRngD2, iEnumD, iZipD, rF, dTg, startD, wipeD, setMany, List.map, List.set, List.length_cons, List.length_nil, List.replicate, List.append, List.cons_append, List.nil_append, List.append_nil, List.getElem?_cons_zero, List.getElem?_cons_succ, Nat.reduceAdd, Nat.reduceSub, Nat.sub_self, Nat.zero_add, Option.some.injEq, exists_eq_left, exists_eq_left', exists_eq_right, List.cons.injEq, and_true, true_and, if_true, if_false, Bool.false_eq_true, Bool.not_true, Bool.not_false, D.bl.injEq, D.int.injEq, D.cell.injEq, reduceCtorEq, false_and, and_false, exists_false, or_false, false_or, exists_and_left, exists_and_right]
  exact arg _ _ (putS (Q := fun _ M1 => R M1) ss ks' vs' hM hx h1 h2 h3 hb hl hk hv q)
theorem r_L_others_right {G : Gx} : Reads (t_L_others_right G) N_L_others_right 1 sp_L_others_right := by
  rintro ds M Q E hl ⟨b, rfl, hb, q⟩
  have okE := okNil hb
  have tE : ∀ {N : MS} {env : En} Q E, env[0]? = some (some (.int b)) → Q (tableD b [] []) N → dMake "Table" 3 sp_Table__init (dCons (dMake "Book" 3 sp_Book__init (dCons (dVar 0) (dCons (dLst dNil) dNil))) (dCons (dLst dNil) dNil)) env N Q E :=
    fun Q E h q => mkTB (n := []) (sh := []) h okE rfl (fun Q E q => ⟨by decide, q⟩) (fun Q E q => ⟨by decide, q⟩) q
  unfold t_L_others_right
  simp only [dNeg, sRet, sSeq, sAsg, sDrop, sIf, sNext, sSetLc, sFor, sFldD, sAug, sPar, sSub, sRetN, dAndV, dOrV, dNotV, dAnd, dOr, dNot, dB, dTru, dIf, dOp, dCall, dCallF, dMeth, dProp, dFld, dMake, dMakeC, dCons, dNil, dStar, dTup, dLst, dNew, dVar, dFrz, dC, dSlice, dPart, dNoPart, dMt, dLc, dYes, iLst, iTupD, iRngD1, iRngD2, iEnumD, iZipD, rF, dTg, startD, wipeD, setMany, List.map, List.set, List.length_cons, List.length_nil, List.replicate, List.append, List.cons_append, List.nil_append, List.append_nil, List.getElem?_cons_zero, List.getElem?_cons_succ, Nat.reduceAdd, Nat.reduceSub, Nat.sub_self, Nat.zero_add, Option.some.injEq, exists_eq_left, exists_eq_left', exists_eq_right, List.cons.injEq, and_true, true_and, if_true, if_false, Bool.false_eq_true, Bool.not_true, Bool.not_false, D.bl.injEq, D.int.injEq, D.cell.injEq, reduceCtorEq, false_and, and_false, exists_false, or_false, false_or, exists_and_left, exists_and_right]
  refine ⟨by omega, by omega, by rw [upto_len]; omega, ?_⟩
  refine lcM (fun (i : Nat) => D.int (0 + (i : Int))) (fun _ => dRow (List.replicate b.toNat [])) trivial (List.range b.toNat) (fun x hx K k => ?_) ?_
  · simp only [dNeg, sRet, sSeq, sAsg, sDrop, sIf, sNext, sSetLc, sFor, sFldD, sAug, sPar, sSub, sRetN, dAndV, dOrV, dNotV, dAnd, dOr, dNot, dB, dTru, dIf, dOp, dCall, dCallF, dMeth, dProp, dFld, dMake, dMakeC, dCons, dNil, dStar, dTup, dLst, dNew, dVar, dFrz, dC, dSlice, dPart, dNoPart, dMt, dLc, dYes, iLst, iTupD, iRngD1, iRngD2, iEnumD, iZipD, rF, dTg, startD, wipeD, setMany, List.map, List.set, List.length_cons, List.length_nil, List.replicate, List.append, List.cons_append, List.nil_append, List.append_nil, List.getElem?_cons_zero, List.getElem?_cons_succ, Nat.reduceAdd, Nat.reduceSub, Nat.sub_self, Nat.zero_add, Option.some.injEq, exists_eq_left, exists_eq_left', exists_eq_right, List.cons.injEq, and_true, true_and, if_true, if_false, Bool.false_eq_true, Bool.not_true, Bool.not_false, D.bl.injEq, D.int.injEq, D.cell.injEq, reduceCtorEq, false_and, and_false, exists_false, or_false, false_or, exists_and_left, exists_and_right]
    refine ⟨by omega, by omega, by rw [upto_len]; omega, ?_⟩
    refine lcM (fun (i : Nat) => D.int (0 + (i : Int))) (fun _ => dPane []) trivial (List.range b.toNat) (fun x hx K k => ?_) ?_
    · simp only [dNeg, sRet, sSeq, sAsg, sDrop, sIf, sNext, sSetLc, sFor, sFldD, sAug, sPar, sSub, sRetN, dAndV, dOrV, dNotV, dAnd, dOr, dNot, dB, dTru, dIf, dOp, dCall, dCallF, dMeth, dProp, dFld, dMake, dMakeC, dCons, dNil, dStar, dTup, dLst, dNew, dVar, dFrz, dC, dSlice, dPart, dNoPart, dMt, dLc, dYes, iLst, iTupD, iRngD1, iRngD2, iEnumD, iZipD, rF, dTg, startD, wipeD, setMany, List.map, List.set, List.length_cons, List.length_nil, List.replicate, List.append, List.cons_append, List.nil_append, List.append_nil, List.getElem?_cons_zero, List.getElem?_cons_succ, Nat.reduceAdd, Nat.reduceSub, Nat.sub_self, Nat.zero_add, Option.some.injEq, exists_eq_left, exists_eq_left', exists_eq_right, List.cons.injEq, and_true, true_and, if_true, if_false, Bool.false_eq_true, Bool.not_true, Bool.not_false, D.bl.injEq, D.int.injEq, D.cell.injEq, reduceCtorEq, false_and, and_false, exists_false, or_false, false_or, exists_and_left, exists_and_right]
      exact ⟨by decide, k⟩
    · have e : (List.range b.toNat).map (fun _ => dPane []) = (List.replicate b.toNat []).map dPane := by rw [List.map_const', List.length_range, List.map_replicate]
      rw [e]
      exact k
  have e : (List.range b.toNat).map (fun _ => dRow (List.replicate b.toNat [])) = (voidB b).map dRow := by rw [List.map_const', List.length_range]; unfold voidB; rw [List.map_replicate]
  rw [e]
  intro p0 h0
  have w := (Own.nil M).new (o := shO none b [] [.dic [] []]) h0
  refine newS hb ⟨rfl, ?_⟩
  intro p1 h1
  have w := w.new (o := shO none b [] [.dic [] []]) h1
  refine newS hb ⟨rfl, ?_⟩
  intro p2 h2
  have w := w.new (o := shO none b [] [.dic [] []]) h2
  refine newS hb ⟨rfl, ?_⟩
  refine put_tb (N := _) [] [.inr "a"] [tableD b [] []] rfl (w.get 0 rfl) okN_a (by decide) (by decide) (by decide) hb (.inl rfl) rfl rfl (fun Q E q => tE Q E rfl q) ?_
  have w := w.set (o' := shO none b ([] ++ [putC (.str "a") (tableD b [] [])]) ([] ++ [.dic [] []] ++ [.dic [.inr "a"] [tableD b [] []]])) 0 rfl
  generalize MS.put _ p0 _ = N at w ⊢
  refine put_tb (n := [("z", 0, voidB b)]) (sh := [1]) [] [.inr "a"] [tableD b [("z", 0, voidB b)] [1]] rfl (w.get 1 rfl) okN_a (by decide) (by decide) (by decide) hb (.inl rfl) rfl rfl (fun Q E q => mkTB (n := [("z", 0, voidB b)]) (sh := [1]) rfl (okZ hb) rfl (fun Q E q => ?_) (fun Q E q => ⟨by decide, q⟩) q) ?_
  · simp only [dNeg, sRet, sSeq, sAsg, sDrop, sIf, sNext, sSetLc, sFor, sFldD, sAug, sPar, sSub, sRetN, dAndV, dOrV, dNotV, dAnd, dOr, dNot, dB, dTru, dIf, dOp, dCall, dCallF, dMeth, dProp, dFld, dMake, dMakeC, dCons, dNil, dStar, dTup, dLst, dNew, dVar, dFrz, dC, dSlice, dPart, dNoPart, dMt, dLc, dYes, iLst, iTupD, iRngD1, iRngD2, iEnumD, iZipD, rF, dTg, startD, wipeD, setMany, List.map, List.set, List.length_cons, List.length_nil, List.replicate, List.append, List.cons_append, List.nil_append, List.append_nil, List.getElem?_cons_zero, List.getElem?_cons_succ, Nat.reduceAdd, Nat.reduceSub, Nat.sub_self, Nat.zero_add, Option.some.injEq, exists_eq_left, exists_eq_left', exists_eq_right, List.cons.injEq, and_true, true_and, if_true, if_false, Bool.false_eq_true, Bool.not_true, Bool.not_false, D.bl.injEq, D.int.injEq, D.cell.injEq, reduceCtorEq, false_and, and_false, exists_false, or_false, false_or, exists_and_left, exists_and_right]
    exact ⟨by decide, by decide, q⟩
  have w := w.set (o' := shO none b ([] ++ [putC (.str "a") (tableD b [("z", 0, voidB b)] [1])]) ([] ++ [.dic [] []] ++ [.dic [.inr "a"] [tableD b [("z", 0, voidB b)] [1]]])) 1 rfl
  generalize MS.put _ p1 _ = N at w ⊢
  refine put_tb (N := _) [] [.inr "c"] [tableD b [] []] rfl (w.get 2 rfl) okN_c (by decide) (by decide) (by decide) hb (.inl rfl) rfl rfl (fun Q E q => tE Q E rfl q) ?_
  have w := w.set (o' := shO none b ([] ++ [putC (.str "c") (tableD b [] [])]) ([] ++ [.dic [] []] ++ [.dic [.inr "c"] [tableD b [] []]])) 2 rfl
  generalize MS.put _ p2 _ = N at w ⊢
  have hz : EqT ob0 20 (kNm []) (kNm [("z", 0, voidB b)]) false := .inr (.inr (.inl ⟨_, _, rfl, rfl, rfl⟩))
  have hs1 : EqT ob0 20 (.tup (([] : List Int).map D.int)) (.tup (([1] : List Int).map D.int)) false := .inr (.inr (.inl ⟨_, _, rfl, rfl, rfl⟩))
  refine eq_SS (w.get 0 rfl) (w.get 1 rfl) (.inr ⟨rfl, eqA (eq_tbl hz hs1)⟩) ⟨_, rfl, ?_⟩
  rw [if_neg (by decide)]
  refine eq_SS (w.get 0 rfl) (w.get 2 rfl) (.inr ⟨rfl, eqA eq_tblR⟩) ⟨_, rfl, ?_⟩
  rw [if_neg (by decide)]
  intro p3 h3
  have w := w.new (o := shO (some 9) b [] [.dic [] []]) h3
  refine newT hb (by decide) ⟨rfl, ?_⟩
  intro p4 h4
  have w := w.new (o := shO none b [] [.dic [] []]) h4
  refine newS hb ⟨rfl, ?_⟩
  generalize MS.put _ p4 _ = N at w ⊢
  unfold dMakeKC
  simp only [dNeg, sRet, sSeq, sAsg, sDrop, sIf, sNext, sSetLc, sFor, sFldD, sAug, sPar, sSub, sRetN, dAndV, dOrV, dNotV, dAnd, dOr, dNot, dB, dTru, dIf, dOp, dCall, dCallF, dMeth, dProp, dFld, dMake, dMakeC, dCons, dNil, dStar, dTup, dLst, dNew, dVar, dFrz, dC, dSlice, dPart, dNoPart, dMt, dLc, dYes, iLst, iTupD, iRngD1, iRngD2, iEnumD, iZipD, rF, dTg, startD, wipeD, setMany, List.map, List.set, List.length_cons, List.length_nil, List.replicate, List.append, List.cons_append, List.nil_append, List.append_nil, List.getElem?_cons_zero, List.getElem?_cons_succ, Nat.reduceAdd, Nat.reduceSub, Nat.sub_self, Nat.zero_add, Option.some.injEq, exists_eq_left, exists_eq_left', exists_eq_right, List.cons.injEq, and_true, true_and, if_true, if_false, Bool.false_eq_true, Bool.not_true, Bool.not_false, D.bl.injEq, D.int.injEq, D.cell.injEq, reduceCtorEq, false_and, and_false, exists_false, or_false, false_or, exists_and_left, exists_and_right]
  refine ⟨rfl, fun p5 h5 => ?_⟩
  have w := w.new (o := shO (some 9) b [] [.dic [] []]) h5
  refine newT hb (by decide) ⟨rfl, ?_⟩
  generalize MS.put _ p5 _ = N at w ⊢
  refine eq_TT (w.get 3 rfl) (w.get 5 rfl) (.inr ⟨rfl, rfl⟩) ⟨true, rfl, ?_⟩
  rw [if_neg (by decide)]
  refine eq_TT (w.get 3 rfl) (w.get 4 rfl) (.inl ⟨by simp, rfl⟩) ⟨false, rfl, ?_⟩
  rw [if_neg (by decide)]
  refine eq_B (w.get 4 rfl) (w.get 3 rfl) ⟨false, rfl, ?_⟩
  rw [if_neg (by decide)]
  refine ⟨_, _, rfl, ty_some (w.get 3 rfl), by decide, true, rfl, ?_⟩
  rw [if_neg (by decide)]
  intro p6 h6
  have w := w.new (o := shO (some 8) b [] [.dic [] []]) h6
  refine newT hb (by decide) ⟨rfl, ?_⟩
  generalize MS.put _ p6 _ = N at w ⊢
  refine eq_TT (w.get 3 rfl) (w.get 6 rfl) (.inl ⟨by simp, rfl⟩) ⟨false, rfl, ?_⟩
  rw [if_neg (by decide)]
  intro p7 h7
  have w := w.new (o := shO (some 9) b [] [.dic [] []]) h7
  refine newT hb (by decide) ⟨rfl, ?_⟩
  generalize MS.put _ p7 _ = N at w ⊢
  refine put_tb (n := []) (sh := []) [] [.inr "a"] [tableD b [] []] rfl (w.get 3 rfl) okN_a (by decide) (by decide) (by decide) hb (.inr ⟨9, rfl, by decide, rfl, rfl⟩) rfl rfl (fun Q E q => tE Q E rfl q) ?_
  have w := w.set (o' := shO (some 9) b ([] ++ [putC (.str "a") (tableD b [] [])]) ([] ++ [.dic [] []] ++ [.dic [.inr "a"] [tableD b [] []]])) 3 rfl
  generalize MS.put _ p3 _ = N at w ⊢
  refine eq_TT (w.get 3 rfl) (w.get 7 rfl) (.inr ⟨rfl, rfl⟩) ⟨false, rfl, ?_⟩
  rw [if_neg (by decide)]
  refine put_tb (n := []) (sh := []) [] [.inr "a"] [tableD b [] []] rfl (w.get 7 rfl) okN_a (by decide) (by decide) (by decide) hb (.inr ⟨9, rfl, by decide, rfl, rfl⟩) rfl rfl (fun Q E q => tE Q E rfl q) ?_
  have w := w.set (o' := shO (some 9) b ([] ++ [putC (.str "a") (tableD b [] [])]) ([] ++ [.dic [] []] ++ [.dic [.inr "a"] [tableD b [] []]])) 7 rfl
  generalize MS.put _ p7 _ = N at w ⊢
  refine eq_TT (w.get 3 rfl) (w.get 7 rfl) (.inr ⟨rfl, eqA eq_tblR⟩) ⟨true, rfl, ?_⟩
  rw [if_pos rfl]
  refine eq_TT (w.get 3 rfl) (w.get 0 rfl) (.inl ⟨by simp, rfl⟩) ⟨false, rfl, ?_⟩
  exact ⟨M, w.sub, q⟩
theorem r_L_right : Reads t_L_right N_L_right 1 sp_L_right := by
  rintro ds M Q E hl ⟨a, K, o, rfl, hM, hp, hK, q⟩
  unfold t_L_right
  simp only [dNeg, sRet, sSeq, sAsg, sDrop, sIf, sNext, sSetLc, sFor, sFldD, sAug, sPar, sSub, sRetN, dAndV, dOrV, dNotV, dAnd, dOr, dNot, dB, dTru, dIf, dOp, dCall, dCallF, dMeth, dProp, dFld, dMake, dMakeC, dCons, dNil, dStar, dTup, dLst, dNew, dVar, dFrz, dC, dSlice, dPart, dNoPart, dMt, dLc, dYes, iLst, iTupD, iRngD1, iRngD2, iEnumD, iZipD, rF, dTg, startD, wipeD, setMany, List.map, List.set, List.length_cons, List.length_nil, List.replicate, List.append, List.cons_append, List.nil_append, List.append_nil, List.getElem?_cons_zero, List.getElem?_cons_succ, Nat.reduceAdd, Nat.reduceSub, Nat.sub_self, Nat.zero_add, Option.some.injEq, exists_eq_left, exists_eq_left', exists_eq_right, List.cons.injEq, and_true, true_and, if_true, if_false, Bool.false_eq_true, Bool.not_true, Bool.not_false, D.bl.injEq, D.int.injEq, D.cell.injEq, reduceCtorEq, false_and, and_false, exists_false, or_false, false_or, exists_and_left, exists_and_right]
  refine draw_at hM hp (by omega) (by decide) (by decide) fun r1 o1 a1 b1 p1 => r_addI ?_
  have hb : 2 + r1 = 2 ∨ 2 + r1 = 3 := by omega
  generalize 2 + r1 = b at hb ⊢
  refine ⟨a, b, K + 1, o1, rfl, hb, MS.put_same, p1, by omega, fun n sh o2 ok hs hn p2 => ?_⟩
  rw [MS.put_put]
  have hb' : 5 - b = 2 ∨ 5 - b = 3 := by omega
  have q2 := q o2 (p2.le (by omega))
  generalize M.put a o2 = M1 at q2 ⊢
  clear q hp hM p1 p2
  show ∀ a_1, _
  intro p0 h0
  have w := (Own.nil M1).new (o := shO none b [] [.dic [] []]) h0
  refine newS hb ⟨rfl, ?_⟩
  unfold dMakeKC
  simp only [dNeg, sRet, sSeq, sAsg, sDrop, sIf, sNext, sSetLc, sFor, sFldD, sAug, sPar, sSub, sRetN, dAndV, dOrV, dNotV, dAnd, dOr, dNot, dB, dTru, dIf, dOp, dCall, dCallF, dMeth, dProp, dFld, dMake, dMakeC, dCons, dNil, dStar, dTup, dLst, dNew, dVar, dFrz, dC, dSlice, dPart, dNoPart, dMt, dLc, dYes, iLst, iTupD, iRngD1, iRngD2, iEnumD, iZipD, rF, dTg, startD, wipeD, setMany, List.map, List.set, List.length_cons, List.length_nil, List.replicate, List.append, List.cons_append, List.nil_append, List.append_nil, List.getElem?_cons_zero, List.getElem?_cons_succ, Nat.reduceAdd, Nat.reduceSub, Nat.sub_self, Nat.zero_add, Option.some.injEq, exists_eq_left, exists_eq_left', exists_eq_right, List.cons.injEq, and_true, true_and, if_true, if_false, Bool.false_eq_true, Bool.not_true, Bool.not_false, D.bl.injEq, D.int.injEq, D.cell.injEq, reduceCtorEq, false_and, and_false, exists_false, or_false, false_or, exists_and_left, exists_and_right]
  refine ⟨rfl, fun p1 h1 => ?_⟩
  have w := w.new (o := shO none b [] [.dic [] []]) h1
  refine newS hb ⟨rfl, by decide, _, rfl, rfl, ?_⟩
  generalize MS.put _ p1 _ = N at w ⊢
  simp only [dNeg, sRet, sSeq, sAsg, sDrop, sIf, sNext, sSetLc, sFor, sFldD, sAug, sPar, sSub, sRetN, dAndV, dOrV, dNotV, dAnd, dOr, dNot, dB, dTru, dIf, dOp, dCall, dCallF, dMeth, dProp, dFld, dMake, dMakeC, dCons, dNil, dStar, dTup, dLst, dNew, dVar, dFrz, dC, dSlice, dPart, dNoPart, dMt, dLc, dYes, iLst, iTupD, iRngD1, iRngD2, iEnumD, iZipD, rF, dTg, startD, wipeD, setMany, List.map, List.set, List.length_cons, List.length_nil, List.replicate, List.append, List.cons_append, List.nil_append, List.append_nil, List.getElem?_cons_zero, List.getElem?_cons_succ, Nat.reduceAdd, Nat.reduceSub, Nat.sub_self, Nat.zero_add, Option.some.injEq, exists_eq_left, exists_eq_left', exists_eq_right, List.cons.injEq, and_true, true_and, if_true, if_false, Bool.false_eq_true, Bool.not_true, Bool.not_false, D.bl.injEq, D.int.injEq, D.cell.injEq, reduceCtorEq, false_and, and_false, exists_false, or_false, false_or, exists_and_left, exists_and_right]
  refine eq_SS (w.get 0 rfl) (w.get 1 rfl) (.inr ⟨rfl, rfl⟩) ⟨true, rfl, ?_⟩
  rw [if_neg (by decide)]
  refine ne_SS (r := true) (w.get 0 rfl) (w.get 1 rfl) (.inr ⟨rfl, rfl⟩) ⟨_, rfl, ?_⟩
  rw [if_neg (by decide)]
  refine r_int trivial fun p2 h2 => ?_
  have w := w.new (o := shO none (5 - b) [] [.dic [] []]) h2
  refine newS hb' ⟨rfl, ?_⟩
  generalize MS.put _ p2 _ = N at w ⊢
  refine eq_SS (w.get 0 rfl) (w.get 2 rfl) (.inl ⟨by omega, rfl⟩) ⟨false, rfl, ?_⟩
  rw [if_neg (by decide)]
  have hsn : sh.length = n.length := hs
  have tE : ∀ {N : MS} {env : En} Q E, env[2]? = some (some (toldD b n sh)) → Q (tableD b n sh) N → dCallF 1 sp_L_table_made (dCons (dVar 2) dNil) env N Q E := fun Q E h q => by
    simp only [dNeg, sRet, sSeq, sAsg, sDrop, sIf, sNext, sSetLc, sFor, sFldD, sAug, sPar, sSub, sRetN, dAndV, dOrV, dNotV, dAnd, dOr, dNot, dB, dTru, dIf, dOp, dCall, dCallF, dMeth, dProp, dFld, dMake, dMakeC, dCons, dNil, dStar, dTup, dLst, dNew, dVar, dFrz, dC, dSlice, dPart, dNoPart, dMt, dLc, dYes, iLst, iTupD, iRngD1, iRngD2, iEnumD, iZipD, rF, dTg, startD, wipeD, setMany, List.map, List.set, List.length_cons, List.length_nil, List.replicate, List.append, List.cons_append, List.nil_append, List.append_nil, List.getElem?_cons_zero, List.getElem?_cons_succ, Nat.reduceAdd, Nat.reduceSub, Nat.sub_self, Nat.zero_add, Option.some.injEq, exists_eq_left, exists_eq_left', exists_eq_right, List.cons.injEq, and_true, true_and, if_true, if_false, Bool.false_eq_true, Bool.not_true, Bool.not_false, D.bl.injEq, D.int.injEq, D.cell.injEq, reduceCtorEq, false_and, and_false, exists_false, or_false, false_or, exists_and_left, exists_and_right]
    exact ⟨_, h, b, n, sh, rfl, ok, hs, q⟩
  refine put_tb [] [.inr "a"] [tableD b n sh] rfl (w.get 0 rfl) okN_a (by decide) (by decide) (by decide) hb (.inl rfl) rfl rfl (fun Q E q => tE Q E rfl q) ?_
  have w := w.set (o' := shO none b ([] ++ [putC (.str "a") (tableD b n sh)]) ([] ++ [.dic [] []] ++ [.dic [.inr "a"] [tableD b n sh]])) 0 rfl
  generalize MS.put _ p0 _ = N at w ⊢
  refine eq_SS (w.get 0 rfl) (w.get 1 rfl) (.inr ⟨rfl, rfl⟩) ⟨false, rfl, ?_⟩
  rw [if_neg (by decide)]
  refine eq_SS (w.get 1 rfl) (w.get 0 rfl) (.inr ⟨rfl, rfl⟩) ⟨false, rfl, ?_⟩
  rw [if_neg (by decide)]
  refine put_tb [] [.inr "a"] [tableD b n sh] rfl (w.get 1 rfl) okN_a (by decide) (by decide) (by decide) hb (.inl rfl) rfl rfl (fun Q E q => tE Q E rfl q) ?_
  have w := w.set (o' := shO none b ([] ++ [putC (.str "a") (tableD b n sh)]) ([] ++ [.dic [] []] ++ [.dic [.inr "a"] [tableD b n sh]])) 1 rfl
  generalize MS.put _ p1 _ = N at w ⊢
  refine eq_SS (w.get 0 rfl) (w.get 1 rfl) (.inr ⟨rfl, eqA eq_tblR⟩) ⟨true, rfl, ?_⟩
  rw [if_neg (by decide)]
  refine put_tb [.dic [] []] [.inr "a"] [tableD b n sh] rfl (w.get 1 rfl) okN_a (by simp) (by simp) (by simp) hb (.inl rfl) rfl rfl (fun Q E q => tE Q E rfl q) ?_
  have w := w.set (o' := shO none b ([] ++ [putC (.str "a") (tableD b n sh)] ++ [putC (.str "a") (tableD b n sh)]) ([.dic [] []] ++ [.dic [.inr "a"] [tableD b n sh]] ++ [.dic [.inr "a"] [tableD b n sh]])) 1 rfl
  generalize MS.put _ p1 _ = N at w ⊢
  refine eq_SS (w.get 0 rfl) (w.get 1 rfl) (r := false) (.inr ⟨rfl, _, eq_put (r := true) eq_tblR, by rw [if_pos (by decide)]; rfl⟩) ⟨false, rfl, ?_⟩
  rw [if_neg (by decide)]
  have st : ∀ (ys : List Str), ys.Perm ([("a" : Str)] : List Str) → ys = ([("a" : Str)] : List Str) := fun ys h => List.perm_singleton.mp h
  refine ⟨by rw [flds_cell (w.get 0 rfl) (by decide)]; rfl, p0, none, b, _, [.dic [] []], ["a"], _, rfl, w.get 0 rfl, by simp, fun ys h _ => ?_⟩
  rw [st ys h]
  refine ⟨by rw [flds_cell (w.get 1 rfl) (by decide)]; rfl, p1, none, b, _, [.dic [] []] ++ [.dic [.inr "a"] [tableD b n sh]], ["a"], _, rfl, w.get 1 rfl, by simp, fun ys h _ => ?_⟩
  rw [st ys h]
  refine .inr ⟨_, _, rfl, rfl, by decide +kernel, by decide +kernel, ?_⟩
  refine ⟨false, congrArg D.bl (by decide +kernel), ?_⟩
  rw [if_neg (by decide)]
  refine ⟨isCls_cell (w.get 1 rfl) (by decide), p1, none, b, [] ++ [putC (.str "a") (tableD b n sh)], _, [.dic [] []] ++ [.dic [.inr "a"] [tableD b n sh]], _, rfl, w.get 1 rfl, ?_⟩
  have w := w.set (o' := shO none b ([] ++ [putC (.str "a") (tableD b n sh)]) ([.dic [] []] ++ [.dic [.inr "a"] [tableD b n sh]])) 1 rfl
  generalize MS.put _ p1 _ = N at w ⊢
  refine put_tb [.dic [] []] [.inr "a", .inr "b"] [tableD b n sh, tableD b n sh] rfl (w.get 1 rfl) okN_b (by simp) (by simp) (by simp) hb (.inl rfl) rfl rfl (fun Q E q => tE Q E rfl q) ?_
  have w := w.set (o' := shO none b ([] ++ [putC (.str "a") (tableD b n sh)] ++ [putC (.str "b") (tableD b n sh)]) ([.dic [] []] ++ [.dic [.inr "a"] [tableD b n sh]] ++ [.dic [.inr "a", .inr "b"] [tableD b n sh, tableD b n sh]])) 1 rfl
  generalize MS.put _ p1 _ = N at w ⊢
  refine ⟨isCls_cell (w.get 1 rfl) (by decide), p1, none, b, _, [.dic [] []] ++ [.dic [.inr "a"] [tableD b n sh]], _, _, rfl, w.get 1 rfl, by simp, by simp, ?_⟩
  have w := w.set (o' := shO none b ([] ++ [putC (.str "a") (tableD b n sh)] ++ [putC (.str "b") (tableD b n sh)] ++ [dropC (.str "b")]) ([.dic [] []] ++ [.dic [.inr "a"] [tableD b n sh]] ++ [.dic [.inr "a", .inr "b"] [tableD b n sh, tableD b n sh]] ++ [.dic [.inr "a"] [tableD b n sh]])) 1 rfl
  generalize MS.put _ p1 _ = N at w ⊢
  refine eq_SS (w.get 0 rfl) (w.get 1 rfl) (r := false) (.inr ⟨rfl, _, eq_put (r := true) eq_tblR, by rw [if_pos (by decide)]; rfl⟩) ⟨false, rfl, ?_⟩
  rw [if_neg (by decide)]
  refine ⟨isCls_cell (w.get 1 rfl) (by decide), p1, none, b, [] ++ [putC (.str "a") (tableD b n sh)] ++ [putC (.str "b") (tableD b n sh)], _, [.dic [] []] ++ [.dic [.inr "a"] [tableD b n sh]] ++ [.dic [.inr "a", .inr "b"] [tableD b n sh, tableD b n sh]], _, rfl, w.get 1 rfl, ?_⟩
  have w := w.set (o' := shO none b ([] ++ [putC (.str "a") (tableD b n sh)] ++ [putC (.str "b") (tableD b n sh)]) ([.dic [] []] ++ [.dic [.inr "a"] [tableD b n sh]] ++ [.dic [.inr "a", .inr "b"] [tableD b n sh, tableD b n sh]])) 1 rfl
  generalize MS.put _ p1 _ = N at w ⊢
  refine ⟨isCls_cell (w.get 1 rfl) (by decide), p1, none, b, [] ++ [putC (.str "a") (tableD b n sh)], _, [.dic [] []] ++ [.dic [.inr "a"] [tableD b n sh]], _, rfl, w.get 1 rfl, ?_⟩
  have w := w.set (o' := shO none b ([] ++ [putC (.str "a") (tableD b n sh)]) ([.dic [] []] ++ [.dic [.inr "a"] [tableD b n sh]])) 1 rfl
  generalize MS.put _ p1 _ = N at w ⊢
  refine eq_SS (w.get 0 rfl) (w.get 1 rfl) (.inr ⟨rfl, eqA eq_tblR⟩) ⟨true, rfl, ?_⟩
  rw [if_neg (by decide)]
  refine ⟨b, rfl, hb, true, rfl, ?_⟩
  rw [if_neg (by decide)]
  refine ⟨isCls_cell (w.get 0 rfl) (by decide), p0, none, b, _, [.dic [] []], _, _, "a", _, rfl, w.get 0 rfl, rfl, ?_⟩
  refine ⟨by decide, by decide, _, rfl, by simp, ?_⟩
  refine lcT (f := fun _ => none) trivial _ _ (fun d hd Ks Kn k => ?_) ?_
  · simp only [dNeg, sRet, sSeq, sAsg, sDrop, sIf, sNext, sSetLc, sFor, sFldD, sAug, sPar, sSub, sRetN, dAndV, dOrV, dNotV, dAnd, dOr, dNot, dB, dTru, dIf, dOp, dCall, dCallF, dMeth, dProp, dFld, dMake, dMakeC, dCons, dNil, dStar, dTup, dLst, dNew, dVar, dFrz, dC, dSlice, dPart, dNoPart, dMt, dLc, dYes, iLst, iTupD, iRngD1, iRngD2, iEnumD, iZipD, rF, dTg, startD, wipeD, setMany, List.map, List.set, List.length_cons, List.length_nil, List.replicate, List.append, List.cons_append, List.nil_append, List.append_nil, List.getElem?_cons_zero, List.getElem?_cons_succ, Nat.reduceAdd, Nat.reduceSub, Nat.sub_self, Nat.zero_add, Option.some.injEq, exists_eq_left, exists_eq_left', exists_eq_right, List.cons.injEq, and_true, true_and, if_true, if_false, Bool.false_eq_true, Bool.not_true, Bool.not_false, D.bl.injEq, D.int.injEq, D.cell.injEq, reduceCtorEq, false_and, and_false, exists_false, or_false, false_or, exists_and_left, exists_and_right]
    have ok : ∃ t, tyD N d = some t ∧ okTy tyCs t = true ∧ isTy tySub "Shelf" t = false := by
      simp only [List.mem_cons, List.not_mem_nil, or_false] at hd
      rcases hd with rfl | rfl | rfl | rfl | rfl
      · exact ⟨_, rfl, by decide, by decide⟩
      · exact ⟨_, rfl, by decide, by decide⟩
      · exact ⟨_, rfl, by decide, by decide⟩
      · exact ⟨_, rfl, by decide, by decide⟩
      · exact ⟨_, rfl, by decide, by decide⟩
    obtain ⟨t, t1, t2, t3⟩ := ok
    refine eq_SX (w.get 0 rfl) t1 t2 t3 ⟨false, rfl, ?_⟩
    rw [if_neg (by decide)]
    exact k
  · have e : ∀ ds : List D, ds.filterMap (fun _ => (none : Option D)) = [] := fun ds => by induction ds with
      | nil => rfl
      | cons d ds ih => rw [List.filterMap_cons]; exact ih
    rw [e]
    refine ⟨by decide, ?_⟩
    show rEqualD (.lst []) (.lst []) N (lessQ Q)
    exact r_eqNil rfl ⟨M1, w.sub, q2⟩
def sp_law : DSp := fun ds M Q E => ∃ ns : List Int, ds = [.ro (ns.map D.int)] ∧ ns.length ≤ 63 ∧ Q (.bl true) M
theorem law_turns {D' : EndD} {e0 e1 : Option D} {p : Addr} {M : MS} : ∀ (ds : List D) (K : Int) (o : MO) (e3 : Option D), PoolM K o → K + 2000 * ds.length < KM →
    (∀ o' e3, D'.nx [e0, e1, some (.cell p), e3] (M.put p o')) → forTurns (.nm 3) b_law_0 D' always ds [e0, e1, some (.cell p), e3] (M.put p o)
  | [], K, o, e3, hp, hK, q => ⟨trivial, q o e3⟩
  | d :: ds, K, o, e3, hp, hK, q => by
    rw [List.length_cons] at hK
    simp only [forTurns]
    refine ⟨trivial, ?_⟩
    have nx := fun o' (pp : PoolM (K + 2000) o') e3 => law_turns (D' := D') (e0 := e0) (e1 := e1) (p := p) (M := M) ds (K + 2000) o' e3 pp (by omega) q
    generalize forTurns (.nm 3) b_law_0 D' always ds = Kn at nx ⊢
    simp only [dNeg, sRet, sSeq, sAsg, sDrop, sIf, sNext, sSetLc, sFor, sFldD, sAug, sPar, sSub, sRetN, dAndV, dOrV, dNotV, dAnd, dOr, dNot, dB, dTru, dIf, dOp, dCall, dCallF, dMeth, dProp, dFld, dMake, dMakeC, dCons, dNil, dStar, dTup, dLst, dNew, dVar, dFrz, dC, dSlice, dPart, dNoPart, dMt, dLc, dYes, iLst, iTupD, iRngD1, iRngD2, iEnumD, iZipD, rF, dTg, startD, wipeD, setMany, List.map, List.set, List.length_cons, List.length_nil, List.replicate, List.append, List.cons_append, List.nil_append, List.append_nil, List.getElem?_cons_zero, List.getElem?_cons_succ, Nat.reduceAdd, Nat.reduceSub, Nat.sub_self, Nat.zero_add, Option.some.injEq, exists_eq_left, exists_eq_left', exists_eq_right, List.cons.injEq, and_true, true_and, if_true, if_false, Bool.false_eq_true, Bool.not_true, Bool.not_false, D.bl.injEq, D.int.injEq, D.cell.injEq, reduceCtorEq, false_and, and_false, exists_false, or_false, false_or, exists_and_left, exists_and_right]
    unfold b_law_0
    simp only [dNeg, sRet, sSeq, sAsg, sDrop, sIf, sNext, sSetLc, sFor, sFldD, sAug, sPar, sSub, sRetN, dAndV, dOrV, dNotV, dAnd, dOr, dNot, dB, dTru, dIf, dOp, dCall, dCallF, dMeth, dProp, dFld, dMake, dMakeC, dCons, dNil, dStar, dTup, dLst, dNew, dVar, dFrz, dC, dSlice, dPart, dNoPart, dMt, dLc, dYes, iLst, iTupD, iRngD1, iRngD2, iEnumD, iZipD, rF, dTg, startD, wipeD, setMany, List.map, List.set, List.length_cons, List.length_nil, List.replicate, List.append, List.cons_append, List.nil_append, List.append_nil, List.getElem?_cons_zero, List.getElem?_cons_succ, Nat.reduceAdd, Nat.reduceSub, Nat.sub_self, Nat.zero_add, Option.some.injEq, exists_eq_left, exists_eq_left', exists_eq_right, List.cons.injEq, and_true, true_and, if_true, if_false, Bool.false_eq_true, Bool.not_true, Bool.not_false, D.bl.injEq, D.int.injEq, D.cell.injEq, reduceCtorEq, false_and, and_false, exists_false, or_false, false_or, exists_and_left, exists_and_right]
    refine ⟨p, K, o, rfl, MS.put_same, hp, by omega, fun o' pp => ⟨true, rfl, ?_⟩⟩
    rw [MS.put_put, if_neg (by decide)]
    exact nx o' pp _
theorem law_spots {D' : EndD} {ns : List Int} {M : MS} (hn : ns.length ≤ 63) : ∀ (ds : List D) (N : MS) (e1 e2 e3 : Option D), (∀ d ∈ ds, ∃ i : Int, d = .int i ∧ 0 ≤ i ∧ i ≤ 100) → Sub M N →
    (∀ N e1 e2 e3, Sub M N → D'.nx [some (.ro (ns.map D.int)), e1, e2, e3] N) → forTurns (.nm 1) b_law_1 D' always ds [some (.ro (ns.map D.int)), e1, e2, e3] N
  | [], N, e1, e2, e3, h, s, q => ⟨trivial, q N e1 e2 e3 s⟩
  | d :: ds, N, e1, e2, e3, h, s, q => by
    simp only [forTurns]
    refine ⟨trivial, ?_⟩
    have nx := fun N s e1 e2 e3 => law_spots (D' := D') hn ds N e1 e2 e3 (fun d hd => h d (List.mem_cons_of_mem _ hd)) s q
    obtain ⟨i, rfl, h0, h1⟩ := h d (List.mem_cons_self ..)
    generalize forTurns (.nm 1) b_law_1 D' always ds = Kn at nx ⊢
    simp only [dNeg, sRet, sSeq, sAsg, sDrop, sIf, sNext, sSetLc, sFor, sFldD, sAug, sPar, sSub, sRetN, dAndV, dOrV, dNotV, dAnd, dOr, dNot, dB, dTru, dIf, dOp, dCall, dCallF, dMeth, dProp, dFld, dMake, dMakeC, dCons, dNil, dStar, dTup, dLst, dNew, dVar, dFrz, dC, dSlice, dPart, dNoPart, dMt, dLc, dYes, iLst, iTupD, iRngD1, iRngD2, iEnumD, iZipD, rF, dTg, startD, wipeD, setMany, List.map, List.set, List.length_cons, List.length_nil, List.replicate, List.append, List.cons_append, List.nil_append, List.append_nil, List.getElem?_cons_zero, List.getElem?_cons_succ, Nat.reduceAdd, Nat.reduceSub, Nat.sub_self, Nat.zero_add, Option.some.injEq, exists_eq_left, exists_eq_left', exists_eq_right, List.cons.injEq, and_true, true_and, if_true, if_false, Bool.false_eq_true, Bool.not_true, Bool.not_false, D.bl.injEq, D.int.injEq, D.cell.injEq, reduceCtorEq, false_and, and_false, exists_false, or_false, false_or, exists_and_left, exists_and_right]
    unfold b_law_1
    simp only [dNeg, sRet, sSeq, sAsg, sDrop, sIf, sNext, sSetLc, sFor, sFldD, sAug, sPar, sSub, sRetN, dAndV, dOrV, dNotV, dAnd, dOr, dNot, dB, dTru, dIf, dOp, dCall, dCallF, dMeth, dProp, dFld, dMake, dMakeC, dCons, dNil, dStar, dTup, dLst, dNew, dVar, dFrz, dC, dSlice, dPart, dNoPart, dMt, dLc, dYes, iLst, iTupD, iRngD1, iRngD2, iEnumD, iZipD, rF, dTg, startD, wipeD, setMany, List.map, List.set, List.length_cons, List.length_nil, List.replicate, List.append, List.cons_append, List.nil_append, List.append_nil, List.getElem?_cons_zero, List.getElem?_cons_succ, Nat.reduceAdd, Nat.reduceSub, Nat.sub_self, Nat.zero_add, Option.some.injEq, exists_eq_left, exists_eq_left', exists_eq_right, List.cons.injEq, and_true, true_and, if_true, if_false, Bool.false_eq_true, Bool.not_true, Bool.not_false, D.bl.injEq, D.int.injEq, D.cell.injEq, reduceCtorEq, false_and, and_false, exists_false, or_false, false_or, exists_and_left, exists_and_right]
    refine ⟨ns, i, rfl, h0, h1, hn, fun p o hp po => ⟨by decide, by decide, ?_⟩⟩
    refine law_turns (upto 0 2) 0 o e3 po (by decide) fun o' e3 => ?_
    exact nx _ (s.trans (Sub.put hp)) _ _ _
theorem r_law : Reads t_law N_law 1 sp_law := by
  rintro ds M Q E hl ⟨ns, rfl, hn, q⟩
  unfold t_law
  simp only [dNeg, sRet, sSeq, sAsg, sDrop, sIf, sNext, sSetLc, sFor, sFldD, sAug, sPar, sSub, sRetN, dAndV, dOrV, dNotV, dAnd, dOr, dNot, dB, dTru, dIf, dOp, dCall, dCallF, dMeth, dProp, dFld, dMake, dMakeC, dCons, dNil, dStar, dTup, dLst, dNew, dVar, dFrz, dC, dSlice, dPart, dNoPart, dMt, dLc, dYes, iLst, iTupD, iRngD1, iRngD2, iEnumD, iZipD, rF, dTg, startD, wipeD, setMany, List.map, List.set, List.length_cons, List.length_nil, List.replicate, List.append, List.cons_append, List.nil_append, List.append_nil, List.getElem?_cons_zero, List.getElem?_cons_succ, Nat.reduceAdd, Nat.reduceSub, Nat.sub_self, Nat.zero_add, Option.some.injEq, exists_eq_left, exists_eq_left', exists_eq_right, List.cons.injEq, and_true, true_and, if_true, if_false, Bool.false_eq_true, Bool.not_true, Bool.not_false, D.bl.injEq, D.int.injEq, D.cell.injEq, reduceCtorEq, false_and, and_false, exists_false, or_false, false_or, exists_and_left, exists_and_right]
  refine r_lenL rfl ⟨_, _, rfl, _, _, rfl, _, rfl, ?_⟩
  rw [List.length_map]
  have go : ∀ j : Int, 0 ≤ j → j ≤ 63 → j ≤ 100000 ∧ -100000 ≤ j ∧ forTurns (.nm 1) b_law_1 { nx := sRet (dC (D.bl true)) { nx := fun x M' => lessQ Q D.non M', rt := lessQ Q, ex := fun x => lessE E }, rt := lessQ Q, ex := fun x => lessE E } always (upto 0 j.toNat) [some (D.ro (List.map D.int ns)), none, none, none] M := by
    intro j h0 h1
    refine ⟨by omega, by omega, law_spots hn _ M _ _ _ (fun d hd => ?_) (Sub.refl M) fun N e1 e2 e3 s => ?_⟩
    · unfold upto at hd
      obtain ⟨i, hi, rfl⟩ := List.mem_map.mp hd
      rw [List.mem_range] at hi
      exact ⟨_, rfl, by omega, by omega⟩
    · simp only [dNeg, sRet, sSeq, sAsg, sDrop, sIf, sNext, sSetLc, sFor, sFldD, sAug, sPar, sSub, sRetN, dAndV, dOrV, dNotV, dAnd, dOr, dNot, dB, dTru, dIf, dOp, dCall, dCallF, dMeth, dProp, dFld, dMake, dMakeC, dCons, dNil, dStar, dTup, dLst, dNew, dVar, dFrz, dC, dSlice, dPart, dNoPart, dMt, dLc, dYes, iLst, iTupD, iRngD1, iRngD2, iEnumD, iZipD, rF, dTg, startD, wipeD, setMany, List.map, List.set, List.length_cons, List.length_nil, List.replicate, List.append, List.cons_append, List.nil_append, List.append_nil, List.getElem?_cons_zero, List.getElem?_cons_succ, Nat.reduceAdd, Nat.reduceSub, Nat.sub_self, Nat.zero_add, Option.some.injEq, exists_eq_left, exists_eq_left', exists_eq_right, List.cons.injEq, and_true, true_and, if_true, if_false, Bool.false_eq_true, Bool.not_true, Bool.not_false, D.bl.injEq, D.int.injEq, D.cell.injEq, reduceCtorEq, false_and, and_false, exists_false, or_false, false_or, exists_and_left, exists_and_right]
      exact ⟨M, s, q⟩
  refine go _ ?_ ?_
  all_goals split <;> split <;> omega
end HD
namespace HD
open PySem PySem.Spec L2 NdefX
/-! ## == of books, tables -/
theorem obB_of {G : Gx} {f : Addr} (E : EqCls G 21 "Book" f sp_Book__eq) : ObOk G obB := by
  refine ⟨fun n c xs ys b h => ?_, fun n c xs ys b h X pins σ H s F vs hK I ex r1 r2 => ?_⟩
  · obtain ⟨rfl, hn, r, k, r', k', m, b', rfl, rfl, hm, he, rfl⟩ := h
    exact ⟨f, 21, sp_Book__eq, hn, E, r, k, r', k', m, b', rfl, hm, he, rfl⟩
  · obtain ⟨rfl, hn, r, k, r', k', m, b', rfl, rfl, hm, he, rfl⟩ := h
    rw [Reps] at r1 r2
    obtain ⟨v, us, rfl, a1, a2⟩ := r1
    obtain ⟨v', us', e, c1, c2⟩ := r2
    cases e
    obtain ⟨v2, rfl, b1⟩ := reps1 a2
    obtain ⟨v2', e, d1⟩ := reps1 c2
    cases e
    rw [Rep] at a1 c1
    rw [a1] at c1
    cases c1
    rw [eqT_same ob0_ok hK I ex m _ _ _ _ he b1 d1]
    simp
theorem obT_of {G : Gx} {f : Addr} (B : ObOk G obB) (E : EqCls G 31 "Table" f sp_Table__eq) : ObOk G obT := by
  refine ⟨fun n c xs ys b h => ?_, fun n c xs ys b h X pins σ H s F vs hK I ex r1 r2 => ?_⟩
  · rcases h with h | ⟨rfl, hn, x, p, x', p', n1, n2, b1, b2, rfl, rfl, h1, e1, h2, e2, rfl⟩
    · exact B.run n c xs ys b h
    · exact ⟨f, 31, sp_Table__eq, hn, E, x, p, x', p', n1, n2, b1, b2, rfl, h1, e1, h2, e2, rfl⟩
  · rcases h with h | ⟨rfl, hn, x, p, x', p', n1, n2, b1, b2, rfl, rfl, h1, e1, h2, e2, rfl⟩
    · exact B.same n c xs ys b h X pins σ H s F vs hK I ex r1 r2
    · rw [Reps] at r1 r2
      obtain ⟨v, us, rfl, a1, a2⟩ := r1
      obtain ⟨v', us', e, c1, c2⟩ := r2
      cases e
      obtain ⟨v2, rfl, q1⟩ := reps1 a2
      obtain ⟨v2', e, d1⟩ := reps1 c2
      cases e
      rw [eqT_same B hK I ex n1 _ _ _ _ e1 a1 c1, eqT_same ob0_ok hK I ex n2 _ _ _ _ e2 q1 d1]
      rfl
/-! ## SmallShelf(base, most) -/
abbrev N_SmallShelf__init : List Str := ["self", "base", "most", "__class__"]
def t_SmallShelf__init (a : Addr) : DS := sSeq (sSuper 0 3 2 "SmallShelf" "__init__" a sp_Shelf__init (dCons (dVar 1) dNil)) (sSeq (sIf (dB (dOp rLtD (dVar 2) (dC (.int 0)))) sNever sNext) (sFldD ["SmallShelf"] "greatest" (dVar 0) (dVar 2)))
theorem sc_SmallShelf__init : NScope N_SmallShelf__init ["self", "base", "most"] ["__class__"] (defScope s_SmallShelf__init) := nscope_by (by decide +kernel)
theorem d_small {G : Gx} {f f2 cc ca a : Addr} (Sd : SupDef G ⟨"__init__", "SmallShelf.__init__", defArgs s_SmallShelf__init, defBody s_SmallShelf__init, defScope s_SmallShelf__init, [("__class__", cc)], ca⟩ f cc a) (Sm : SupMeth G "SmallShelf" a f2 "__init__") (Df : Def G 1 f2 ["self", "base"] sp_Shelf__init)
    (c_greatest : ClsFld G ["SmallShelf"] "greatest") : Def G 2 f ["self", "base", "most"] sp_SmallShelf__init := by
  refine def_super (t := t_SmallShelf__init a) (k := 1) (N := N_SmallShelf__init) Sd sc_SmallShelf__init (fun _ _ _ _ _ us hl => match us, hl with | [_, _, _], _ => rfl) ?_ ?_
  · show PDsAt G 1 N_SmallShelf__init ⟨defScope s_SmallShelf__init, fun _ => false⟩ f ca (defBody s_SmallShelf__init) (defBody s_SmallShelf__init) _
    exact pdsAt_cons (psd_super (x := "self") Sd Sm Df (by decide) rfl (by decide +kernel) rfl rfl (by decide) (pda_cons (pd_var 1 rfl (by decide +kernel)) pda_nil) (fun env => ⟨_, rfl⟩))
      (pdsAt_of (pdss_cons (psd_if (pt_cmpD od_lt (pd_var 2 rfl (by decide +kernel)) pd_int rfl) (pdss_one psd_never) pdss_nil) (pdss_one (psd_fld c_greatest (pd_var 0 rfl (by decide +kernel)) (pd_var 2 rfl (by decide +kernel))))))
  · rintro ds M Q E hl ⟨p, b, m, rfl, hb, hm, hM, q⟩
    unfold t_SmallShelf__init sSuper
    simp only [dNeg, sRet, sSeq, sAsg, sDrop, sIf, sNext, sSetLc, sFor, sFldD, sAug, sPar, sSub, sRetN, dAndV, dOrV, dNotV, dAnd, dOr, dNot, dB, dTru, dIf, dOp, dCall, dCallF, dMeth, dProp, dFld, dMake, dMakeC, dCons, dNil, dStar, dTup, dLst, dNew, dVar, dFrz, dC, dSlice, dPart, dNoPart, dMt, dLc, dYes, iLst, iTupD, iRngD1, iRngD2, iEnumD, iZipD, rF, dTg, startD, wipeD, setMany, List.map, List.set, List.length_cons, List.length_nil, List.replicate, List.append, List.cons_append, List.nil_append, List.append_nil, List.getElem?_cons_zero, List.getElem?_cons_succ, Nat.reduceAdd, Nat.reduceSub, Nat.sub_self, Nat.zero_add, Option.some.injEq, exists_eq_left, exists_eq_left', exists_eq_right, List.cons.injEq, and_true, true_and, if_true, if_false, Bool.false_eq_true, Bool.not_true, Bool.not_false, D.bl.injEq, D.int.injEq, D.cell.injEq, reduceCtorEq, false_and, and_false, exists_false, or_false, false_or, exists_and_left, exists_and_right]
    refine ⟨_, rfl, rfl, tyD_cell hM, _, rfl, p, b, "SmallShelf", rfl, hb, .inr rfl, hM, ?_⟩
    refine ⟨_, rfl, r_int trivial ⟨false, by simp [hm], ?_⟩⟩
    rw [if_neg Bool.false_ne_true]
    refine ⟨_, rfl, _, rfl, p, rfl, "SmallShelf", _, _, MS.put_same, by decide, by decide, ?_⟩
    rw [MS.put_put]
    exact q
end HD
namespace HD
open PySem PySem.Spec PyProof.Rows L2 NdefX

theorem obL_eq (s : PySem.W.SharedT) : obL s = hkL.obs s.abs := obsZG_eq (HandSHeadRun.getT_eq s)
theorem facts {P : Program} {w : World} {K : PySem.W.Frag} {h : Heap} {mg : Str → Option Value} {f : Addr} {base : Heap} (hP : P = PySem.Challenge.rw_blockbooks_k62_equal_shelves.prog) (X : K.In h) (Gn : h.Ns mainGlobals mg) (hfa : mg ("law" : Str) = some (.ref f)) (c : SaysZ faL fnL K) : Def ⟨P, w, K, mg, base⟩ 100 f ["script"] sp_law := by
  have hfile : ((P.main.file : Str) == lawFile) = true := by rw [hP]; exact beq_self_eq_true _
  have htop : (P.main.scope.names.lookup ("super" : Str)).isSome = false := by rw [hP]; decide +kernel
  let G : Gx := ⟨P, w, K, mg, base⟩
  obtain ⟨fd_is_name, F_is_name⟩ := c.def_ 0 (d := df_is_name) rfl rfl
  have m_len : mg "len" = none := He.free_ok X Gn (show (He.Fa.free "len" : He.Fa).ok K = true from c.fact 0 (f := .fa (.free "len")) rfl)
  have g_LETTERS : GlobD G "LETTERS" dLETTERS := z_str (He.str_ok X Gn (show (He.Fa.str "LETTERS" "abcdefghijklmnopqrstuvwxyz" : He.Fa).ok K = true from c.fact 1 (f := .fa (.str "LETTERS" "abcdefghijklmnopqrstuvwxyz")) rfl))
  have d_is_name : Def G 1 (Pa.ad K (.g "is_name")) ["name"] sp_is_name := def_okL F_is_name sc_is_name (fun _ _ _ _ _ _ us hl => match us, hl with | [_], _ => rfl) (pds_is_name (m_len := m_len) (g_LETTERS := g_LETTERS)) r_is_name
  obtain ⟨fd_check_names, F_check_names⟩ := c.def_ 1 (d := df_check_names) rfl rfl
  have m_is_name : mg "is_name" = some (.ref (Pa.ad K (.g "is_name"))) := He.glo_ok X Gn (show (He.Fa.glo "is_name" : He.Fa).ok K = true from c.fact 2 (f := .fa (.glo "is_name")) rfl)
  have d_check_names : Def G 2 (Pa.ad K (.g "check_names")) ["named"] sp_check_names := def_okL F_check_names sc_check_names (fun _ _ _ _ _ _ us hl => match us, hl with | [_], _ => rfl) (pds_check_names (d_is_name := d_is_name) (m_is_name := m_is_name)) r_check_names
  obtain ⟨fd_is_square, F_is_square⟩ := c.def_ 2 (d := df_is_square) rfl rfl
  have m_all : mg "all" = none := He.free_ok X Gn (show (He.Fa.free "all" : He.Fa).ok K = true from c.fact 3 (f := .fa (.free "all")) rfl)
  have d_is_square : Def G 1 (Pa.ad K (.g "is_square")) ["base", "blocks"] sp_is_square := def_okL F_is_square sc_is_square (fun _ _ _ _ _ _ us hl => match us, hl with | [_, _], _ => rfl) (pds_is_square (m_len := m_len) (m_all := m_all)) r_is_square
  obtain ⟨fd_check_blocks, F_check_blocks⟩ := c.def_ 3 (d := df_check_blocks) rfl rfl
  have m_is_square : mg "is_square" = some (.ref (Pa.ad K (.g "is_square"))) := He.glo_ok X Gn (show (He.Fa.glo "is_square" : He.Fa).ok K = true from c.fact 4 (f := .fa (.glo "is_square")) rfl)
  have d_check_blocks : Def G 2 (Pa.ad K (.g "check_blocks")) ["base", "named"] sp_check_blocks := def_okL F_check_blocks sc_check_blocks (fun _ _ _ _ _ _ us hl => match us, hl with | [_, _], _ => rfl) (pds_check_blocks (d_is_square := d_is_square) (m_is_square := m_is_square) (m_all := m_all)) r_check_blocks
  obtain ⟨fd_kept_blocks, F_kept_blocks⟩ := c.def_ 4 (d := df_kept_blocks) rfl rfl
  have m_tuple : mg "tuple" = none := He.free_ok X Gn (show (He.Fa.free "tuple" : He.Fa).ok K = true from c.fact 5 (f := .fa (.free "tuple")) rfl)
  have d_kept_blocks : Def G 1 (Pa.ad K (.g "kept_blocks")) ["blocks"] sp_kept_blocks := def_okL F_kept_blocks sc_kept_blocks (fun _ _ _ _ _ _ us hl => match us, hl with | [_], _ => rfl) (pds_kept_blocks (m_tuple := m_tuple)) r_kept_blocks
  obtain ⟨fd_Book__init, F_Book__init⟩ := c.def_ 5 (d := df_Book__init) rfl rfl
  have g_BASES : GlobD G "BASES" dBASES := z_two (c.fact 6 (f := .two "BASES" 2 3) rfl) (He.glo_ok X Gn (show (He.Fa.glo "BASES" : He.Fa).ok K = true from c.fact 7 (f := .fa (.glo "BASES")) rfl))
  have m_check_names : mg "check_names" = some (.ref (Pa.ad K (.g "check_names"))) := He.glo_ok X Gn (show (He.Fa.glo "check_names" : He.Fa).ok K = true from c.fact 8 (f := .fa (.glo "check_names")) rfl)
  have m_check_blocks : mg "check_blocks" = some (.ref (Pa.ad K (.g "check_blocks"))) := He.glo_ok X Gn (show (He.Fa.glo "check_blocks" : He.Fa).ok K = true from c.fact 9 (f := .fa (.glo "check_blocks")) rfl)
  have c_radix : ClsFld G ["Book", "Shelf", "SmallShelf"] "radix" := ⟨fun cl hc => by
    simp only [List.contains_cons, List.contains_nil, Bool.or_false, Bool.or_eq_true, beq_iff_eq] at hc
    rcases hc with rfl | rfl | rfl
    · exact ⟨He.cls_ok (show (He.Fa.cls "Book" : He.Fa).ok K = true from c.fact 10 (f := .fa (.cls "Book")) rfl), He.noat_ok (show (He.Fa.noat "Book" "radix" : He.Fa).ok K = true from c.fact 11 (f := .fa (.noat "Book" "radix")) rfl)⟩
    · exact ⟨He.cls_ok (show (He.Fa.cls "Shelf" : He.Fa).ok K = true from c.fact 12 (f := .fa (.cls "Shelf")) rfl), He.noat_ok (show (He.Fa.noat "Shelf" "radix" : He.Fa).ok K = true from c.fact 13 (f := .fa (.noat "Shelf" "radix")) rfl)⟩
    · exact ⟨He.cls_ok (show (He.Fa.cls "SmallShelf" : He.Fa).ok K = true from c.fact 14 (f := .fa (.cls "SmallShelf")) rfl), He.noat_ok (show (He.Fa.noat "SmallShelf" "radix" : He.Fa).ok K = true from c.fact 15 (f := .fa (.noat "SmallShelf" "radix")) rfl)⟩⟩
  have m_kept_blocks : mg "kept_blocks" = some (.ref (Pa.ad K (.g "kept_blocks"))) := He.glo_ok X Gn (show (He.Fa.glo "kept_blocks" : He.Fa).ok K = true from c.fact 16 (f := .fa (.glo "kept_blocks")) rfl)
  have c_kept : ClsFld G ["Book"] "kept" := ⟨fun cl hc => by
    simp only [List.contains_cons, List.contains_nil, Bool.or_false, Bool.or_eq_true, beq_iff_eq] at hc
    subst hc
    exact ⟨He.cls_ok (show (He.Fa.cls "Book" : He.Fa).ok K = true from c.fact 10 (f := .fa (.cls "Book")) rfl), He.noat_ok (show (He.Fa.noat "Book" "kept" : He.Fa).ok K = true from c.fact 17 (f := .fa (.noat "Book" "kept")) rfl)⟩⟩
  have d_Book__init : Def G 3 (Pa.ad K (.m "Book" "__init__")) ["self", "base", "named"] sp_Book__init := def_okL F_Book__init sc_Book__init (fun _ _ _ _ _ _ us hl => match us, hl with | [_, _, _], _ => rfl) (pds_Book__init (g_BASES := g_BASES) (d_check_names := d_check_names) (m_check_names := m_check_names) (d_check_blocks := d_check_blocks) (m_check_blocks := m_check_blocks) (c_radix := c_radix) (m_tuple := m_tuple) (d_kept_blocks := d_kept_blocks) (m_kept_blocks := m_kept_blocks) (c_kept := c_kept)) r_Book__init
  obtain ⟨fd_Book__eq, F_Book__eq⟩ := c.def_ 6 (d := df_Book__eq) rfl rfl
  have ty : Tys G tyCs tySub := by
    have ds := (c.fact 22 (f := .desc) rfl)
    simp only [Fq.ok, Bool.and_eq_true, decide_eq_true_eq] at ds
    refine ⟨ds.1, ds.2, fun c hc => ?_, fun c d hc hd => ?_, fun c T hc hT => ?_⟩
    · simp only [tyCs, baseTys, List.contains_cons, List.contains_nil, Bool.or_false, Bool.or_eq_true, beq_iff_eq] at hc
      rcases hc with rfl | rfl | rfl | rfl
      · have z := (c.fact 18 (f := .insT "Book") rfl)
        simp only [Fq.ok, Bool.and_eq_true, decide_eq_true_eq] at z
        exact ⟨He.cls_ok (show (He.Fa.cls "Book" : He.Fa).ok K = true from c.fact 10 (f := .fa (.cls "Book")) rfl), z.1, z.2⟩
      · have z := (c.fact 19 (f := .insT "Table") rfl)
        simp only [Fq.ok, Bool.and_eq_true, decide_eq_true_eq] at z
        exact ⟨He.cls_ok (show (He.Fa.cls "Table" : He.Fa).ok K = true from c.fact 23 (f := .fa (.cls "Table")) rfl), z.1, z.2⟩
      · have z := (c.fact 20 (f := .insT "Shelf") rfl)
        simp only [Fq.ok, Bool.and_eq_true, decide_eq_true_eq] at z
        exact ⟨He.cls_ok (show (He.Fa.cls "Shelf" : He.Fa).ok K = true from c.fact 12 (f := .fa (.cls "Shelf")) rfl), z.1, z.2⟩
      · have z := (c.fact 21 (f := .insT "SmallShelf") rfl)
        simp only [Fq.ok, Bool.and_eq_true, decide_eq_true_eq] at z
        exact ⟨He.cls_ok (show (He.Fa.cls "SmallShelf" : He.Fa).ok K = true from c.fact 14 (f := .fa (.cls "SmallShelf")) rfl), z.1, z.2⟩
    · simp only [tyCs, baseTys, List.contains_cons, List.contains_nil, Bool.or_false, Bool.or_eq_true, beq_iff_eq] at hc hd
      rcases hc with rfl | rfl | rfl | rfl <;> rcases hd with rfl | rfl | rfl | rfl
      · have z := (c.fact 24 (f := .sub "Book" "Book" true) rfl)
        simp only [Fq.ok, Bool.and_eq_true, decide_eq_true_eq] at z
        exact z
      · have z := (c.fact 25 (f := .sub "Book" "Table" false) rfl)
        simp only [Fq.ok, Bool.and_eq_true, decide_eq_true_eq] at z
        exact z
      · have z := (c.fact 26 (f := .sub "Book" "Shelf" false) rfl)
        simp only [Fq.ok, Bool.and_eq_true, decide_eq_true_eq] at z
        exact z
      · have z := (c.fact 27 (f := .sub "Book" "SmallShelf" false) rfl)
        simp only [Fq.ok, Bool.and_eq_true, decide_eq_true_eq] at z
        exact z
      · have z := (c.fact 28 (f := .sub "Table" "Book" false) rfl)
        simp only [Fq.ok, Bool.and_eq_true, decide_eq_true_eq] at z
        exact z
      · have z := (c.fact 29 (f := .sub "Table" "Table" true) rfl)
        simp only [Fq.ok, Bool.and_eq_true, decide_eq_true_eq] at z
        exact z
      · have z := (c.fact 30 (f := .sub "Table" "Shelf" false) rfl)
        simp only [Fq.ok, Bool.and_eq_true, decide_eq_true_eq] at z
        exact z
      · have z := (c.fact 31 (f := .sub "Table" "SmallShelf" false) rfl)
        simp only [Fq.ok, Bool.and_eq_true, decide_eq_true_eq] at z
        exact z
      · have z := (c.fact 32 (f := .sub "Shelf" "Book" false) rfl)
        simp only [Fq.ok, Bool.and_eq_true, decide_eq_true_eq] at z
        exact z
      · have z := (c.fact 33 (f := .sub "Shelf" "Table" false) rfl)
        simp only [Fq.ok, Bool.and_eq_true, decide_eq_true_eq] at z
        exact z
      · have z := (c.fact 34 (f := .sub "Shelf" "Shelf" true) rfl)
        simp only [Fq.ok, Bool.and_eq_true, decide_eq_true_eq] at z
        exact z
      · have z := (c.fact 35 (f := .sub "Shelf" "SmallShelf" true) rfl)
        simp only [Fq.ok, Bool.and_eq_true, decide_eq_true_eq] at z
        exact z
      · have z := (c.fact 36 (f := .sub "SmallShelf" "Book" false) rfl)
        simp only [Fq.ok, Bool.and_eq_true, decide_eq_true_eq] at z
        exact z
      · have z := (c.fact 37 (f := .sub "SmallShelf" "Table" false) rfl)
        simp only [Fq.ok, Bool.and_eq_true, decide_eq_true_eq] at z
        exact z
      · have z := (c.fact 38 (f := .sub "SmallShelf" "Shelf" false) rfl)
        simp only [Fq.ok, Bool.and_eq_true, decide_eq_true_eq] at z
        exact z
      · have z := (c.fact 39 (f := .sub "SmallShelf" "SmallShelf" true) rfl)
        simp only [Fq.ok, Bool.and_eq_true, decide_eq_true_eq] at z
        exact z
    · simp only [tyCs, baseTys, List.contains_cons, List.contains_nil, Bool.or_false, Bool.or_eq_true, beq_iff_eq] at hc hT
      rcases hc with rfl | rfl | rfl | rfl <;> rcases hT with rfl | rfl | rfl | rfl | rfl | rfl | rfl
      · have z := (c.fact 40 (f := .bas "Book" "NoneType") rfl)
        simp only [Fq.ok, Bool.and_eq_true, decide_eq_true_eq] at z
        exact z
      · have z := (c.fact 41 (f := .bas "Book" "bool") rfl)
        simp only [Fq.ok, Bool.and_eq_true, decide_eq_true_eq] at z
        exact z
      · have z := (c.fact 42 (f := .bas "Book" "int") rfl)
        simp only [Fq.ok, Bool.and_eq_true, decide_eq_true_eq] at z
        exact z
      · have z := (c.fact 43 (f := .bas "Book" "str") rfl)
        simp only [Fq.ok, Bool.and_eq_true, decide_eq_true_eq] at z
        exact z
      · have z := (c.fact 44 (f := .bas "Book" "list") rfl)
        simp only [Fq.ok, Bool.and_eq_true, decide_eq_true_eq] at z
        exact z
      · have z := (c.fact 45 (f := .bas "Book" "tuple") rfl)
        simp only [Fq.ok, Bool.and_eq_true, decide_eq_true_eq] at z
        exact z
      · have z := (c.fact 46 (f := .bas "Book" "dict") rfl)
        simp only [Fq.ok, Bool.and_eq_true, decide_eq_true_eq] at z
        exact z
      · have z := (c.fact 47 (f := .bas "Table" "NoneType") rfl)
        simp only [Fq.ok, Bool.and_eq_true, decide_eq_true_eq] at z
        exact z
      · have z := (c.fact 48 (f := .bas "Table" "bool") rfl)
        simp only [Fq.ok, Bool.and_eq_true, decide_eq_true_eq] at z
        exact z
      · have z := (c.fact 49 (f := .bas "Table" "int") rfl)
        simp only [Fq.ok, Bool.and_eq_true, decide_eq_true_eq] at z
        exact z
      · have z := (c.fact 50 (f := .bas "Table" "str") rfl)
        simp only [Fq.ok, Bool.and_eq_true, decide_eq_true_eq] at z
        exact z
      · have z := (c.fact 51 (f := .bas "Table" "list") rfl)
        simp only [Fq.ok, Bool.and_eq_true, decide_eq_true_eq] at z
        exact z
      · have z := (c.fact 52 (f := .bas "Table" "tuple") rfl)
        simp only [Fq.ok, Bool.and_eq_true, decide_eq_true_eq] at z
        exact z
      · have z := (c.fact 53 (f := .bas "Table" "dict") rfl)
        simp only [Fq.ok, Bool.and_eq_true, decide_eq_true_eq] at z
        exact z
      · have z := (c.fact 54 (f := .bas "Shelf" "NoneType") rfl)
        simp only [Fq.ok, Bool.and_eq_true, decide_eq_true_eq] at z
        exact z
      · have z := (c.fact 55 (f := .bas "Shelf" "bool") rfl)
        simp only [Fq.ok, Bool.and_eq_true, decide_eq_true_eq] at z
        exact z
      · have z := (c.fact 56 (f := .bas "Shelf" "int") rfl)
        simp only [Fq.ok, Bool.and_eq_true, decide_eq_true_eq] at z
        exact z
      · have z := (c.fact 57 (f := .bas "Shelf" "str") rfl)
        simp only [Fq.ok, Bool.and_eq_true, decide_eq_true_eq] at z
        exact z
      · have z := (c.fact 58 (f := .bas "Shelf" "list") rfl)
        simp only [Fq.ok, Bool.and_eq_true, decide_eq_true_eq] at z
        exact z
      · have z := (c.fact 59 (f := .bas "Shelf" "tuple") rfl)
        simp only [Fq.ok, Bool.and_eq_true, decide_eq_true_eq] at z
        exact z
      · have z := (c.fact 60 (f := .bas "Shelf" "dict") rfl)
        simp only [Fq.ok, Bool.and_eq_true, decide_eq_true_eq] at z
        exact z
      · have z := (c.fact 61 (f := .bas "SmallShelf" "NoneType") rfl)
        simp only [Fq.ok, Bool.and_eq_true, decide_eq_true_eq] at z
        exact z
      · have z := (c.fact 62 (f := .bas "SmallShelf" "bool") rfl)
        simp only [Fq.ok, Bool.and_eq_true, decide_eq_true_eq] at z
        exact z
      · have z := (c.fact 63 (f := .bas "SmallShelf" "int") rfl)
        simp only [Fq.ok, Bool.and_eq_true, decide_eq_true_eq] at z
        exact z
      · have z := (c.fact 64 (f := .bas "SmallShelf" "str") rfl)
        simp only [Fq.ok, Bool.and_eq_true, decide_eq_true_eq] at z
        exact z
      · have z := (c.fact 65 (f := .bas "SmallShelf" "list") rfl)
        simp only [Fq.ok, Bool.and_eq_true, decide_eq_true_eq] at z
        exact z
      · have z := (c.fact 66 (f := .bas "SmallShelf" "tuple") rfl)
        simp only [Fq.ok, Bool.and_eq_true, decide_eq_true_eq] at z
        exact z
      · have z := (c.fact 67 (f := .bas "SmallShelf" "dict") rfl)
        simp only [Fq.ok, Bool.and_eq_true, decide_eq_true_eq] at z
        exact z
  have m_isinstance : mg "isinstance" = none := He.free_ok X Gn (show (He.Fa.free "isinstance" : He.Fa).ok K = true from c.fact 68 (f := .fa (.free "isinstance")) rfl)
  have kc_Book : mg "Book" = some (.ref (He.ga K "Book")) := He.glo_ok X Gn (show (He.Fa.glo "Book" : He.Fa).ok K = true from c.fact 69 (f := .fa (.glo "Book")) rfl)
  have d_Book__eq : Def G 21 (Pa.ad K (.m "Book" "__eq__")) ["self", "other"] sp_Book__eq := def_okL F_Book__eq sc_Book__eq (fun _ _ _ _ _ _ us hl => match us, hl with | [_, _], _ => rfl) (pds_Book__eq (ty := ty) (m_isinstance := m_isinstance) (kc_Book := kc_Book) (c_radix := c_radix) (c_kept := c_kept)) r_Book__eq
  obtain ⟨fd_Book_base, F_Book_base⟩ := c.def_ 7 (d := df_Book_base) rfl rfl
  have d_Book_base : Def G 1 (Pa.ad K (.p "Book" "base")) ["self"] sp_Book_base := def_okL F_Book_base sc_Book_base (fun _ _ _ _ _ _ us hl => match us, hl with | [_], _ => rfl) (pds_Book_base (c_radix := c_radix)) r_Book_base
  obtain ⟨fd_Book_names, F_Book_names⟩ := c.def_ 8 (d := df_Book_names) rfl rfl
  have d_Book_names : Def G 1 (Pa.ad K (.p "Book" "names")) ["self"] sp_Book_names := def_okL F_Book_names sc_Book_names (fun _ _ _ _ _ _ us hl => match us, hl with | [_], _ => rfl) (pds_Book_names (c_kept := c_kept)) r_Book_names
  obtain ⟨fd_starts_of, F_starts_of⟩ := c.def_ 9 (d := df_starts_of) rfl rfl
  have d_starts_of : Def G 1 (Pa.ad K (.g "starts_of")) ["book"] sp_starts_of := def_okL F_starts_of sc_starts_of (fun _ _ _ _ _ _ us hl => match us, hl with | [_], _ => rfl) (pds_starts_of (c_kept := c_kept)) r_starts_of
  obtain ⟨fd_matrix_of, F_matrix_of⟩ := c.def_ 10 (d := df_matrix_of) rfl rfl
  have p_Book_names : PropOk G "Book" "names" (Pa.ad K (.p "Book" "names")) := z_prop (cl := He.cls_ok (show (He.Fa.cls "Book" : He.Fa).ok K = true from c.fact 10 (f := .fa (.cls "Book")) rfl)) (c.fact 70 (f := .prop "Book" "names") rfl)
  have d_matrix_of : Def G 3 (Pa.ad K (.g "matrix_of")) ["book", "upper", "left"] sp_matrix_of := def_okL F_matrix_of sc_matrix_of (fun _ _ _ _ _ _ us hl => match us, hl with | [_, _, _], _ => rfl) (pds_matrix_of (d_Book_names := d_Book_names) (p_Book_names := p_Book_names) (c_kept := c_kept) (m_len := m_len)) r_matrix_of
  obtain ⟨fd_common_divisor, F_common_divisor⟩ := c.def_ 11 (d := df_common_divisor) rfl rfl
  have m_abs : mg "abs" = none := He.free_ok X Gn (show (He.Fa.free "abs" : He.Fa).ok K = true from c.fact 71 (f := .fa (.free "abs")) rfl)
  have d_common_divisor : Def G 1 (Pa.ad K (.g "common_divisor")) ["numbers"] sp_common_divisor := def_okL F_common_divisor sc_common_divisor (fun _ _ _ _ _ _ us hl => match us, hl with | [_], _ => rfl) (pds_common_divisor (m_abs := m_abs)) r_common_divisor
  obtain ⟨fd_in_steps, F_in_steps⟩ := c.def_ 12 (d := df_in_steps) rfl rfl
  have m_range : mg "range" = none := He.free_ok X Gn (show (He.Fa.free "range" : He.Fa).ok K = true from c.fact 72 (f := .fa (.free "range")) rfl)
  have d_in_steps : Def G 3 (Pa.ad K (.g "in_steps")) ["rows"] sp_in_steps := def_okL F_in_steps sc_in_steps (fun _ _ _ _ _ _ us hl => match us, hl with | [_], _ => rfl) (pds_in_steps (m_range := m_range) (m_len := m_len)) r_in_steps
  obtain ⟨fd_shares_of, F_shares_of⟩ := c.def_ 13 (d := df_shares_of) rfl rfl
  have m_any : mg "any" = none := He.free_ok X Gn (show (He.Fa.free "any" : He.Fa).ok K = true from c.fact 73 (f := .fa (.free "any")) rfl)
  have d_shares_of : Def G 2 (Pa.ad K (.g "shares_of")) ["basis", "vector"] sp_shares_of := def_okL F_shares_of sc_shares_of (fun _ _ _ _ _ _ us hl => match us, hl with | [_, _], _ => rfl) (pds_shares_of (m_any := m_any)) r_shares_of
  obtain ⟨fd_Span__init, F_Span__init⟩ := c.def_ 14 (d := df_Span__init) rfl rfl
  have c_lines : ClsFld G ["Span"] "lines" := ⟨fun cl hc => by
    simp only [List.contains_cons, List.contains_nil, Bool.or_false, Bool.or_eq_true, beq_iff_eq] at hc
    subst hc
    exact ⟨He.cls_ok (show (He.Fa.cls "Span" : He.Fa).ok K = true from c.fact 74 (f := .fa (.cls "Span")) rfl), He.noat_ok (show (He.Fa.noat "Span" "lines" : He.Fa).ok K = true from c.fact 75 (f := .fa (.noat "Span" "lines")) rfl)⟩⟩
  have d_Span__init : Def G 1 (Pa.ad K (.m "Span" "__init__")) ["self"] sp_Span__init := def_okL F_Span__init sc_Span__init (fun _ _ _ _ _ _ us hl => match us, hl with | [_], _ => rfl) (pds_Span__init (c_lines := c_lines)) r_Span__init
  obtain ⟨fd_Span_rest, F_Span_rest⟩ := c.def_ 15 (d := df_Span_rest) rfl rfl
  have m_common_divisor : mg "common_divisor" = some (.ref (Pa.ad K (.g "common_divisor"))) := He.glo_ok X Gn (show (He.Fa.glo "common_divisor" : He.Fa).ok K = true from c.fact 76 (f := .fa (.glo "common_divisor")) rfl)
  have m_list : mg "list" = none := He.free_ok X Gn (show (He.Fa.free "list" : He.Fa).ok K = true from c.fact 77 (f := .fa (.free "list")) rfl)
  have d_Span_rest : Def G 2 (Pa.ad K (.m "Span" "rest")) ["self", "vector"] sp_Span_rest := def_okL F_Span_rest sc_Span_rest (fun _ _ _ _ _ _ us hl => match us, hl with | [_, _], _ => rfl) (pds_Span_rest (c_lines := c_lines) (d_common_divisor := d_common_divisor) (m_common_divisor := m_common_divisor) (m_list := m_list)) r_Span_rest
  obtain ⟨fd_Span_take, F_Span_take⟩ := c.def_ 16 (d := df_Span_take) rfl rfl
  have o_Span_rest : MethOk G "Span" "rest" (Pa.ad K (.m "Span" "rest")) := ⟨He.cls_ok (show (He.Fa.cls "Span" : He.Fa).ok K = true from c.fact 74 (f := .fa (.cls "Span")) rfl), He.meth_ok (show (He.Fa.meth "Span" "rest" : He.Fa).ok K = true from c.fact 78 (f := .fa (.meth "Span" "rest")) rfl)⟩
  have d_Span_take : Def G 3 (Pa.ad K (.m "Span" "take")) ["self", "vector"] sp_Span_take := def_okL F_Span_take sc_Span_take (fun _ _ _ _ _ _ us hl => match us, hl with | [_, _], _ => rfl) (pds_Span_take (d_Span_rest := d_Span_rest) (o_Span_rest := o_Span_rest) (m_any := m_any) (c_lines := c_lines)) r_Span_take
  obtain ⟨fd_System__init, F_System__init⟩ := c.def_ 17 (d := df_System__init) rfl rfl
  have c_starts : ClsFld G ["System"] "starts" := ⟨fun cl hc => by
    simp only [List.contains_cons, List.contains_nil, Bool.or_false, Bool.or_eq_true, beq_iff_eq] at hc
    subst hc
    exact ⟨He.cls_ok (show (He.Fa.cls "System" : He.Fa).ok K = true from c.fact 79 (f := .fa (.cls "System")) rfl), He.noat_ok (show (He.Fa.noat "System" "starts" : He.Fa).ok K = true from c.fact 80 (f := .fa (.noat "System" "starts")) rfl)⟩⟩
  have c_matrices : ClsFld G ["System"] "matrices" := ⟨fun cl hc => by
    simp only [List.contains_cons, List.contains_nil, Bool.or_false, Bool.or_eq_true, beq_iff_eq] at hc
    subst hc
    exact ⟨He.cls_ok (show (He.Fa.cls "System" : He.Fa).ok K = true from c.fact 79 (f := .fa (.cls "System")) rfl), He.noat_ok (show (He.Fa.noat "System" "matrices" : He.Fa).ok K = true from c.fact 81 (f := .fa (.noat "System" "matrices")) rfl)⟩⟩
  have c_factors : ClsFld G ["System"] "factors" := ⟨fun cl hc => by
    simp only [List.contains_cons, List.contains_nil, Bool.or_false, Bool.or_eq_true, beq_iff_eq] at hc
    subst hc
    exact ⟨He.cls_ok (show (He.Fa.cls "System" : He.Fa).ok K = true from c.fact 79 (f := .fa (.cls "System")) rfl), He.noat_ok (show (He.Fa.noat "System" "factors" : He.Fa).ok K = true from c.fact 82 (f := .fa (.noat "System" "factors")) rfl)⟩⟩
  have d_System__init : Def G 1 (Pa.ad K (.m "System" "__init__")) ["self", "starts", "matrices", "factors"] sp_System__init := def_okL F_System__init sc_System__init (fun _ _ _ _ _ _ us hl => match us, hl with | [_, _, _, _], _ => rfl) (pds_System__init (c_starts := c_starts) (c_matrices := c_matrices) (c_factors := c_factors)) r_System__init
  obtain ⟨fd_System_block_count, F_System_block_count⟩ := c.def_ 18 (d := df_System_block_count) rfl rfl
  have d_System_block_count : Def G 1 (Pa.ad K (.m "System" "block_count")) ["self"] sp_System_block_count := def_okL F_System_block_count sc_System_block_count (fun _ _ _ _ _ _ us hl => match us, hl with | [_], _ => rfl) (pds_System_block_count (m_len := m_len) (c_matrices := c_matrices)) r_System_block_count
  obtain ⟨fd_system_of, F_system_of⟩ := c.def_ 19 (d := df_system_of) rfl rfl
  obtain ⟨fd_Table_book, F_Table_book⟩ := c.def_ 20 (d := df_Table_book) rfl rfl
  have c_told_by : ClsFld G ["Table"] "told_by" := ⟨fun cl hc => by
    simp only [List.contains_cons, List.contains_nil, Bool.or_false, Bool.or_eq_true, beq_iff_eq] at hc
    subst hc
    exact ⟨He.cls_ok (show (He.Fa.cls "Table" : He.Fa).ok K = true from c.fact 23 (f := .fa (.cls "Table")) rfl), He.noat_ok (show (He.Fa.noat "Table" "told_by" : He.Fa).ok K = true from c.fact 83 (f := .fa (.noat "Table" "told_by")) rfl)⟩⟩
  have d_Table_book : Def G 1 (Pa.ad K (.p "Table" "book")) ["self"] sp_Table_book := def_okL F_Table_book sc_Table_book (fun _ _ _ _ _ _ us hl => match us, hl with | [_], _ => rfl) (pds_Table_book (c_told_by := c_told_by)) r_Table_book
  obtain ⟨fd_Table_shares, F_Table_shares⟩ := c.def_ 21 (d := df_Table_shares) rfl rfl
  have c_parts : ClsFld G ["Table"] "parts" := ⟨fun cl hc => by
    simp only [List.contains_cons, List.contains_nil, Bool.or_false, Bool.or_eq_true, beq_iff_eq] at hc
    subst hc
    exact ⟨He.cls_ok (show (He.Fa.cls "Table" : He.Fa).ok K = true from c.fact 23 (f := .fa (.cls "Table")) rfl), He.noat_ok (show (He.Fa.noat "Table" "parts" : He.Fa).ok K = true from c.fact 84 (f := .fa (.noat "Table" "parts")) rfl)⟩⟩
  have d_Table_shares : Def G 1 (Pa.ad K (.p "Table" "shares")) ["self"] sp_Table_shares := def_okL F_Table_shares sc_Table_shares (fun _ _ _ _ _ _ us hl => match us, hl with | [_], _ => rfl) (pds_Table_shares (m_list := m_list) (c_parts := c_parts)) r_Table_shares
  have p_Table_book : PropOk G "Table" "book" (Pa.ad K (.p "Table" "book")) := z_prop (cl := He.cls_ok (show (He.Fa.cls "Table" : He.Fa).ok K = true from c.fact 23 (f := .fa (.cls "Table")) rfl)) (c.fact 85 (f := .prop "Table" "book") rfl)
  have p_Book_base : PropOk G "Book" "base" (Pa.ad K (.p "Book" "base")) := z_prop (cl := He.cls_ok (show (He.Fa.cls "Book" : He.Fa).ok K = true from c.fact 10 (f := .fa (.cls "Book")) rfl)) (c.fact 86 (f := .prop "Book" "base") rfl)
  have m_matrix_of : mg "matrix_of" = some (.ref (Pa.ad K (.g "matrix_of"))) := He.glo_ok X Gn (show (He.Fa.glo "matrix_of" : He.Fa).ok K = true from c.fact 87 (f := .fa (.glo "matrix_of")) rfl)
  have k_System : MakeOk G "System" (Pa.ad K (.m "System" "__init__")) := ⟨He.mkr_ok (show (He.Fa.mkr "System" : He.Fa).ok K = true from c.fact 88 (f := .fa (.mkr "System")) rfl), He.glo_ok X Gn (show (He.Fa.glo "System" : He.Fa).ok K = true from c.fact 89 (f := .fa (.glo "System")) rfl)⟩
  have p_Table_shares : PropOk G "Table" "shares" (Pa.ad K (.p "Table" "shares")) := z_prop (cl := He.cls_ok (show (He.Fa.cls "Table" : He.Fa).ok K = true from c.fact 23 (f := .fa (.cls "Table")) rfl)) (c.fact 90 (f := .prop "Table" "shares") rfl)
  have m_starts_of : mg "starts_of" = some (.ref (Pa.ad K (.g "starts_of"))) := He.glo_ok X Gn (show (He.Fa.glo "starts_of" : He.Fa).ok K = true from c.fact 91 (f := .fa (.glo "starts_of")) rfl)
  have d_system_of : Def G 4 (Pa.ad K (.g "system_of")) ["table"] sp_system_of := def_okL F_system_of sc_system_of (fun _ _ _ _ _ _ us hl => match us, hl with | [_], _ => rfl) (pds_system_of (d_Table_book := d_Table_book) (p_Table_book := p_Table_book) (m_range := m_range) (d_Book_base := d_Book_base) (p_Book_base := p_Book_base) (d_matrix_of := d_matrix_of) (m_matrix_of := m_matrix_of) (d_System__init := d_System__init) (k_System := k_System) (d_Table_shares := d_Table_shares) (p_Table_shares := p_Table_shares) (d_starts_of := d_starts_of) (m_starts_of := m_starts_of)) r_system_of
  obtain ⟨fd_kept_places, F_kept_places⟩ := c.def_ 22 (d := df_kept_places) rfl rfl
  have k_Span : MakeOk G "Span" (Pa.ad K (.m "Span" "__init__")) := ⟨He.mkr_ok (show (He.Fa.mkr "Span" : He.Fa).ok K = true from c.fact 92 (f := .fa (.mkr "Span")) rfl), He.glo_ok X Gn (show (He.Fa.glo "Span" : He.Fa).ok K = true from c.fact 93 (f := .fa (.glo "Span")) rfl)⟩
  have m_sorted : mg "sorted" = none := He.free_ok X Gn (show (He.Fa.free "sorted" : He.Fa).ok K = true from c.fact 94 (f := .fa (.free "sorted")) rfl)
  have o_Span_take : MethOk G "Span" "take" (Pa.ad K (.m "Span" "take")) := ⟨He.cls_ok (show (He.Fa.cls "Span" : He.Fa).ok K = true from c.fact 74 (f := .fa (.cls "Span")) rfl), He.meth_ok (show (He.Fa.meth "Span" "take" : He.Fa).ok K = true from c.fact 95 (f := .fa (.meth "Span" "take")) rfl)⟩
  have d_kept_places : Def G 4 (Pa.ad K (.g "kept_places")) ["system", "rows"] sp_kept_places := def_okL F_kept_places sc_kept_places (fun _ _ _ _ _ _ us hl => match us, hl with | [_, _], _ => rfl) (pds_kept_places (c_starts := c_starts) (d_Span__init := d_Span__init) (k_Span := k_Span) (m_sorted := m_sorted) (d_Span_take := d_Span_take) (o_Span_take := o_Span_take)) r_kept_places
  obtain ⟨fd_Table__init, F_Table__init⟩ := c.def_ 23 (d := df_Table__init) rfl rfl
  have d_Table__init : Def G 3 (Pa.ad K (.m "Table" "__init__")) ["self", "book", "shares"] sp_Table__init := def_okL F_Table__init sc_Table__init (fun _ _ _ _ _ _ us hl => match us, hl with | [_, _, _], _ => rfl) (pds_Table__init (m_len := m_len) (d_Book_names := d_Book_names) (p_Book_names := p_Book_names) (c_told_by := c_told_by) (m_tuple := m_tuple) (c_parts := c_parts)) r_Table__init
  obtain ⟨fd_Table__eq, F_Table__eq⟩ := c.def_ 24 (d := df_Table__eq) rfl rfl
  have kc_Table : mg "Table" = some (.ref (He.ga K "Table")) := He.glo_ok X Gn (show (He.Fa.glo "Table" : He.Fa).ok K = true from c.fact 96 (f := .fa (.glo "Table")) rfl)
  have z_eqB := (c.fact 97 (f := .eqm "Book" "__eq__" "Book") rfl)
  simp only [Fq.ok, Bool.and_eq_true, decide_eq_true_eq] at z_eqB
  have obB_ok : ObOk G obB := obB_of ⟨z_eqB.1, z_eqB.2, d_Book__eq⟩
  have d_Table__eq : Def G 31 (Pa.ad K (.m "Table" "__eq__")) ["self", "other"] sp_Table__eq := def_okL F_Table__eq sc_Table__eq (fun _ _ _ _ _ _ us hl => match us, hl with | [_, _], _ => rfl) (pds_Table__eq (ty := ty) (m_isinstance := m_isinstance) (kc_Table := kc_Table) (obB_ok := obB_ok) (c_told_by := c_told_by) (c_parts := c_parts)) r_Table__eq
  obtain ⟨fd_kin_in, F_kin_in⟩ := c.def_ 25 (d := df_kin_in) rfl rfl
  have m_shares_of : mg "shares_of" = some (.ref (Pa.ad K (.g "shares_of"))) := He.glo_ok X Gn (show (He.Fa.glo "shares_of" : He.Fa).ok K = true from c.fact 98 (f := .fa (.glo "shares_of")) rfl)
  have m_in_steps : mg "in_steps" = some (.ref (Pa.ad K (.g "in_steps"))) := He.glo_ok X Gn (show (He.Fa.glo "in_steps" : He.Fa).ok K = true from c.fact 99 (f := .fa (.glo "in_steps")) rfl)
  have d_kin_in : Def G 4 (Pa.ad K (.g "kin_in")) ["system"] sp_kin_in := def_okL F_kin_in sc_kin_in (fun _ _ _ _ _ _ us hl => match us, hl with | [_], _ => rfl) (pds_kin_in (m_list := m_list) (c_factors := c_factors) (d_shares_of := d_shares_of) (m_shares_of := m_shares_of) (d_in_steps := d_in_steps) (m_in_steps := m_in_steps)) r_kin_in
  obtain ⟨fd_plain_system, F_plain_system⟩ := c.def_ 26 (d := df_plain_system) rfl rfl
  have o_System_block_count : MethOk G "System" "block_count" (Pa.ad K (.m "System" "block_count")) := ⟨He.cls_ok (show (He.Fa.cls "System" : He.Fa).ok K = true from c.fact 79 (f := .fa (.cls "System")) rfl), He.meth_ok (show (He.Fa.meth "System" "block_count" : He.Fa).ok K = true from c.fact 100 (f := .fa (.meth "System" "block_count")) rfl)⟩
  have m_kin_in : mg "kin_in" = some (.ref (Pa.ad K (.g "kin_in"))) := He.glo_ok X Gn (show (He.Fa.glo "kin_in" : He.Fa).ok K = true from c.fact 101 (f := .fa (.glo "kin_in")) rfl)
  have m_kept_places : mg "kept_places" = some (.ref (Pa.ad K (.g "kept_places"))) := He.glo_ok X Gn (show (He.Fa.glo "kept_places" : He.Fa).ok K = true from c.fact 102 (f := .fa (.glo "kept_places")) rfl)
  have m_zip : mg "zip" = none := He.free_ok X Gn (show (He.Fa.free "zip" : He.Fa).ok K = true from c.fact 103 (f := .fa (.free "zip")) rfl)
  have k_Table : MakeOk G "Table" (Pa.ad K (.m "Table" "__init__")) := ⟨He.mkr_ok (show (He.Fa.mkr "Table" : He.Fa).ok K = true from c.fact 104 (f := .fa (.mkr "Table")) rfl), He.glo_ok X Gn (show (He.Fa.glo "Table" : He.Fa).ok K = true from c.fact 96 (f := .fa (.glo "Table")) rfl)⟩
  have k_Book : MakeOk G "Book" (Pa.ad K (.m "Book" "__init__")) := ⟨He.mkr_ok (show (He.Fa.mkr "Book" : He.Fa).ok K = true from c.fact 105 (f := .fa (.mkr "Book")) rfl), He.glo_ok X Gn (show (He.Fa.glo "Book" : He.Fa).ok K = true from c.fact 69 (f := .fa (.glo "Book")) rfl)⟩
  have d_plain_system : Def G 5 (Pa.ad K (.g "plain_system")) ["system"] sp_plain_system := def_okL F_plain_system sc_plain_system (fun _ _ _ _ _ _ us hl => match us, hl with | [_], _ => rfl) (pds_plain_system (d_System_block_count := d_System_block_count) (o_System_block_count := o_System_block_count) (d_kin_in := d_kin_in) (m_kin_in := m_kin_in) (d_kept_places := d_kept_places) (m_kept_places := m_kept_places) (m_len := m_len) (d_in_steps := d_in_steps) (m_in_steps := m_in_steps) (m_any := m_any) (g_LETTERS := g_LETTERS) (m_zip := m_zip) (m_range := m_range) (d_shares_of := d_shares_of) (m_shares_of := m_shares_of) (d_Table__init := d_Table__init) (k_Table := k_Table) (d_Book__init := d_Book__init) (k_Book := k_Book)) r_plain_system
  obtain ⟨fd_rank_of, F_rank_of⟩ := c.def_ 27 (d := df_rank_of) rfl rfl
  have m_plain_system : mg "plain_system" = some (.ref (Pa.ad K (.g "plain_system"))) := He.glo_ok X Gn (show (He.Fa.glo "plain_system" : He.Fa).ok K = true from c.fact 106 (f := .fa (.glo "plain_system")) rfl)
  have m_system_of : mg "system_of" = some (.ref (Pa.ad K (.g "system_of"))) := He.glo_ok X Gn (show (He.Fa.glo "system_of" : He.Fa).ok K = true from c.fact 107 (f := .fa (.glo "system_of")) rfl)
  have d_rank_of : Def G 6 (Pa.ad K (.g "rank_of")) ["table"] sp_rank_of := def_okL F_rank_of sc_rank_of (fun _ _ _ _ _ _ us hl => match us, hl with | [_], _ => rfl) (pds_rank_of (m_len := m_len) (d_plain_system := d_plain_system) (m_plain_system := m_plain_system) (d_system_of := d_system_of) (m_system_of := m_system_of)) r_rank_of
  obtain ⟨fd_Shelf__init, F_Shelf__init⟩ := c.def_ 28 (d := df_Shelf__init) rfl rfl
  have c_calls : ClsFld G ["Shelf", "SmallShelf"] "calls" := ⟨fun cl hc => by
    simp only [List.contains_cons, List.contains_nil, Bool.or_false, Bool.or_eq_true, beq_iff_eq] at hc
    rcases hc with rfl | rfl
    · exact ⟨He.cls_ok (show (He.Fa.cls "Shelf" : He.Fa).ok K = true from c.fact 12 (f := .fa (.cls "Shelf")) rfl), He.noat_ok (show (He.Fa.noat "Shelf" "calls" : He.Fa).ok K = true from c.fact 108 (f := .fa (.noat "Shelf" "calls")) rfl)⟩
    · exact ⟨He.cls_ok (show (He.Fa.cls "SmallShelf" : He.Fa).ok K = true from c.fact 14 (f := .fa (.cls "SmallShelf")) rfl), He.noat_ok (show (He.Fa.noat "SmallShelf" "calls" : He.Fa).ok K = true from c.fact 109 (f := .fa (.noat "SmallShelf" "calls")) rfl)⟩⟩
  have c_states : ClsFld G ["Shelf", "SmallShelf"] "states" := ⟨fun cl hc => by
    simp only [List.contains_cons, List.contains_nil, Bool.or_false, Bool.or_eq_true, beq_iff_eq] at hc
    rcases hc with rfl | rfl
    · exact ⟨He.cls_ok (show (He.Fa.cls "Shelf" : He.Fa).ok K = true from c.fact 12 (f := .fa (.cls "Shelf")) rfl), He.noat_ok (show (He.Fa.noat "Shelf" "states" : He.Fa).ok K = true from c.fact 110 (f := .fa (.noat "Shelf" "states")) rfl)⟩
    · exact ⟨He.cls_ok (show (He.Fa.cls "SmallShelf" : He.Fa).ok K = true from c.fact 14 (f := .fa (.cls "SmallShelf")) rfl), He.noat_ok (show (He.Fa.noat "SmallShelf" "states" : He.Fa).ok K = true from c.fact 111 (f := .fa (.noat "SmallShelf" "states")) rfl)⟩⟩
  have d_Shelf__init : Def G 1 (Pa.ad K (.m "Shelf" "__init__")) ["self", "base"] sp_Shelf__init := def_okL F_Shelf__init sc_Shelf__init (fun _ _ _ _ _ _ us hl => match us, hl with | [_, _], _ => rfl) (pds_Shelf__init (g_BASES := g_BASES) (c_radix := c_radix) (c_calls := c_calls) (c_states := c_states)) r_Shelf__init
  obtain ⟨fd_Shelf_limit, F_Shelf_limit⟩ := c.def_ 29 (d := df_Shelf_limit) rfl rfl
  have d_Shelf_limit : Def G 1 (Pa.ad K (.m "Shelf" "limit")) ["self"] sp_Shelf_limit := def_okL F_Shelf_limit sc_Shelf_limit (fun _ _ _ _ _ _ us hl => match us, hl with | [_], _ => rfl) (pds_Shelf_limit ) r_Shelf_limit
  obtain ⟨fd_Shelf__eq, F_Shelf__eq⟩ := c.def_ 30 (d := df_Shelf__eq) rfl rfl
  obtain ⟨fd_SmallShelf_limit, F_SmallShelf_limit⟩ := c.def_ 31 (d := df_SmallShelf_limit) rfl rfl
  have c_greatest : ClsFld G ["SmallShelf"] "greatest" := ⟨fun cl hc => by
    simp only [List.contains_cons, List.contains_nil, Bool.or_false, Bool.or_eq_true, beq_iff_eq] at hc
    subst hc
    exact ⟨He.cls_ok (show (He.Fa.cls "SmallShelf" : He.Fa).ok K = true from c.fact 14 (f := .fa (.cls "SmallShelf")) rfl), He.noat_ok (show (He.Fa.noat "SmallShelf" "greatest" : He.Fa).ok K = true from c.fact 112 (f := .fa (.noat "SmallShelf" "greatest")) rfl)⟩⟩
  have d_SmallShelf_limit : Def G 1 (Pa.ad K (.m "SmallShelf" "limit")) ["self"] sp_SmallShelf_limit := def_okL F_SmallShelf_limit sc_SmallShelf_limit (fun _ _ _ _ _ _ us hl => match us, hl with | [_], _ => rfl) (pds_SmallShelf_limit (c_greatest := c_greatest)) r_SmallShelf_limit
  have kc_Shelf : mg "Shelf" = some (.ref (He.ga K "Shelf")) := He.glo_ok X Gn (show (He.Fa.glo "Shelf" : He.Fa).ok K = true from c.fact 113 (f := .fa (.glo "Shelf")) rfl)
  have o_Shelf_limit : MethOk G "Shelf" "limit" (Pa.ad K (.m "Shelf" "limit")) := ⟨He.cls_ok (show (He.Fa.cls "Shelf" : He.Fa).ok K = true from c.fact 12 (f := .fa (.cls "Shelf")) rfl), He.meth_ok (show (He.Fa.meth "Shelf" "limit" : He.Fa).ok K = true from c.fact 114 (f := .fa (.meth "Shelf" "limit")) rfl)⟩
  have o_SmallShelf_limit : MethOk G "SmallShelf" "limit" (Pa.ad K (.m "SmallShelf" "limit")) := ⟨He.cls_ok (show (He.Fa.cls "SmallShelf" : He.Fa).ok K = true from c.fact 14 (f := .fa (.cls "SmallShelf")) rfl), He.meth_ok (show (He.Fa.meth "SmallShelf" "limit" : He.Fa).ok K = true from c.fact 115 (f := .fa (.meth "SmallShelf" "limit")) rfl)⟩
  have z_eqTb := (c.fact 116 (f := .eqm "Table" "__eq__" "Table") rfl)
  simp only [Fq.ok, Bool.and_eq_true, decide_eq_true_eq] at z_eqTb
  have obT_ok : ObOk G obT := obT_of obB_ok ⟨z_eqTb.1, z_eqTb.2, d_Table__eq⟩
  have d_Shelf__eq : Def G 42 (Pa.ad K (.m "Shelf" "__eq__")) ["self", "other"] sp_Shelf__eq := def_okL F_Shelf__eq sc_Shelf__eq (fun _ _ _ _ _ _ us hl => match us, hl with | [_, _], _ => rfl) (pds_Shelf__eq (ty := ty) (m_isinstance := m_isinstance) (kc_Shelf := kc_Shelf) (c_radix := c_radix) (d_Shelf_limit := d_Shelf_limit) (o_Shelf_limit := o_Shelf_limit) (d_SmallShelf_limit := d_SmallShelf_limit) (o_SmallShelf_limit := o_SmallShelf_limit) (obT_ok := obT_ok) (c_calls := c_calls)) r_Shelf__eq
  obtain ⟨fd_Shelf_titles, F_Shelf_titles⟩ := c.def_ 32 (d := df_Shelf_titles) rfl rfl
  have d_Shelf_titles : Def G 1 (Pa.ad K (.p "Shelf" "titles")) ["self"] sp_Shelf_titles := def_okL F_Shelf_titles sc_Shelf_titles (fun _ _ _ _ _ _ us hl => match us, hl with | [_], _ => rfl) (pds_Shelf_titles (m_sorted := m_sorted) (c_states := c_states)) r_Shelf_titles
  obtain ⟨fd_Shelf_check_title, F_Shelf_check_title⟩ := c.def_ 33 (d := df_Shelf_check_title) rfl rfl
  have d_Shelf_check_title : Def G 1 (Pa.ad K (.m "Shelf" "check_title")) ["self", "title"] sp_Shelf_check_title := def_okL F_Shelf_check_title sc_Shelf_check_title (fun _ _ _ _ _ _ us hl => match us, hl with | [_, _], _ => rfl) (pds_Shelf_check_title (c_states := c_states)) r_Shelf_check_title
  obtain ⟨fd_Shelf_check_base, F_Shelf_check_base⟩ := c.def_ 34 (d := df_Shelf_check_base) rfl rfl
  have d_Shelf_check_base : Def G 3 (Pa.ad K (.m "Shelf" "check_base")) ["self", "table"] sp_Shelf_check_base := def_okL F_Shelf_check_base sc_Shelf_check_base (fun _ _ _ _ _ _ us hl => match us, hl with | [_, _], _ => rfl) (pds_Shelf_check_base (d_Table_book := d_Table_book) (p_Table_book := p_Table_book) (d_Book_base := d_Book_base) (p_Book_base := p_Book_base) (c_radix := c_radix)) r_Shelf_check_base
  obtain ⟨fd_Shelf_keep, F_Shelf_keep⟩ := c.def_ 35 (d := df_Shelf_keep) rfl rfl
  have d_Shelf_keep : Def G 1 (Pa.ad K (.m "Shelf" "keep")) ["self", "call", "state"] sp_Shelf_keep := def_okL F_Shelf_keep sc_Shelf_keep (fun _ _ _ _ _ _ us hl => match us, hl with | [_, _, _], _ => rfl) (pds_Shelf_keep (c_states := c_states) (c_calls := c_calls)) r_Shelf_keep
  obtain ⟨fd_Shelf_put, F_Shelf_put⟩ := c.def_ 36 (d := df_Shelf_put) rfl rfl
  have o_Shelf_check_base : MethOk G "Shelf" "check_base" (Pa.ad K (.m "Shelf" "check_base")) := ⟨He.cls_ok (show (He.Fa.cls "Shelf" : He.Fa).ok K = true from c.fact 12 (f := .fa (.cls "Shelf")) rfl), He.meth_ok (show (He.Fa.meth "Shelf" "check_base" : He.Fa).ok K = true from c.fact 117 (f := .fa (.meth "Shelf" "check_base")) rfl)⟩
  have o_SmallShelf_check_base : MethOk G "SmallShelf" "check_base" (Pa.ad K (.m "Shelf" "check_base")) := by
    rw [← of_decide_eq_true (c.fact 118 (f := .same (.m "SmallShelf" "check_base") (.m "Shelf" "check_base")) rfl)]
    exact ⟨He.cls_ok (show (He.Fa.cls "SmallShelf" : He.Fa).ok K = true from c.fact 14 (f := .fa (.cls "SmallShelf")) rfl), He.meth_ok (show (He.Fa.meth "SmallShelf" "check_base" : He.Fa).ok K = true from c.fact 119 (f := .fa (.meth "SmallShelf" "check_base")) rfl)⟩
  have m_rank_of : mg "rank_of" = some (.ref (Pa.ad K (.g "rank_of"))) := He.glo_ok X Gn (show (He.Fa.glo "rank_of" : He.Fa).ok K = true from c.fact 120 (f := .fa (.glo "rank_of")) rfl)
  have o_Shelf_keep : MethOk G "Shelf" "keep" (Pa.ad K (.m "Shelf" "keep")) := ⟨He.cls_ok (show (He.Fa.cls "Shelf" : He.Fa).ok K = true from c.fact 12 (f := .fa (.cls "Shelf")) rfl), He.meth_ok (show (He.Fa.meth "Shelf" "keep" : He.Fa).ok K = true from c.fact 121 (f := .fa (.meth "Shelf" "keep")) rfl)⟩
  have o_SmallShelf_keep : MethOk G "SmallShelf" "keep" (Pa.ad K (.m "Shelf" "keep")) := by
    rw [← of_decide_eq_true (c.fact 122 (f := .same (.m "SmallShelf" "keep") (.m "Shelf" "keep")) rfl)]
    exact ⟨He.cls_ok (show (He.Fa.cls "SmallShelf" : He.Fa).ok K = true from c.fact 14 (f := .fa (.cls "SmallShelf")) rfl), He.meth_ok (show (He.Fa.meth "SmallShelf" "keep" : He.Fa).ok K = true from c.fact 123 (f := .fa (.meth "SmallShelf" "keep")) rfl)⟩
  have d_Shelf_put : Def G 7 (Pa.ad K (.m "Shelf" "put")) ["self", "title", "table"] sp_Shelf_put := def_okL F_Shelf_put sc_Shelf_put (fun _ _ _ _ _ _ us hl => match us, hl with | [_, _, _], _ => rfl) (pds_Shelf_put (d_is_name := d_is_name) (m_is_name := m_is_name) (d_Shelf_check_base := d_Shelf_check_base) (o_Shelf_check_base := o_Shelf_check_base) (o_SmallShelf_check_base := o_SmallShelf_check_base) (d_Shelf_limit := d_Shelf_limit) (o_Shelf_limit := o_Shelf_limit) (d_SmallShelf_limit := d_SmallShelf_limit) (o_SmallShelf_limit := o_SmallShelf_limit) (d_rank_of := d_rank_of) (m_rank_of := m_rank_of) (c_states := c_states) (d_Shelf_keep := d_Shelf_keep) (o_Shelf_keep := o_Shelf_keep) (o_SmallShelf_keep := o_SmallShelf_keep)) r_Shelf_put
  obtain ⟨fd_Shelf_drop, F_Shelf_drop⟩ := c.def_ 37 (d := df_Shelf_drop) rfl rfl
  have o_Shelf_check_title : MethOk G "Shelf" "check_title" (Pa.ad K (.m "Shelf" "check_title")) := ⟨He.cls_ok (show (He.Fa.cls "Shelf" : He.Fa).ok K = true from c.fact 12 (f := .fa (.cls "Shelf")) rfl), He.meth_ok (show (He.Fa.meth "Shelf" "check_title" : He.Fa).ok K = true from c.fact 124 (f := .fa (.meth "Shelf" "check_title")) rfl)⟩
  have o_SmallShelf_check_title : MethOk G "SmallShelf" "check_title" (Pa.ad K (.m "Shelf" "check_title")) := by
    rw [← of_decide_eq_true (c.fact 125 (f := .same (.m "SmallShelf" "check_title") (.m "Shelf" "check_title")) rfl)]
    exact ⟨He.cls_ok (show (He.Fa.cls "SmallShelf" : He.Fa).ok K = true from c.fact 14 (f := .fa (.cls "SmallShelf")) rfl), He.meth_ok (show (He.Fa.meth "SmallShelf" "check_title" : He.Fa).ok K = true from c.fact 126 (f := .fa (.meth "SmallShelf" "check_title")) rfl)⟩
  have d_Shelf_drop : Def G 2 (Pa.ad K (.m "Shelf" "drop")) ["self", "title"] sp_Shelf_drop := def_okL F_Shelf_drop sc_Shelf_drop (fun _ _ _ _ _ _ us hl => match us, hl with | [_, _], _ => rfl) (pds_Shelf_drop (d_Shelf_check_title := d_Shelf_check_title) (o_Shelf_check_title := o_Shelf_check_title) (o_SmallShelf_check_title := o_SmallShelf_check_title) (c_states := c_states) (d_Shelf_keep := d_Shelf_keep) (o_Shelf_keep := o_Shelf_keep) (o_SmallShelf_keep := o_SmallShelf_keep)) r_Shelf_drop
  obtain ⟨fd_Shelf_undo, F_Shelf_undo⟩ := c.def_ 38 (d := df_Shelf_undo) rfl rfl
  have d_Shelf_undo : Def G 41 (Pa.ad K (.m "Shelf" "undo")) ["self"] sp_Shelf_undo := def_okL F_Shelf_undo sc_Shelf_undo (fun _ _ _ _ _ _ us hl => match us, hl with | [_], _ => rfl) (pds_Shelf_undo (obT_ok := obT_ok) (c_calls := c_calls) (c_states := c_states)) r_Shelf_undo
  obtain ⟨fd_Shelf_table_on, F_Shelf_table_on⟩ := c.def_ 39 (d := df_Shelf_table_on) rfl rfl
  have d_Shelf_table_on : Def G 2 (Pa.ad K (.m "Shelf" "table_on")) ["self", "title"] sp_Shelf_table_on := def_okL F_Shelf_table_on sc_Shelf_table_on (fun _ _ _ _ _ _ us hl => match us, hl with | [_, _], _ => rfl) (pds_Shelf_table_on (d_Shelf_check_title := d_Shelf_check_title) (o_Shelf_check_title := o_Shelf_check_title) (o_SmallShelf_check_title := o_SmallShelf_check_title) (c_states := c_states)) r_Shelf_table_on
  obtain ⟨fd_L_pool, F_L_pool⟩ := c.def_ 40 (d := df_L_pool) rfl rfl
  have m_int : mg "int" = none := He.free_ok X Gn (show (He.Fa.free "int" : He.Fa).ok K = true from c.fact 127 (f := .fa (.free "int")) rfl)
  have m_max : mg "max" = none := He.free_ok X Gn (show (He.Fa.free "max" : He.Fa).ok K = true from c.fact 128 (f := .fa (.free "max")) rfl)
  have d_L_pool : Def G 1 (Pa.ad K (.g "_law_pool")) ["script", "spot"] sp_L_pool := def_okL F_L_pool sc_L_pool (fun _ _ _ _ _ _ us hl => match us, hl with | [_, _], _ => rfl) (pds_L_pool (m_len := m_len) (m_int := m_int) (m_max := m_max) (m_abs := m_abs)) r_L_pool
  obtain ⟨fd_L_draw, F_L_draw⟩ := c.def_ 41 (d := df_L_draw) rfl rfl
  have d_L_draw : Def G 1 (Pa.ad K (.g "_law_draw")) ["pool", "many"] sp_L_draw := def_okL F_L_draw sc_L_draw (fun _ _ _ _ _ _ us hl => match us, hl with | [_, _], _ => rfl) (pds_L_draw (m_int := m_int)) r_L_draw
  obtain ⟨fd_L_factor, F_L_factor⟩ := c.def_ 42 (d := df_L_factor) rfl rfl
  have m__law_draw : mg "_law_draw" = some (.ref (Pa.ad K (.g "_law_draw"))) := He.glo_ok X Gn (show (He.Fa.glo "_law_draw" : He.Fa).ok K = true from c.fact 129 (f := .fa (.glo "_law_draw")) rfl)
  have d_L_factor : Def G 2 (Pa.ad K (.g "_law_factor")) ["pool"] sp_L_factor := def_okL F_L_factor sc_L_factor (fun _ _ _ _ _ _ us hl => match us, hl with | [_], _ => rfl) (pds_L_factor (d_L_draw := d_L_draw) (m__law_draw := m__law_draw)) r_L_factor
  obtain ⟨fd_L_pane, F_L_pane⟩ := c.def_ 43 (d := df_L_pane) rfl rfl
  have m__law_factor : mg "_law_factor" = some (.ref (Pa.ad K (.g "_law_factor"))) := He.glo_ok X Gn (show (He.Fa.glo "_law_factor" : He.Fa).ok K = true from c.fact 130 (f := .fa (.glo "_law_factor")) rfl)
  have d_L_pane : Def G 3 (Pa.ad K (.g "_law_pane")) ["pool", "letters"] sp_L_pane := def_okL F_L_pane sc_L_pane (fun _ _ _ _ _ _ us hl => match us, hl with | [_, _], _ => rfl) (pds_L_pane (d_L_draw := d_L_draw) (m__law_draw := m__law_draw) (m_range := m_range) (m_len := m_len) (d_L_factor := d_L_factor) (m__law_factor := m__law_factor)) r_L_pane
  obtain ⟨fd_L_kind, F_L_kind⟩ := c.def_ 44 (d := df_L_kind) rfl rfl
  have m_min : mg "min" = none := He.free_ok X Gn (show (He.Fa.free "min" : He.Fa).ok K = true from c.fact 131 (f := .fa (.free "min")) rfl)
  have m__law_pane : mg "_law_pane" = some (.ref (Pa.ad K (.g "_law_pane"))) := He.glo_ok X Gn (show (He.Fa.glo "_law_pane" : He.Fa).ok K = true from c.fact 132 (f := .fa (.glo "_law_pane")) rfl)
  have d_L_kind : Def G 4 (Pa.ad K (.g "_law_kind")) ["pool", "many"] sp_L_kind := def_okL F_L_kind sc_L_kind (fun _ _ _ _ _ _ us hl => match us, hl with | [_, _], _ => rfl) (pds_L_kind (d_L_draw := d_L_draw) (m__law_draw := m__law_draw) (m_min := m_min) (m_range := m_range) (d_L_pane := d_L_pane) (m__law_pane := m__law_pane) (m_len := m_len)) r_L_kind
  obtain ⟨fd_L_made, F_L_made⟩ := c.def_ 45 (d := df_L_made) rfl rfl
  have d_L_made : Def G 5 (Pa.ad K (.g "_law_made")) ["kind"] sp_L_made := def_okL F_L_made sc_L_made (fun _ _ _ _ _ _ us hl => match us, hl with | [_], _ => rfl) (pds_L_made (m_list := m_list) (d_Book__init := d_Book__init) (k_Book := k_Book)) r_L_made
  obtain ⟨fd_L_parts, F_L_parts⟩ := c.def_ 46 (d := df_L_parts) rfl rfl
  have d_L_parts : Def G 2 (Pa.ad K (.g "_law_parts")) ["pool", "kind"] sp_L_parts := def_okL F_L_parts sc_L_parts (fun _ _ _ _ _ _ us hl => match us, hl with | [_, _], _ => rfl) (pds_L_parts (m_len := m_len) (d_L_draw := d_L_draw) (m__law_draw := m__law_draw) (m_range := m_range) (m_int := m_int)) r_L_parts
  obtain ⟨fd_L_base_table, F_L_base_table⟩ := c.def_ 47 (d := df_L_base_table) rfl rfl
  have m__law_kind : mg "_law_kind" = some (.ref (Pa.ad K (.g "_law_kind"))) := He.glo_ok X Gn (show (He.Fa.glo "_law_kind" : He.Fa).ok K = true from c.fact 133 (f := .fa (.glo "_law_kind")) rfl)
  have m__law_parts : mg "_law_parts" = some (.ref (Pa.ad K (.g "_law_parts"))) := He.glo_ok X Gn (show (He.Fa.glo "_law_parts" : He.Fa).ok K = true from c.fact 134 (f := .fa (.glo "_law_parts")) rfl)
  have d_L_base_table : Def G 5 (Pa.ad K (.g "_law_base_table")) ["pool", "base_here", "many"] sp_L_base_table := def_okL F_L_base_table sc_L_base_table (fun _ _ _ _ _ _ us hl => match us, hl with | [_, _, _], _ => rfl) (pds_L_base_table (d_L_kind := d_L_kind) (m__law_kind := m__law_kind) (d_L_draw := d_L_draw) (m__law_draw := m__law_draw) (m_range := m_range) (d_L_parts := d_L_parts) (m__law_parts := m__law_parts)) r_L_base_table
  obtain ⟨fd_L_table_made, F_L_table_made⟩ := c.def_ 48 (d := df_L_table_made) rfl rfl
  have m__law_made : mg "_law_made" = some (.ref (Pa.ad K (.g "_law_made"))) := He.glo_ok X Gn (show (He.Fa.glo "_law_made" : He.Fa).ok K = true from c.fact 135 (f := .fa (.glo "_law_made")) rfl)
  have d_L_table_made : Def G 6 (Pa.ad K (.g "_law_table_made")) ["told"] sp_L_table_made := def_okL F_L_table_made sc_L_table_made (fun _ _ _ _ _ _ us hl => match us, hl with | [_], _ => rfl) (pds_L_table_made (d_Table__init := d_Table__init) (k_Table := k_Table) (m_list := m_list) (d_L_made := d_L_made) (m__law_made := m__law_made)) r_L_table_made
  obtain ⟨fd_L_others_right, F_L_others_right⟩ := c.def_ 49 (d := df_L_others_right) rfl rfl
  have m_super : mg "super" = none := He.free_ok X Gn (show (He.Fa.free "super" : He.Fa).ok K = true from c.fact 136 (f := .fa (.free "super")) rfl)
  have A_SmallShelf__init := c.at_ 50 (d := df_SmallShelf__init) rfl
  obtain ⟨cc_s, ca_s, S_SmallShelf__init⟩ := DfA.supD (P := P) (w := w) (mg := mg) (base := base) A_SmallShelf__init.1 A_SmallShelf__init.2 rfl hfile htop m_super
  have d_SmallShelf__init : Def G 2 (Pa.ad K (.m "SmallShelf" "__init__")) ["self", "base", "most"] sp_SmallShelf__init := d_small S_SmallShelf__init (z_super (c.fact 137 (f := .supm "SmallShelf" "SmallShelf" "__init__" "Shelf") rfl)) d_Shelf__init c_greatest
  have k_Shelf : MakeOk G "Shelf" (Pa.ad K (.m "Shelf" "__init__")) := ⟨He.mkr_ok (show (He.Fa.mkr "Shelf" : He.Fa).ok K = true from c.fact 138 (f := .fa (.mkr "Shelf")) rfl), He.glo_ok X Gn (show (He.Fa.glo "Shelf" : He.Fa).ok K = true from c.fact 113 (f := .fa (.glo "Shelf")) rfl)⟩
  have o_Shelf_put : MethOk G "Shelf" "put" (Pa.ad K (.m "Shelf" "put")) := ⟨He.cls_ok (show (He.Fa.cls "Shelf" : He.Fa).ok K = true from c.fact 12 (f := .fa (.cls "Shelf")) rfl), He.meth_ok (show (He.Fa.meth "Shelf" "put" : He.Fa).ok K = true from c.fact 139 (f := .fa (.meth "Shelf" "put")) rfl)⟩
  have o_SmallShelf_put : MethOk G "SmallShelf" "put" (Pa.ad K (.m "Shelf" "put")) := by
    rw [← of_decide_eq_true (c.fact 140 (f := .same (.m "SmallShelf" "put") (.m "Shelf" "put")) rfl)]
    exact ⟨He.cls_ok (show (He.Fa.cls "SmallShelf" : He.Fa).ok K = true from c.fact 14 (f := .fa (.cls "SmallShelf")) rfl), He.meth_ok (show (He.Fa.meth "SmallShelf" "put" : He.Fa).ok K = true from c.fact 141 (f := .fa (.meth "SmallShelf" "put")) rfl)⟩
  have z_eqS := (c.fact 142 (f := .eqm "Shelf" "__eq__" "Shelf") rfl)
  simp only [Fq.ok, Bool.and_eq_true, decide_eq_true_eq] at z_eqS
  have eq_Shelf : EqSh G "Shelf" := ⟨_, z_eqS.1, z_eqS.2, d_Shelf__eq⟩
  have k_SmallShelf : MakeOk G "SmallShelf" (Pa.ad K (.m "SmallShelf" "__init__")) := ⟨He.mkr_ok (show (He.Fa.mkr "SmallShelf" : He.Fa).ok K = true from c.fact 143 (f := .fa (.mkr "SmallShelf")) rfl), He.glo_ok X Gn (show (He.Fa.glo "SmallShelf" : He.Fa).ok K = true from c.fact 144 (f := .fa (.glo "SmallShelf")) rfl)⟩
  have z_eqT := (c.fact 145 (f := .eqm "SmallShelf" "__eq__" "Shelf") rfl)
  simp only [Fq.ok, Bool.and_eq_true, decide_eq_true_eq] at z_eqT
  have eq_Small : EqSh G "SmallShelf" := ⟨_, z_eqT.1, z_eqT.2, d_Shelf__eq⟩
  have w_SmallShelf : KwFn G (Pa.ad K (.m "SmallShelf" "__init__")) ["self", "base", "most"] 1 ["base", "most"] [0, 1] := kwFn_super S_SmallShelf__init fun _ _ _ _ _ us ws h1 h2 => match us, ws, h1, h2 with | [_], [_, _], _, _ => rfl
  have ne_ca : He.ga K "SmallShelf" ≠ He.ga K "Shelf" := of_decide_eq_true (c.fact 146 (f := .diff "SmallShelf" "Shelf") rfl)
  have d_L_others_right : Def G 53 (Pa.ad K (.g "_law_others_right")) ["base_here"] sp_L_others_right := def_okL F_L_others_right sc_L_others_right (fun _ _ _ _ _ _ us hl => match us, hl with | [_], _ => rfl) (pds_L_others_right (m_range := m_range) (d_Shelf__init := d_Shelf__init) (k_Shelf := k_Shelf) (d_Table__init := d_Table__init) (k_Table := k_Table) (d_Book__init := d_Book__init) (k_Book := k_Book) (d_Shelf_put := d_Shelf_put) (o_Shelf_put := o_Shelf_put) (o_SmallShelf_put := o_SmallShelf_put) (ty := ty) (eq_Shelf := eq_Shelf) (d_SmallShelf__init := d_SmallShelf__init) (k_SmallShelf := k_SmallShelf) (eq_Small := eq_Small) (w_SmallShelf := w_SmallShelf) (ne_ca := ne_ca) (m_isinstance := m_isinstance) (kc_Shelf := kc_Shelf)) r_L_others_right
  obtain ⟨fd_L_right, F_L_right⟩ := c.def_ 51 (d := df_L_right) rfl rfl
  have m__law_base_table : mg "_law_base_table" = some (.ref (Pa.ad K (.g "_law_base_table"))) := He.glo_ok X Gn (show (He.Fa.glo "_law_base_table" : He.Fa).ok K = true from c.fact 147 (f := .fa (.glo "_law_base_table")) rfl)
  have w_Shelf : KwFn G (Pa.ad K (.m "Shelf" "__init__")) ["self", "base"] 1 ["base"] [0] := kwFn_of F_Shelf__init fun _ _ _ _ _ _ us ws h1 h2 => match us, ws, h1, h2 with | [_], [_], _, _ => rfl
  have ne_Sh : NeSh G := by
    show PySem.W.findIn K (.ref (He.ga K "Shelf")) "__ne__" = some (some (.builtin "object.__ne__"))
    exact of_decide_eq_true (c.fact 148 (f := .find "Shelf" "__ne__" (.builtin "object.__ne__")) rfl)
  have m__law_table_made : mg "_law_table_made" = some (.ref (Pa.ad K (.g "_law_table_made"))) := He.glo_ok X Gn (show (He.Fa.glo "_law_table_made" : He.Fa).ok K = true from c.fact 149 (f := .fa (.glo "_law_table_made")) rfl)
  have p_Shelf_titles : PropOk G "Shelf" "titles" (Pa.ad K (.p "Shelf" "titles")) := z_prop (cl := He.cls_ok (show (He.Fa.cls "Shelf" : He.Fa).ok K = true from c.fact 12 (f := .fa (.cls "Shelf")) rfl)) (c.fact 150 (f := .prop "Shelf" "titles") rfl)
  have o_Shelf_undo : MethOk G "Shelf" "undo" (Pa.ad K (.m "Shelf" "undo")) := ⟨He.cls_ok (show (He.Fa.cls "Shelf" : He.Fa).ok K = true from c.fact 12 (f := .fa (.cls "Shelf")) rfl), He.meth_ok (show (He.Fa.meth "Shelf" "undo" : He.Fa).ok K = true from c.fact 151 (f := .fa (.meth "Shelf" "undo")) rfl)⟩
  have o_Shelf_drop : MethOk G "Shelf" "drop" (Pa.ad K (.m "Shelf" "drop")) := ⟨He.cls_ok (show (He.Fa.cls "Shelf" : He.Fa).ok K = true from c.fact 12 (f := .fa (.cls "Shelf")) rfl), He.meth_ok (show (He.Fa.meth "Shelf" "drop" : He.Fa).ok K = true from c.fact 152 (f := .fa (.meth "Shelf" "drop")) rfl)⟩
  have m__law_others_right : mg "_law_others_right" = some (.ref (Pa.ad K (.g "_law_others_right"))) := He.glo_ok X Gn (show (He.Fa.glo "_law_others_right" : He.Fa).ok K = true from c.fact 153 (f := .fa (.glo "_law_others_right")) rfl)
  have o_Shelf_table_on : MethOk G "Shelf" "table_on" (Pa.ad K (.m "Shelf" "table_on")) := ⟨He.cls_ok (show (He.Fa.cls "Shelf" : He.Fa).ok K = true from c.fact 12 (f := .fa (.cls "Shelf")) rfl), He.meth_ok (show (He.Fa.meth "Shelf" "table_on" : He.Fa).ok K = true from c.fact 154 (f := .fa (.meth "Shelf" "table_on")) rfl)⟩
  have d_L_right : Def G 99 (Pa.ad K (.g "_law_right")) ["pool"] sp_L_right := def_okL F_L_right sc_L_right (fun _ _ _ _ _ _ us hl => match us, hl with | [_], _ => rfl) (pds_L_right (d_L_draw := d_L_draw) (m__law_draw := m__law_draw) (d_L_base_table := d_L_base_table) (m__law_base_table := m__law_base_table) (d_Shelf__init := d_Shelf__init) (k_Shelf := k_Shelf) (w_Shelf := w_Shelf) (ty := ty) (eq_Shelf := eq_Shelf) (ne_Sh := ne_Sh) (d_L_table_made := d_L_table_made) (m__law_table_made := m__law_table_made) (d_Shelf_put := d_Shelf_put) (o_Shelf_put := o_Shelf_put) (o_SmallShelf_put := o_SmallShelf_put) (d_Shelf_titles := d_Shelf_titles) (p_Shelf_titles := p_Shelf_titles) (d_Shelf_undo := d_Shelf_undo) (o_Shelf_undo := o_Shelf_undo) (d_Shelf_drop := d_Shelf_drop) (o_Shelf_drop := o_Shelf_drop) (d_L_others_right := d_L_others_right) (m__law_others_right := m__law_others_right) (d_Shelf_table_on := d_Shelf_table_on) (o_Shelf_table_on := o_Shelf_table_on)) r_L_right
  obtain ⟨fd_law, F_law⟩ := c.def_ 52 (d := df_law) rfl rfl
  have m__law_pool : mg "_law_pool" = some (.ref (Pa.ad K (.g "_law_pool"))) := He.glo_ok X Gn (show (He.Fa.glo "_law_pool" : He.Fa).ok K = true from c.fact 155 (f := .fa (.glo "_law_pool")) rfl)
  have m__law_right : mg "_law_right" = some (.ref (Pa.ad K (.g "_law_right"))) := He.glo_ok X Gn (show (He.Fa.glo "_law_right" : He.Fa).ok K = true from c.fact 156 (f := .fa (.glo "_law_right")) rfl)
  have d_law : Def G 100 (Pa.ad K (.g "law")) ["script"] sp_law := def_okL F_law sc_law (fun _ _ _ _ _ _ us hl => match us, hl with | [_], _ => rfl) (pds_law (m_range := m_range) (m_max := m_max) (m_min := m_min) (m_len := m_len) (d_L_pool := d_L_pool) (m__law_pool := m__law_pool) (d_L_right := d_L_right) (m__law_right := m__law_right)) r_law
  have e := hfa.symm.trans (He.glo_ok X Gn (show (He.Fa.glo "law" : He.Fa).ok K = true from c.fact 157 (f := .fa (.glo "law")) rfl))
  cases e
  exact d_law
end HD
namespace HD
open PySem PySem.Spec PyProof.Rows L2
/-- the law's call, where the walk lets exceptions be told -/
theorem walk_law {l : PySem.W.OpenLaw} {n k : Nat} {q : Program} {loose : List Str} {XP : (Str → Option Value) → Heap → Prop} {YP : World → Heap → Prop} {d : DefRec} {x : Str} (hn : l.most = some n) (hn2 : n ≤ sizeLine) (hdf : d.params.defaults = []) (hr : Room k callerA)
    (F : ∀ (w : World) (mg : Str → Option Value) (fa : Addr) (h : Heap), YP w h → h.Ns mainGlobals mg → mg d.name = some (.ref fa) → ∃ (K : PySem.W.Frag) (fd : FuncData) (sp : Sp), K.In h ∧ (∀ (s : Shared) (u : Value), BindsTo s fd ⟨[u], []⟩ [(x, u)]) ∧
      (∀ (H : Hp) (a : Addr) (ns : List Int), ns.length ≤ n → Only H → SqL K H a (ns.map V.int) → sp [.ref a] H (fun v _ => v = .bl true) fun _ _ _ => False) ∧ ∀ base : Heap, K.In base → base.Ns mainGlobals mg → FnOk l.prog w K mg base (L2.CX l.prog w) k fa fd [x] sp) :
    PySem.W.WalkO q loose XP YP l.row.toRowW d [] (fun f vs => PySem.call f vs) := by
  refine Att.attach_call hn hdf fun w s₀ s₁ mg mb fa o pm cd doc a vs ns G Y ho hd hcd hmg hobj hints hlen hg => ?_
  obtain ⟨K, fd, sp, KX, hb, hsp, hF⟩ := F w mg fa _ Y G.T.g hmg
  refine law_call (CX := L2.CX l.prog w) KX G.T.g G.T.b G.T.builtins G.T.nolimit hg hobj hints (Nat.le_trans hlen hn2) hr hF hb (fun H hO hS => hsp H a ns hlen hO hS) fun H e s' z => ?_
  obtain ⟨_, _, _, _, _, _, _, _, _, _, _, _, z⟩ := z
  exact z
/-- a law's def over data, as the head asks it -/
theorem law_sp {P : Program} {w : World} {K : PySem.W.Frag} {mg : Str → Option Value} {base : Heap} {n : Nat} {S : DSp} (hS : ∀ (ns : List Int) M Q E, ns.length ≤ n → Q (.bl true) M → S [.ro (ns.map D.int)] M Q E) (H : Hp) (a : Addr) (ns : List Int) (hl : ns.length ≤ n) (hO : Only H) (h : SqL K H a (ns.map V.int)) :
    toSp ⟨P, w, K, mg, base⟩ 1 S [.ref a] H (fun v _ => v = .bl true) fun _ _ _ => False := by
  refine ⟨H, (fun _ => none : MS), (fun _ => none : Hp), [.ro (ns.map D.int)], fun d _ => d = .bl true, fun _ _ _ => False, ⟨fun _ _ h => h, fun _ _ h => absurd (show (none : Option MO) = some _ from h) nofun, fun _ _ h => absurd (show (none : Option HO) = some _ from h) nofun⟩, ?_, rfl, hS ns _ _ _ hl rfl, fun d v F' M' H' e w r hd => ?_, fun c d v dx F' M' H' e w r hx h => h.elim⟩
  · refine .cons ?_ .nil
    rw [Rep]
    exact ⟨a, _, rfl, h, Reps.of_ints ns⟩
  · subst hd
    rw [Rep] at r
    exact r
end HD
open PySem PySem.W PySem.Calls PyProof.Rows
theorem PySem.Challenge.cw_blockbooks_k62_equal_shelves_holds : PySem.Challenge.rw_blockbooks_k62_equal_shelves.Holds := by
  w_on; o_law
  refine HandSHeadRun.head_any (r := HD.RL) (q := view HD.RL.prog [HD.lawPlace]) (H := HD.hkL) (ob := HD.obL) (M := 12000) (loose := HD.nmL) (d := HandSHeadRun.topDef HD.RL.prog HD.lawPlace) (kwd := []) HD.obL_eq
    (by kernel_rfl) (fun s => by kernel_rfl) HD.runL (by kernel_rfl) (by kernel_rfl) (by kernel_rfl) (by rfl) (by first | assumption | decide +kernel) (by decide +kernel) ⟨rfl, rfl, rfl, rfl, rfl, by decide +kernel⟩ ?hw ?hc
  case hw => w_witness2
  case hc =>
    refine HD.walk_law (l := PySem.Challenge.rw_blockbooks_k62_equal_shelves) (n := 63) (k := 100) (x := "script") rfl (by decide) (by kernel_rfl) ⟨rfl, by decide, by decide⟩ ?F
    intro w mg fa h Y G hmg0
    obtain ⟨K, KX, c⟩ := Y
    have hmg : mg ("law" : PySem.Str) = some (.ref fa) := by
      have e : (HandSHeadRun.topDef HD.RL.prog HD.lawPlace).name = ("law" : PySem.Str) := by kernel_rfl
      rw [← e]
      exact hmg0
    obtain ⟨fd, F⟩ := c.def_ HD.lawDf (d := HD.df_law) rfl rfl
    have e := hmg.symm.trans (He.glo_ok KX G (show (He.Fa.glo "law").ok K = true from c.fact HD.lawFact (f := .fa (.glo "law")) rfl))
    cases e
    have b := L2.FunD.bindsA (ps := ["script"]) F fun _ _ _ _ _ _ us hl => match us, hl with | [_], _ => rfl
    refine ⟨K, fd, fun vs H Q E => ∀ base, HD.toSp ⟨PySem.Challenge.rw_blockbooks_k62_equal_shelves.prog, w, K, mg, base⟩ 1 HD.sp_law vs H Q E, KX, fun s v => b s [v] rfl, fun H a ns hl hO hS base => HD.law_sp (fun ns M Q E hl q => ⟨ns, rfl, hl, q⟩) H a ns hl hO hS, fun base Kb Gb => ?_⟩
    obtain ⟨fd', hb', Fk, oc', od', osl', lk'⟩ := (HD.facts (w := w) (base := base) rfl KX G hmg c).ex
    obtain ⟨oc, od, _, _, _, _, _, _, _, osl, e1, lk, _⟩ := F.ex
    have e2 := lk.symm.trans lk'
    cases e2
    exact Fk.imp fun vs H Q E z => z base
