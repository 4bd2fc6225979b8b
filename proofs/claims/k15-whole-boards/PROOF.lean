import PyProof.Rows.All
import Wide.All
import OpenK.AllK
import Wide.FinOn
import KE.KSuper
import HandS.ForMost
import HandS.Exc
import HandS.More
import HandS.Defaults
import HandS.ClsMeth
import HandS.HeadHook1
import HandS.HeadHook2
import HandS.HeadHook3
import PySem.Challenge.RW_pressnest_k15_whole_boards_upside_down
import HandS.Head0
import HandS.Head1
import HandS.Head2
import HandS.HeadEnd
import HandS.Style
import HandS.OwnEq
import HandS.Star
import HandS.Strs
import PyProof.InstNe
import HandS.Evl
import HandS.Codes
import HandS.IsInst
import HandS.StrMore
import HandS.Flow
import HandS.MakeKwOnly
import HandS.ListItems
import HandS.Steps
set_option Elab.async false
set_option linter.all false
set_option maxRecDepth 100000
set_option maxHeartbeats 0

/-! The text by places; the facts of the top, by names. Printed by gen_top.py. -/
namespace PN
set_option maxRecDepth 100000
set_option maxHeartbeats 0
open PySem PySem.Spec PyProof.Rows L2
abbrev prg : Program := PySem.Challenge.pw_pressnest_k15_whole_boards_upside_down
abbrev row : PySem.W.OpenLaw := PySem.Challenge.rw_pressnest_k15_whole_boards_upside_down
def top (i : Nat) : Stmt := prg.main.body.getD i (.Pass ⟨0, 0, 0, 0⟩)
abbrev s_is_integer : Stmt := top 15
abbrev s_is_name : Stmt := top 16
abbrev s_nets : Stmt := top 22
abbrev s_span : Stmt := top 23
abbrev s_mixed : Stmt := top 24
abbrev s_room : Stmt := top 25
abbrev s_barrel_of : Stmt := top 31
abbrev s_cut_at : Stmt := top 32
abbrev s_hole_of : Stmt := top 33
abbrev s_holes_of : Stmt := top 34
abbrev s_is_picture : Stmt := top 38
abbrev s_is_part : Stmt := top 39
abbrev s_are_parts : Stmt := top 40
abbrev s_fault_of_site : Stmt := top 41
abbrev s_has_twice : Stmt := top 47
abbrev s_law_pen : Stmt := top 52
abbrev s_law_draw : Stmt := top 53
abbrev s_law_picture : Stmt := top 54
abbrev s_law_can : Stmt := top 55
abbrev s_law_twice : Stmt := top 56
abbrev s_law_site_row : Stmt := top 57
abbrev s_law_site : Stmt := top 58
abbrev s_law_sites : Stmt := top 59
abbrev s_law_pieces : Stmt := top 60
abbrev s_law_other : Stmt := top 61
abbrev s_law_turned : Stmt := top 62
abbrev s_law_right : Stmt := top 63
abbrev s_law : Stmt := top 64
abbrev s_stretch_init : Stmt := inClass (top 19) 0
abbrev s_stretch_eq : Stmt := inClass (top 19) 1
abbrev s_stretch_within : Stmt := inClass (top 19) 7
abbrev s_stretch_turned : Stmt := inClass (top 19) 10
abbrev s_hole_init : Stmt := inClass (top 27) 1
abbrev s_hole_sides : Stmt := inClass (top 27) 3
abbrev s_hole_barrel : Stmt := inClass (top 27) 5
abbrev s_site_init : Stmt := inClass (top 42) 0
abbrev s_site_eq : Stmt := inClass (top 42) 1
abbrev s_site_mirrored : Stmt := inClass (top 42) 5
abbrev s_board_init : Stmt := inClass (top 48) 3
abbrev s_board_eq : Stmt := inClass (top 48) 4
abbrev s_board_len : Stmt := inClass (top 48) 5
abbrev s_board_mirrored : Stmt := inClass (top 48) 15
abbrev s_through_sides : Stmt := inClass (top 28) 1
abbrev s_through_barrel : Stmt := inClass (top 28) 3
abbrev s_blind_sides : Stmt := inClass (top 29) 1
abbrev s_blind_barrel : Stmt := inClass (top 29) 3
abbrev s_either_sides : Stmt := inClass (top 30) 1
abbrev s_either_barrel : Stmt := inClass (top 30) 3
abbrev s_site_of : Stmt := inClass (top 42) 3
abbrev s_board_of : Stmt := inClass (top 48) 12
/-! ### addresses by names -/
def c_Stretch (K : PySem.W.Frag) : Addr := He.ga K "Stretch"
def c_Hole (K : PySem.W.Frag) : Addr := He.ga K "Hole"
def c_Through (K : PySem.W.Frag) : Addr := He.ga K "Through"
def c_Blind (K : PySem.W.Frag) : Addr := He.ga K "Blind"
def c_Either (K : PySem.W.Frag) : Addr := He.ga K "Either"
def c_Site (K : PySem.W.Frag) : Addr := He.ga K "Site"
def c_Board (K : PySem.W.Frag) : Addr := He.ga K "Board"
def f_is_integer (K : PySem.W.Frag) : Addr := He.ga K "is_integer"
def f_is_name (K : PySem.W.Frag) : Addr := He.ga K "is_name"
def f_nets (K : PySem.W.Frag) : Addr := He.ga K "nets"
def f_span (K : PySem.W.Frag) : Addr := He.ga K "span"
def f_mixed (K : PySem.W.Frag) : Addr := He.ga K "mixed"
def f_room (K : PySem.W.Frag) : Addr := He.ga K "room"
def f_barrel_of (K : PySem.W.Frag) : Addr := He.ga K "barrel_of"
def f_cut_at (K : PySem.W.Frag) : Addr := He.ga K "cut_at"
def f_hole_of (K : PySem.W.Frag) : Addr := He.ga K "hole_of"
def f_holes_of (K : PySem.W.Frag) : Addr := He.ga K "holes_of"
def f_is_picture (K : PySem.W.Frag) : Addr := He.ga K "is_picture"
def f_is_part (K : PySem.W.Frag) : Addr := He.ga K "is_part"
def f_are_parts (K : PySem.W.Frag) : Addr := He.ga K "are_parts"
def f_fault_of_site (K : PySem.W.Frag) : Addr := He.ga K "fault_of_site"
def f_has_twice (K : PySem.W.Frag) : Addr := He.ga K "has_twice"
def f_law_pen (K : PySem.W.Frag) : Addr := He.ga K "_law_pen"
def f_law_draw (K : PySem.W.Frag) : Addr := He.ga K "_law_draw"
def f_law_picture (K : PySem.W.Frag) : Addr := He.ga K "_law_picture"
def f_law_can (K : PySem.W.Frag) : Addr := He.ga K "_law_can"
def f_law_twice (K : PySem.W.Frag) : Addr := He.ga K "_law_twice"
def f_law_site_row (K : PySem.W.Frag) : Addr := He.ga K "_law_site_row"
def f_law_site (K : PySem.W.Frag) : Addr := He.ga K "_law_site"
def f_law_sites (K : PySem.W.Frag) : Addr := He.ga K "_law_sites"
def f_law_pieces (K : PySem.W.Frag) : Addr := He.ga K "_law_pieces"
def f_law_other (K : PySem.W.Frag) : Addr := He.ga K "_law_other"
def f_law_turned (K : PySem.W.Frag) : Addr := He.ga K "_law_turned"
def f_law_right (K : PySem.W.Frag) : Addr := He.ga K "_law_right"
def f_law (K : PySem.W.Frag) : Addr := He.ga K "law"
def f_stretch_init (K : PySem.W.Frag) : Addr := He.ma K (c_Stretch K) "__init__"
def f_stretch_eq (K : PySem.W.Frag) : Addr := He.ma K (c_Stretch K) "__eq__"
def f_stretch_within (K : PySem.W.Frag) : Addr := He.ma K (c_Stretch K) "within"
def f_stretch_turned (K : PySem.W.Frag) : Addr := He.ma K (c_Stretch K) "turned"
def f_hole_init (K : PySem.W.Frag) : Addr := He.ma K (c_Hole K) "__init__"
def f_hole_sides (K : PySem.W.Frag) : Addr := He.ma K (c_Hole K) "sides"
def f_hole_barrel (K : PySem.W.Frag) : Addr := He.ma K (c_Hole K) "barrel"
def f_site_init (K : PySem.W.Frag) : Addr := He.ma K (c_Site K) "__init__"
def f_site_eq (K : PySem.W.Frag) : Addr := He.ma K (c_Site K) "__eq__"
def f_site_mirrored (K : PySem.W.Frag) : Addr := He.ma K (c_Site K) "mirrored"
def f_board_init (K : PySem.W.Frag) : Addr := He.ma K (c_Board K) "__init__"
def f_board_eq (K : PySem.W.Frag) : Addr := He.ma K (c_Board K) "__eq__"
def f_board_len (K : PySem.W.Frag) : Addr := He.ma K (c_Board K) "__len__"
def f_board_mirrored (K : PySem.W.Frag) : Addr := He.ma K (c_Board K) "mirrored"
def f_through_sides (K : PySem.W.Frag) : Addr := He.ma K (c_Through K) "sides"
def f_through_barrel (K : PySem.W.Frag) : Addr := He.ma K (c_Through K) "barrel"
def f_blind_sides (K : PySem.W.Frag) : Addr := He.ma K (c_Blind K) "sides"
def f_blind_barrel (K : PySem.W.Frag) : Addr := He.ma K (c_Blind K) "barrel"
def f_either_sides (K : PySem.W.Frag) : Addr := He.ma K (c_Either K) "sides"
def f_either_barrel (K : PySem.W.Frag) : Addr := He.ma K (c_Either K) "barrel"
/-- the record of a classmethod, its def -/
def cmDef (K : PySem.W.Frag) (p : Addr) : Addr := match PySem.W.recIn K p "classmethod" with
  | some (.ref f :: _) => f
  | _ => 0
def p_site_of (K : PySem.W.Frag) : Addr := He.ma K (c_Site K) "of"
def f_site_of (K : PySem.W.Frag) : Addr := cmDef K (p_site_of K)
def p_board_of (K : PySem.W.Frag) : Addr := He.ma K (c_Board K) "of"
def f_board_of (K : PySem.W.Frag) : Addr := cmDef K (p_board_of K)
/-! ### the defs -/
structure DD where
  ad : PySem.W.Frag → Addr
  name : Str
  qual : Str
  params : Arguments
  body : List Stmt
  scope : Scope
  dfl : List He.Dv := []
  clo : List Str := []
abbrev FnZ : Type := Option (Str × Str × Arguments × FuncBody × Scope × Addr × List Str × Addr)
def fnZ (K : PySem.W.Frag) (a : Addr) : FnZ := match K.lookup a with
  | some ⟨_, _, .func fd, _⟩ => some (fd.name, fd.qualname, fd.params, fd.body, fd.scope, fd.globals, fd.closure.map (·.1), fd.builtins)
  | _ => none
def DD.val (d : DD) : FnZ := some (d.name, d.qual, d.params, .stmts d.body, d.scope, mainGlobals, d.clo, builtinsNs)
def DD.dvs (K : PySem.W.Frag) (d : DD) : List V := d.dfl.map (He.Dv.v K)
def DD.ok (K : PySem.W.Frag) (d : DD) : Bool := PySem.W.keepIn K (.ref (d.ad K)) && (match K.lookup (d.ad K) with
  | some ⟨_, _, .func fd, _⟩ => PySem.W.codeIn K fd.code d.qual && He.dflB K fd.defaults (d.dvs K)
  | _ => false)
theorem DD.funD {K : PySem.W.Frag} {d : DD} (hc : d.clo = []) (e : fnZ K (d.ad K) = d.val) (c : d.ok K = true) : ∃ fd, FunD K d.name d.qual d.params d.body d.scope (d.dvs K) [] (d.ad K) fd := by
  obtain ⟨kp, c2⟩ := He.ba c
  unfold fnZ at e
  cases q : K.lookup (d.ad K) with
  | none =>
    rw [q] at c2
    cases c2
  | some o =>
    obtain ⟨oc, od, dt, osl⟩ := o
    rw [q] at c2 e
    cases dt with
    | func fd =>
      obtain ⟨n1, n2, n3, n4, n5, n6, n7, n8, n9, n10, n11, n12, n13, n14, n15⟩ := fd
      have e2 : (some (n1, n2, n3, n4, n5, n6, n7.map (·.1), n15) : FnZ) = some (d.name, d.qual, d.params, .stmts d.body, d.scope, mainGlobals, d.clo, builtinsNs) := e
      simp only [Option.some.injEq, Prod.mk.injEq] at e2
      obtain ⟨h1, h2, h3, h4, h5, h6, h7, h8⟩ := e2
      rw [hc] at h7
      have h7' : n7 = [] := List.map_eq_nil_iff.mp h7
      subst h1 h2 h3 h4 h5 h6 h7' h8
      have c3 : (PySem.W.codeIn K n13 d.qual && He.dflB K n8 (d.dvs K)) = true := c2
      obtain ⟨k1, k2⟩ := He.ba c3
      exact ⟨_, ⟨oc, od, n8, n9, n10, n11, n12, n13, n14, osl, rfl, q, k1, He.dflB_ok k2, .inl rfl⟩, kp⟩
    | _ => cases c2
/-- a def that says super(): its cell, its code's file -/
structure SupD (K : PySem.W.Frag) (x qual : Str) (params : Arguments) (body : List Stmt) (scope : Scope) (D f : Addr) (fd : FuncData) : Prop where
  ex : ∃ (oc : Value) (od : Option Addr) (kV doc pm : Value) (an : Option Addr) (cda : Addr) (ct : Value) (osl : Array (Option Value)) (cc : Addr),
    fd = PySem.W.fnX x qual params body scope [("__class__", cc)] .none kV doc pm an (.ref cda) ct ∧ K.lookup f = some ⟨oc, od, .func fd, osl⟩ ∧ PySem.W.codeIn K (.ref cda) qual = true ∧
    (∃ (cl : Value) (cld : Option Addr) (csl : Array (Option Value)), K.lookup cc = some ⟨cl, cld, .cell (some (.ref D)), csl⟩) ∧
    (∃ (ccl : Value) (cdd : Option Addr) (vs : Array Value) (ccs : Array (Option Value)) (tf : Tok), K.lookup cda = some ⟨ccl, cdd, .fields vs, ccs⟩ ∧ vs[2]? = some (.str "/claim/cut.py" tf))
  kp : PySem.W.keepIn K (.ref f) = true
def supB (K : PySem.W.Frag) (a D : Addr) : Bool := match K.lookup a with
  | some ⟨_, _, .func fd, _⟩ => (match fd.closure with
      | [(_, cc)] => (match K.lookup cc with
        | some ⟨_, _, .cell (some (.ref d)), _⟩ => decide (d = D)
        | _ => false)
      | _ => false) && (match fd.code with
      | .ref c => (match K.lookup c with
        | some ⟨_, _, .fields vs, _⟩ => (match (vs.toList[2]? : Option Value) with
          | some (Value.str f _) => decide (f = "/claim/cut.py")
          | _ => false)
        | _ => false)
      | _ => false)
  | _ => false
theorem DD.supD {K : PySem.W.Frag} {d : DD} {D : Addr} (hdf : d.dfl = []) (hc : d.clo = ([("__class__" : Str)] : List Str)) (e : fnZ K (d.ad K) = d.val) (c : d.ok K = true) (s : supB K (d.ad K) D = true) : ∃ fd, SupD K d.name d.qual d.params d.body d.scope D (d.ad K) fd := by
  obtain ⟨kp, c2⟩ := He.ba c
  unfold fnZ at e
  unfold supB at s
  cases q : K.lookup (d.ad K) with
  | none =>
    rw [q] at c2
    cases c2
  | some o =>
    obtain ⟨oc, od, dt, osl⟩ := o
    rw [q] at c2 e s
    cases dt with
    | func fd =>
      obtain ⟨n1, n2, n3, n4, n5, n6, n7, n8, n9, n10, n11, n12, n13, n14, n15⟩ := fd
      have e2 : (some (n1, n2, n3, n4, n5, n6, n7.map (·.1), n15) : FnZ) = some (d.name, d.qual, d.params, .stmts d.body, d.scope, mainGlobals, d.clo, builtinsNs) := e
      simp only [Option.some.injEq, Prod.mk.injEq] at e2
      obtain ⟨h1, h2, h3, h4, h5, h6, h7, h8⟩ := e2
      rw [hc] at h7
      subst h1 h2 h3 h4 h5 h6 h8
      have c3 : (PySem.W.codeIn K n13 d.qual && He.dflB K n8 (d.dvs K)) = true := c2
      obtain ⟨k1, k2⟩ := He.ba c3
      obtain ⟨s1, s2⟩ := He.ba s
      cases n7 with
      | nil => cases h7
      | cons y r =>
        obtain ⟨yn, cc⟩ := y
        cases r with
        | cons y2 r2 => simp at h7
        | nil =>
          have hn : yn = "__class__" := by simpa using h7
          subst hn
          cases n13 with
          | ref cda =>
            have hd8 : n8 = .none := by
              rcases He.dflB_ok k2 with ⟨_, z⟩ | ⟨z, _⟩
              · exact z
              · rw [show d.dvs K = [] from by unfold DD.dvs; rw [hdf]; rfl] at z
                exact absurd rfl z
            subst hd8
            refine ⟨_, ⟨oc, od, n9, n10, n11, n12, cda, n14, osl, cc, rfl, q, k1, ?_, ?_⟩, kp⟩
            · clear s2
              dsimp only at s1
              split at s1
              · rename_i cl cld dd csl hcc
                rw [← of_decide_eq_true s1]
                exact ⟨cl, cld, csl, hcc⟩
              · cases s1
            · clear s1
              dsimp only at s2
              split at s2
              · rename_i ccl cdd vs ccs hcd
                split at s2
                · rename_i f tf hv
                  rw [of_decide_eq_true s2] at hv
                  exact ⟨ccl, cdd, vs, ccs, tf, hcd, by rw [← Array.getElem?_toList]; exact hv⟩
                · cases s2
              · cases s2
          | _ => cases k1
    | _ => cases c2
def d_is_integer : DD := ⟨f_is_integer, "is_integer", "is_integer", defArgs s_is_integer, defBody s_is_integer, defScope s_is_integer, [], []⟩
def d_is_name : DD := ⟨f_is_name, "is_name", "is_name", defArgs s_is_name, defBody s_is_name, defScope s_is_name, [], []⟩
def d_nets : DD := ⟨f_nets, "nets", "nets", defArgs s_nets, defBody s_nets, defScope s_nets, [], []⟩
def d_span : DD := ⟨f_span, "span", "span", defArgs s_span, defBody s_span, defScope s_span, [], []⟩
def d_mixed : DD := ⟨f_mixed, "mixed", "mixed", defArgs s_mixed, defBody s_mixed, defScope s_mixed, [], []⟩
def d_room : DD := ⟨f_room, "room", "room", defArgs s_room, defBody s_room, defScope s_room, [], []⟩
def d_barrel_of : DD := ⟨f_barrel_of, "barrel_of", "barrel_of", defArgs s_barrel_of, defBody s_barrel_of, defScope s_barrel_of, [], []⟩
def d_cut_at : DD := ⟨f_cut_at, "cut_at", "cut_at", defArgs s_cut_at, defBody s_cut_at, defScope s_cut_at, [], []⟩
def d_hole_of : DD := ⟨f_hole_of, "hole_of", "hole_of", defArgs s_hole_of, defBody s_hole_of, defScope s_hole_of, [], []⟩
def d_holes_of : DD := ⟨f_holes_of, "holes_of", "holes_of", defArgs s_holes_of, defBody s_holes_of, defScope s_holes_of, [], []⟩
def d_is_picture : DD := ⟨f_is_picture, "is_picture", "is_picture", defArgs s_is_picture, defBody s_is_picture, defScope s_is_picture, [], []⟩
def d_is_part : DD := ⟨f_is_part, "is_part", "is_part", defArgs s_is_part, defBody s_is_part, defScope s_is_part, [], []⟩
def d_are_parts : DD := ⟨f_are_parts, "are_parts", "are_parts", defArgs s_are_parts, defBody s_are_parts, defScope s_are_parts, [], []⟩
def d_fault_of_site : DD := ⟨f_fault_of_site, "fault_of_site", "fault_of_site", defArgs s_fault_of_site, defBody s_fault_of_site, defScope s_fault_of_site, [], []⟩
def d_has_twice : DD := ⟨f_has_twice, "has_twice", "has_twice", defArgs s_has_twice, defBody s_has_twice, defScope s_has_twice, [], []⟩
def d_law_pen : DD := ⟨f_law_pen, "_law_pen", "_law_pen", defArgs s_law_pen, defBody s_law_pen, defScope s_law_pen, [], []⟩
def d_law_draw : DD := ⟨f_law_draw, "_law_draw", "_law_draw", defArgs s_law_draw, defBody s_law_draw, defScope s_law_draw, [], []⟩
def d_law_picture : DD := ⟨f_law_picture, "_law_picture", "_law_picture", defArgs s_law_picture, defBody s_law_picture, defScope s_law_picture, [], []⟩
def d_law_can : DD := ⟨f_law_can, "_law_can", "_law_can", defArgs s_law_can, defBody s_law_can, defScope s_law_can, [], []⟩
def d_law_twice : DD := ⟨f_law_twice, "_law_twice", "_law_twice", defArgs s_law_twice, defBody s_law_twice, defScope s_law_twice, [], []⟩
def d_law_site_row : DD := ⟨f_law_site_row, "_law_site_row", "_law_site_row", defArgs s_law_site_row, defBody s_law_site_row, defScope s_law_site_row, [], []⟩
def d_law_site : DD := ⟨f_law_site, "_law_site", "_law_site", defArgs s_law_site, defBody s_law_site, defScope s_law_site, [], []⟩
def d_law_sites : DD := ⟨f_law_sites, "_law_sites", "_law_sites", defArgs s_law_sites, defBody s_law_sites, defScope s_law_sites, [], []⟩
def d_law_pieces : DD := ⟨f_law_pieces, "_law_pieces", "_law_pieces", defArgs s_law_pieces, defBody s_law_pieces, defScope s_law_pieces, [], []⟩
def d_law_other : DD := ⟨f_law_other, "_law_other", "_law_other", defArgs s_law_other, defBody s_law_other, defScope s_law_other, [], []⟩
def d_law_turned : DD := ⟨f_law_turned, "_law_turned", "_law_turned", defArgs s_law_turned, defBody s_law_turned, defScope s_law_turned, [], []⟩
def d_law_right : DD := ⟨f_law_right, "_law_right", "_law_right", defArgs s_law_right, defBody s_law_right, defScope s_law_right, [], []⟩
def d_law : DD := ⟨f_law, "law", "law", defArgs s_law, defBody s_law, defScope s_law, [], []⟩
def d_stretch_init : DD := ⟨f_stretch_init, "__init__", "Stretch.__init__", defArgs s_stretch_init, defBody s_stretch_init, defScope s_stretch_init, [], []⟩
def d_stretch_eq : DD := ⟨f_stretch_eq, "__eq__", "Stretch.__eq__", defArgs s_stretch_eq, defBody s_stretch_eq, defScope s_stretch_eq, [], []⟩
def d_stretch_within : DD := ⟨f_stretch_within, "within", "Stretch.within", defArgs s_stretch_within, defBody s_stretch_within, defScope s_stretch_within, [], []⟩
def d_stretch_turned : DD := ⟨f_stretch_turned, "turned", "Stretch.turned", defArgs s_stretch_turned, defBody s_stretch_turned, defScope s_stretch_turned, [], []⟩
def d_hole_init : DD := ⟨f_hole_init, "__init__", "Hole.__init__", defArgs s_hole_init, defBody s_hole_init, defScope s_hole_init, [], []⟩
def d_hole_sides : DD := ⟨f_hole_sides, "sides", "Hole.sides", defArgs s_hole_sides, defBody s_hole_sides, defScope s_hole_sides, [], []⟩
def d_hole_barrel : DD := ⟨f_hole_barrel, "barrel", "Hole.barrel", defArgs s_hole_barrel, defBody s_hole_barrel, defScope s_hole_barrel, [], []⟩
def d_site_init : DD := ⟨f_site_init, "__init__", "Site.__init__", defArgs s_site_init, defBody s_site_init, defScope s_site_init, [], []⟩
def d_site_eq : DD := ⟨f_site_eq, "__eq__", "Site.__eq__", defArgs s_site_eq, defBody s_site_eq, defScope s_site_eq, [], []⟩
def d_site_mirrored : DD := ⟨f_site_mirrored, "mirrored", "Site.mirrored", defArgs s_site_mirrored, defBody s_site_mirrored, defScope s_site_mirrored, [], []⟩
def d_board_init : DD := ⟨f_board_init, "__init__", "Board.__init__", defArgs s_board_init, defBody s_board_init, defScope s_board_init, [], []⟩
def d_board_eq : DD := ⟨f_board_eq, "__eq__", "Board.__eq__", defArgs s_board_eq, defBody s_board_eq, defScope s_board_eq, [], []⟩
def d_board_len : DD := ⟨f_board_len, "__len__", "Board.__len__", defArgs s_board_len, defBody s_board_len, defScope s_board_len, [], []⟩
def d_board_mirrored : DD := ⟨f_board_mirrored, "mirrored", "Board.mirrored", defArgs s_board_mirrored, defBody s_board_mirrored, defScope s_board_mirrored, [], []⟩
def d_through_sides : DD := ⟨f_through_sides, "sides", "Through.sides", defArgs s_through_sides, defBody s_through_sides, defScope s_through_sides, [], ["__class__"]⟩
def d_through_barrel : DD := ⟨f_through_barrel, "barrel", "Through.barrel", defArgs s_through_barrel, defBody s_through_barrel, defScope s_through_barrel, [], ["__class__"]⟩
def d_blind_sides : DD := ⟨f_blind_sides, "sides", "Blind.sides", defArgs s_blind_sides, defBody s_blind_sides, defScope s_blind_sides, [], ["__class__"]⟩
def d_blind_barrel : DD := ⟨f_blind_barrel, "barrel", "Blind.barrel", defArgs s_blind_barrel, defBody s_blind_barrel, defScope s_blind_barrel, [], ["__class__"]⟩
def d_either_sides : DD := ⟨f_either_sides, "sides", "Either.sides", defArgs s_either_sides, defBody s_either_sides, defScope s_either_sides, [], ["__class__"]⟩
def d_either_barrel : DD := ⟨f_either_barrel, "barrel", "Either.barrel", defArgs s_either_barrel, defBody s_either_barrel, defScope s_either_barrel, [], ["__class__"]⟩
def d_site_of : DD := ⟨f_site_of, "of", "Site.of", defArgs s_site_of, defBody s_site_of, defScope s_site_of, [.str "either", .int 1, .int 0], []⟩
def d_board_of : DD := ⟨f_board_of, "of", "Board.of", defArgs s_board_of, defBody s_board_of, defScope s_board_of, [], []⟩
def dds0 : List DD := [d_is_integer, d_is_name, d_nets, d_span, d_mixed, d_room, d_barrel_of, d_cut_at, d_hole_of, d_holes_of, d_is_picture, d_is_part, d_are_parts, d_fault_of_site, d_has_twice, d_law_pen, d_law_draw, d_law_picture, d_law_can, d_law_twice]
def dds1 : List DD := [d_law_site_row, d_law_site, d_law_sites, d_law_pieces, d_law_other, d_law_turned, d_law_right, d_law, d_stretch_init, d_stretch_eq, d_stretch_within, d_stretch_turned, d_hole_init, d_hole_sides, d_hole_barrel, d_site_init, d_site_eq, d_site_mirrored, d_board_init, d_board_eq]
def dds2 : List DD := [d_board_len, d_board_mirrored, d_through_sides, d_through_barrel, d_blind_sides, d_blind_barrel, d_either_sides, d_either_barrel, d_site_of, d_board_of]
def dds : List DD := dds0 ++ (dds1 ++ (dds2))
/-! ### facts -/
def clsB (K : PySem.W.Frag) (C : Addr) : Bool := PySem.W.plainGet K C Str.empty && (PySem.W.hasDictIn K C && (PySem.W.plainOver K C && He.eqO (PySem.W.findIn K (.ref C) "__setattr__") (some (some (.builtin "object.__setattr__")))))
theorem clsB_ok {K : PySem.W.Frag} {C : Addr} (c : clsB K C = true) : Cls K C := by
  obtain ⟨c1, c⟩ := He.ba c
  obtain ⟨c2, c⟩ := He.ba c
  obtain ⟨c3, c4⟩ := He.ba c
  exact ⟨c1, c2, c3, He.eqO_ok c4⟩
def methB (K : PySem.W.Frag) (C : Addr) (m : Str) (f : Addr) : Bool := He.eqO (PySem.W.findIn K (.ref C) m) (some (some (.ref f))) && (PySem.W.isFn K (.ref f) && PySem.W.keepIn K (.ref f))
theorem methB_ok {K : PySem.W.Frag} {C f : Addr} {m : Str} (c : methB K C m f = true) : Meth K C m f := by
  obtain ⟨c1, c⟩ := He.ba c
  obtain ⟨c2, c3⟩ := He.ba c
  exact ⟨He.eqO_ok c1, c2, c3⟩
def mkB (K : PySem.W.Frag) (C f : Addr) : Bool := PySem.W.makesIn K C && (He.eqO (PySem.W.findIn K (.ref C) "__init__") (some (some (.ref f))) && (PySem.W.isFn K (.ref f) && PySem.W.keepIn K (.ref C)))
theorem mkB_ok {K : PySem.W.Frag} {C f : Addr} (c : mkB K C f = true) : Mk K C f := by
  obtain ⟨c1, c⟩ := He.ba c
  obtain ⟨c2, c⟩ := He.ba c
  obtain ⟨c3, c4⟩ := He.ba c
  exact ⟨c1, He.eqO_ok c2, c3, c4⟩
def noB (K : PySem.W.Frag) (C : Addr) (f : Str) : Bool := He.eqO (PySem.W.findIn K (.ref C) f) (some none)
theorem noB_ok {K : PySem.W.Frag} {C : Addr} {f : Str} (c : noB K C f = true) : NoAttr K C f := He.eqO_ok c
def conB (K : PySem.W.Frag) (C : Addr) (f : Str) (v : V) : Bool := match PySem.W.findIn K (.ref C) f with
  | some (some u) => He.relB v u && He.eqO (PySem.W.specialIn K u "__get__") (some none)
  | _ => false
theorem conB_ok {K : PySem.W.Frag} {C : Addr} {f : Str} {v : V} (h : conB K C f v = true) (hc : PySem.W.copiedNames.contains f = false := by decide) : ∃ u, Con K C f v u := by
  unfold conB at h
  split at h
  · rename_i u e
    obtain ⟨h1, h2⟩ := He.ba h
    exact ⟨u, e, He.relB_ok h1, He.eqO_ok h2, hc⟩
  · cases h
/-- what isinstance asks of an own class -/
structure Isi (K : PySem.W.Frag) (C : Addr) : Prop where
  ha : PySem.W.findIn K (.ref C) "__class__" = some (some (.builtin "object.__class__"))
  hn : PySem.W.specialIn K (.builtin "object.__class__") "__get__" = some (some (.builtin "getset_descriptor.__get__"))
  htk : PySem.W.takesIn K (.builtin "object.__class__") = some true
  hm : PySem.W.mroIn K C (.type "object") = some true
def isiB (K : PySem.W.Frag) (C : Addr) : Bool := He.eqO (PySem.W.findIn K (.ref C) "__class__") (some (some (.builtin "object.__class__"))) && (He.eqO (PySem.W.specialIn K (.builtin "object.__class__") "__get__") (some (some (.builtin "getset_descriptor.__get__"))) &&
  (decide (PySem.W.takesIn K (.builtin "object.__class__") = some true) && decide (PySem.W.mroIn K C (.type "object") = some true)))
theorem isiB_ok {K : PySem.W.Frag} {C : Addr} (c : isiB K C = true) : Isi K C := by
  obtain ⟨c1, c⟩ := He.ba c
  obtain ⟨c2, c⟩ := He.ba c
  obtain ⟨c3, c4⟩ := He.ba c
  exact ⟨He.eqO_ok c1, He.eqO_ok c2, of_decide_eq_true c3, of_decide_eq_true c4⟩
/-- a classmethod read off its class -/
def cmB (K : PySem.W.Frag) (C : Addr) (m : Str) (p f : Addr) : Bool := (PySem.W.readsIn K C (.type "type") && He.eqO (PySem.W.specialIn K (.ref C) "__getattribute__") (some (some (.builtin "type.__getattribute__")))) && ((match PySem.W.findCls K (.ref C) (.type "type") m with
    | some (.get (.builtin g) (.ref q) .none (.ref D)) => decide (g = "classmethod.__get__") && (decide (q = p) && decide (D = C))
    | _ => false) && ((match PySem.W.recIn K p "classmethod" with
    | some (.ref g :: _) => decide (g = f)
    | _ => false) && PySem.W.fnIn K f))
theorem cmB_ok {K : PySem.W.Frag} {C p f : Addr} {m : Str} (c : cmB K C m p f = true) : ClX.CRead K C (.type "type") ∧ ClX.CMet K C (.type "type") m p f := by
  obtain ⟨c0, c⟩ := He.ba c
  obtain ⟨c1, c2⟩ := He.ba c0
  obtain ⟨c3, c⟩ := He.ba c
  obtain ⟨c4, c5⟩ := He.ba c
  refine ⟨⟨c1, He.eqO_ok c2⟩, ?_, ?_, c5⟩
  · clear c4 c5
    split at c3
    · rename_i g q D e
      obtain ⟨k1, k⟩ := He.ba c3
      obtain ⟨k2, k3⟩ := He.ba k
      rw [e, of_decide_eq_true k1, of_decide_eq_true k2, of_decide_eq_true k3]
    · cases c3
  · clear c3 c5
    split at c4
    · rename_i g r e
      exact ⟨r, by rw [e, of_decide_eq_true c4]⟩
    · cases c4
/-- super() in a def of the class at D, the instance of the class at C: m is found at f -/
structure Sup (K : PySem.W.Frag) (C D : Addr) (m : Str) (f : Addr) : Prop where
  at_ : PySem.W.ks_superIn K C D m = some (some (.ref f))
  ty : PySem.W.typeIn K (.ref f) = some (.type "function")
  cls : ∃ cd, PySem.W.clsIn K D = some cd
  mro : PySem.W.mroIn K C (.ref D) = some true
  fi : PySem.W.fnIn K f = true
def supMB (K : PySem.W.Frag) (C D : Addr) (m : Str) (f : Addr) : Bool := He.eqO (PySem.W.ks_superIn K C D m) (some (some (.ref f))) && (decide (PySem.W.typeIn K (.ref f) = some (.type "function")) && ((PySem.W.clsIn K D).isSome && (decide (PySem.W.mroIn K C (.ref D) = some true) && PySem.W.fnIn K f)))
theorem supMB_ok {K : PySem.W.Frag} {C D f : Addr} {m : Str} (c : supMB K C D m f = true) : Sup K C D m f := by
  obtain ⟨c1, c⟩ := He.ba c
  obtain ⟨c2, c⟩ := He.ba c
  obtain ⟨c3, c⟩ := He.ba c
  obtain ⟨c4, c5⟩ := He.ba c
  exact ⟨He.eqO_ok c1, of_decide_eq_true c2, Option.isSome_iff_exists.mp c3, of_decide_eq_true c4, c5⟩
/-- == and != by an own __eq__ -/
structure OwnEq (K : PySem.W.Frag) (C f : Addr) : Prop where
  eq : PySem.W.findIn K (.ref C) "__eq__" = some (some (.ref f))
  fn : PySem.W.isFn K (.ref f) = true
  ne : PySem.W.findIn K (.ref C) "__ne__" = some (some (.builtin "object.__ne__"))
  top : PySem.W.mroIn K C (.type "object") = some true
def eqB (K : PySem.W.Frag) (C f : Addr) : Bool := He.eqO (PySem.W.findIn K (.ref C) "__eq__") (some (some (.ref f))) && (PySem.W.isFn K (.ref f) && (He.eqO (PySem.W.findIn K (.ref C) "__ne__") (some (some (.builtin "object.__ne__"))) && decide (PySem.W.mroIn K C (.type "object") = some true)))
theorem eqB_ok {K : PySem.W.Frag} {C f : Addr} (c : eqB K C f = true) : OwnEq K C f := by
  obtain ⟨c1, c⟩ := He.ba c
  obtain ⟨c2, c⟩ := He.ba c
  obtain ⟨c3, c4⟩ := He.ba c
  exact ⟨He.eqO_ok c1, c2, He.eqO_ok c3, of_decide_eq_true c4⟩
def gloB (K : PySem.W.Frag) (x : Str) (a : Addr) : Bool := He.eqO (PySem.W.nsIn K mainGlobals x) (some (some (.ref a)))
theorem gloB_ok {K : PySem.W.Frag} {h : Heap} {mg : Str → Option Value} (X : K.In h) (G : h.Ns mainGlobals mg) {x : Str} {a : Addr} (c : gloB K x a = true) : mg x = some (.ref a) := PySem.W.mg_of X G (He.eqO_ok c)
def fbs0 (K : PySem.W.Frag) : List Bool := [clsB K (c_Stretch K), mkB K (c_Stretch K) (f_stretch_init K), clsB K (c_Through K), mkB K (c_Through K) (f_hole_init K), clsB K (c_Blind K), mkB K (c_Blind K) (f_hole_init K), clsB K (c_Either K), mkB K (c_Either K) (f_hole_init K), clsB K (c_Site K), mkB K (c_Site K) (f_site_init K), clsB K (c_Board K), mkB K (c_Board K) (f_board_init K), noB K (c_Stretch K) "low", noB K (c_Stretch K) "high", noB K (c_Through K) "must", noB K (c_Through K) "may", noB K (c_Through K) "site", noB K (c_Through K) "number", noB K (c_Through K) "depth", noB K (c_Through K) "patience"]
def fbs1 (K : PySem.W.Frag) : List Bool := [noB K (c_Site K) "name", noB K (c_Site K) "picture", noB K (c_Site K) "parts", noB K (c_Site K) "kind", noB K (c_Site K) "depth", noB K (c_Site K) "patience", noB K (c_Site K) "holes", noB K (c_Board K) "layers", noB K (c_Board K) "sites", noB K (c_Board K) "holes", noB K (c_Blind K) "must", noB K (c_Blind K) "may", noB K (c_Blind K) "site", noB K (c_Blind K) "number", noB K (c_Blind K) "depth", noB K (c_Blind K) "patience", noB K (c_Either K) "must", noB K (c_Either K) "may", noB K (c_Either K) "site", noB K (c_Either K) "number"]
def fbs2 (K : PySem.W.Frag) : List Bool := [noB K (c_Either K) "depth", noB K (c_Either K) "patience", conB K (c_Through K) "KIND" (.str "through"), conB K (c_Blind K) "KIND" (.str "blind"), conB K (c_Either K) "KIND" (.str "either"), conB K (c_Board K) "MOST_LAYERS" (.int 16), conB K (c_Board K) "MOST_SITES" (.int 40), conB K (c_Board K) "MOST_HOLES" (.int 60), methB K (c_Stretch K) "within" (f_stretch_within K), methB K (c_Stretch K) "turned" (f_stretch_turned K), methB K (c_Through K) "sides" (f_through_sides K), methB K (c_Through K) "barrel" (f_through_barrel K), methB K (c_Blind K) "sides" (f_blind_sides K), methB K (c_Blind K) "barrel" (f_blind_barrel K), methB K (c_Either K) "sides" (f_either_sides K), methB K (c_Either K) "barrel" (f_either_barrel K), methB K (c_Site K) "mirrored" (f_site_mirrored K), methB K (c_Board K) "mirrored" (f_board_mirrored K), methB K (c_Board K) "__len__" (f_board_len K), eqB K (c_Stretch K) (f_stretch_eq K)]
def fbs3 (K : PySem.W.Frag) : List Bool := [eqB K (c_Site K) (f_site_eq K), eqB K (c_Board K) (f_board_eq K), isiB K (c_Stretch K), isiB K (c_Site K), isiB K (c_Board K), cmB K (c_Site K) "of" (p_site_of K) (f_site_of K), cmB K (c_Board K) "of" (p_board_of K) (f_board_of K), supMB K (c_Through K) (c_Through K) "sides" (f_hole_sides K), supMB K (c_Blind K) (c_Blind K) "sides" (f_hole_sides K), supMB K (c_Either K) (c_Either K) "sides" (f_through_sides K), supMB K (c_Either K) (c_Through K) "sides" (f_blind_sides K), supMB K (c_Either K) (c_Blind K) "sides" (f_hole_sides K), supMB K (c_Through K) (c_Through K) "barrel" (f_hole_barrel K), supMB K (c_Blind K) (c_Blind K) "barrel" (f_hole_barrel K), supMB K (c_Either K) (c_Either K) "barrel" (f_through_barrel K), supMB K (c_Either K) (c_Through K) "barrel" (f_blind_barrel K), supMB K (c_Either K) (c_Blind K) "barrel" (f_hole_barrel K), He.eqO (PySem.W.nsIn K cStatics "thirdparty.any") (some none), He.tupB K "KINDS" [.str "through", .str "blind", .str "either"], gloB K "is_integer" (f_is_integer K)]
def fbs4 (K : PySem.W.Frag) : List Bool := [gloB K "is_name" (f_is_name K), gloB K "nets" (f_nets K), gloB K "span" (f_span K), gloB K "mixed" (f_mixed K), gloB K "room" (f_room K), gloB K "barrel_of" (f_barrel_of K), gloB K "cut_at" (f_cut_at K), gloB K "hole_of" (f_hole_of K), gloB K "holes_of" (f_holes_of K), gloB K "is_picture" (f_is_picture K), gloB K "is_part" (f_is_part K), gloB K "are_parts" (f_are_parts K), gloB K "fault_of_site" (f_fault_of_site K), gloB K "has_twice" (f_has_twice K), gloB K "_law_pen" (f_law_pen K), gloB K "_law_draw" (f_law_draw K), gloB K "_law_picture" (f_law_picture K), gloB K "_law_can" (f_law_can K), gloB K "_law_twice" (f_law_twice K), gloB K "_law_site_row" (f_law_site_row K)]
def fbs5 (K : PySem.W.Frag) : List Bool := [gloB K "_law_site" (f_law_site K), gloB K "_law_sites" (f_law_sites K), gloB K "_law_pieces" (f_law_pieces K), gloB K "_law_other" (f_law_other K), gloB K "_law_turned" (f_law_turned K), gloB K "_law_right" (f_law_right K), gloB K "law" (f_law K), gloB K "Stretch" (c_Stretch K), gloB K "Through" (c_Through K), gloB K "Blind" (c_Blind K), gloB K "Either" (c_Either K), gloB K "Site" (c_Site K), gloB K "Board" (c_Board K), (He.Fa.free "len").ok K, (He.Fa.free "range").ok K, (He.Fa.free "isinstance").ok K, (He.Fa.free "int").ok K, (He.Fa.free "bool").ok K, (He.Fa.free "str").ok K, (He.Fa.free "tuple").ok K]
def fbs6 (K : PySem.W.Frag) : List Bool := [(He.Fa.free "list").ok K, (He.Fa.free "set").ok K, (He.Fa.free "all").ok K, (He.Fa.free "abs").ok K, (He.Fa.free "sorted").ok K, (He.Fa.free "super").ok K, (He.Fa.int "MOST" 99).ok K, (He.Fa.int "MOST_LETTERS" 8).ok K, (He.Fa.int "MOST_NUMBER" 15).ok K, (He.Fa.str "LETTERS" "abcdefghijklmnopqrstuvwxyz").ok K, (He.Fa.str "CLEAR" ".").ok K, gloB K "KINDS" (He.ga K "KINDS"), supB K (f_through_sides K) (c_Through K), supB K (f_through_barrel K) (c_Through K), supB K (f_blind_sides K) (c_Blind K), supB K (f_blind_barrel K) (c_Blind K), supB K (f_either_sides K) (c_Either K), supB K (f_either_barrel K) (c_Either K)]
def fbs (K : PySem.W.Frag) : List Bool := fbs0 K ++ (fbs1 K ++ (fbs2 K ++ (fbs3 K ++ (fbs4 K ++ (fbs5 K ++ (fbs6 K))))))
abbrev AlZ : Type := List FnZ × Bool
def obsZ (K : PySem.W.Frag) : AlZ := (dds.map fun d => fnZ K (d.ad K), (dds.all fun d => d.ok K) && (fbs K).all id)
def valZ : AlZ := (dds.map DD.val, true)
def SaysZ (K : PySem.W.Frag) : Prop := obsZ K = valZ
/-- the addresses that K holds (all that the facts look at; found by a prune of the whole heap's) -/
def adZ0 : List Addr := [3, 2, 153, 154, 158, 159, 172, 173, 179, 180, 221, 222, 242, 243, 255, 256, 266, 267, 273, 274, 280, 281, 287, 288, 302, 303, 316, 317, 330, 331, 333, 334]
def adZ1 : List Addr := [342, 353, 354, 368, 369, 371, 372, 378, 389, 390, 404, 405, 407, 408, 414, 425, 426, 440, 441, 443, 444, 452, 453, 457, 458, 464, 465, 471, 472, 473, 477, 478]
def adZ2 : List Addr := [484, 485, 489, 490, 496, 497, 511, 512, 518, 519, 525, 531, 532, 534, 549, 550, 552, 553, 582, 583, 594, 595, 601, 602, 608, 609, 655, 656, 658, 679, 680, 682]
def adZ3 : List Addr := [683, 707, 708, 714, 715, 719, 720, 726, 727, 731, 732, 736, 737, 743, 744, 750, 751, 755, 756, 762, 763, 767, 768, 772, 773, 777, 778]
def adZ : List Addr := adZ0 ++ (adZ1 ++ (adZ2 ++ adZ3))
def obsZG (as : List Addr) (g : Addr → Option Obj) : AlZ := obsZ (He.frG g as)
def hookZ (as : List Addr) : PySem.W.Hook where
  α := AlZ
  obs := fun s => obsZG as s.heap.get?
  val := fun _ => valZ
  says := fun _ h => ∃ K : PySem.W.Frag, K.In h ∧ SaysZ K
  of := fun _ _ e => ⟨_, He.frG_in, e⟩
  keeps := fun _ _ _ ⟨K, hK, c⟩ k => ⟨K, PySem.W.Frag.In.keeps hK k, c⟩
theorem obsZG_eq {as : List Addr} {g : Addr → Option Obj} {s : Shared} (h : ∀ a, g a = s.heap.get? a) : obsZG as g = (hookZ as).obs s := by
  have e : g = s.heap.get? := funext h
  rw [e] <;> rfl
section
variable {K : PySem.W.Frag}
theorem SaysZ.fact (c : SaysZ K) (i : Nat) {b : Bool} (h : (fbs K)[i]? = some b) : b = true := by
  have c1 := (He.ba (show ((dds.all fun d => d.ok K) && (fbs K).all id) = true from congrArg (fun z : AlZ => z.2) c)).2
  exact List.all_eq_true.mp c1 b (List.mem_of_getElem? h)
theorem SaysZ.dd (c : SaysZ K) (i : Nat) {d : DD} (h : dds[i]? = some d) : fnZ K (d.ad K) = d.val ∧ d.ok K = true := by
  have c1 := (He.ba (show ((dds.all fun d => d.ok K) && (fbs K).all id) = true from congrArg (fun z : AlZ => z.2) c)).1
  have c2 : dds.map (fun d => fnZ K (d.ad K)) = dds.map DD.val := congrArg (fun z : AlZ => z.1) c
  have e2 : (dds.map fun d => fnZ K (d.ad K))[i]? = (dds.map DD.val)[i]? := by rw [c2]
  rw [List.getElem?_map, List.getElem?_map, h] at e2
  exact ⟨Option.some.inj e2, List.all_eq_true.mp c1 d (List.mem_of_getElem? h)⟩
end
/-! ### what the walk asks of the top -/
structure TX (K : PySem.W.Frag) (mg : Str → Option Value) : Prop where
  cl_Stretch : Cls K (c_Stretch K)
  mk_Stretch : Mk K (c_Stretch K) (f_stretch_init K)
  cl_Through : Cls K (c_Through K)
  mk_Through : Mk K (c_Through K) (f_hole_init K)
  cl_Blind : Cls K (c_Blind K)
  mk_Blind : Mk K (c_Blind K) (f_hole_init K)
  cl_Either : Cls K (c_Either K)
  mk_Either : Mk K (c_Either K) (f_hole_init K)
  cl_Site : Cls K (c_Site K)
  mk_Site : Mk K (c_Site K) (f_site_init K)
  cl_Board : Cls K (c_Board K)
  mk_Board : Mk K (c_Board K) (f_board_init K)
  no_Stretch_low : NoAttr K (c_Stretch K) "low"
  no_Stretch_high : NoAttr K (c_Stretch K) "high"
  no_Through_must : NoAttr K (c_Through K) "must"
  no_Through_may : NoAttr K (c_Through K) "may"
  no_Through_site : NoAttr K (c_Through K) "site"
  no_Through_number : NoAttr K (c_Through K) "number"
  no_Through_depth : NoAttr K (c_Through K) "depth"
  no_Through_patience : NoAttr K (c_Through K) "patience"
  no_Site_name : NoAttr K (c_Site K) "name"
  no_Site_picture : NoAttr K (c_Site K) "picture"
  no_Site_parts : NoAttr K (c_Site K) "parts"
  no_Site_kind : NoAttr K (c_Site K) "kind"
  no_Site_depth : NoAttr K (c_Site K) "depth"
  no_Site_patience : NoAttr K (c_Site K) "patience"
  no_Site_holes : NoAttr K (c_Site K) "holes"
  no_Board_layers : NoAttr K (c_Board K) "layers"
  no_Board_sites : NoAttr K (c_Board K) "sites"
  no_Board_holes : NoAttr K (c_Board K) "holes"
  no_Blind_must : NoAttr K (c_Blind K) "must"
  no_Blind_may : NoAttr K (c_Blind K) "may"
  no_Blind_site : NoAttr K (c_Blind K) "site"
  no_Blind_number : NoAttr K (c_Blind K) "number"
  no_Blind_depth : NoAttr K (c_Blind K) "depth"
  no_Blind_patience : NoAttr K (c_Blind K) "patience"
  no_Either_must : NoAttr K (c_Either K) "must"
  no_Either_may : NoAttr K (c_Either K) "may"
  no_Either_site : NoAttr K (c_Either K) "site"
  no_Either_number : NoAttr K (c_Either K) "number"
  no_Either_depth : NoAttr K (c_Either K) "depth"
  no_Either_patience : NoAttr K (c_Either K) "patience"
  kind_Through : ∃ u, Con K (c_Through K) "KIND" (.str "through") u
  kind_Blind : ∃ u, Con K (c_Blind K) "KIND" (.str "blind") u
  kind_Either : ∃ u, Con K (c_Either K) "KIND" (.str "either") u
  con_MOST_LAYERS : ∃ u, Con K (c_Board K) "MOST_LAYERS" (.int 16) u
  con_MOST_SITES : ∃ u, Con K (c_Board K) "MOST_SITES" (.int 40) u
  con_MOST_HOLES : ∃ u, Con K (c_Board K) "MOST_HOLES" (.int 60) u
  me_stretch_within : Meth K (c_Stretch K) "within" (f_stretch_within K)
  me_stretch_turned : Meth K (c_Stretch K) "turned" (f_stretch_turned K)
  me_through_sides : Meth K (c_Through K) "sides" (f_through_sides K)
  me_through_barrel : Meth K (c_Through K) "barrel" (f_through_barrel K)
  me_blind_sides : Meth K (c_Blind K) "sides" (f_blind_sides K)
  me_blind_barrel : Meth K (c_Blind K) "barrel" (f_blind_barrel K)
  me_either_sides : Meth K (c_Either K) "sides" (f_either_sides K)
  me_either_barrel : Meth K (c_Either K) "barrel" (f_either_barrel K)
  me_site_mirrored : Meth K (c_Site K) "mirrored" (f_site_mirrored K)
  me_board_mirrored : Meth K (c_Board K) "mirrored" (f_board_mirrored K)
  me_board_len : Meth K (c_Board K) "__len__" (f_board_len K)
  eq_Stretch : OwnEq K (c_Stretch K) (f_stretch_eq K)
  eq_Site : OwnEq K (c_Site K) (f_site_eq K)
  eq_Board : OwnEq K (c_Board K) (f_board_eq K)
  isi_Stretch : Isi K (c_Stretch K)
  isi_Site : Isi K (c_Site K)
  isi_Board : Isi K (c_Board K)
  cm_site_of : ClX.CRead K (c_Site K) (.type "type") ∧ ClX.CMet K (c_Site K) (.type "type") "of" (p_site_of K) (f_site_of K)
  cm_board_of : ClX.CRead K (c_Board K) (.type "type") ∧ ClX.CMet K (c_Board K) (.type "type") "of" (p_board_of K) (f_board_of K)
  su_Through_Through_sides : Sup K (c_Through K) (c_Through K) "sides" (f_hole_sides K)
  su_Blind_Blind_sides : Sup K (c_Blind K) (c_Blind K) "sides" (f_hole_sides K)
  su_Either_Either_sides : Sup K (c_Either K) (c_Either K) "sides" (f_through_sides K)
  su_Either_Through_sides : Sup K (c_Either K) (c_Through K) "sides" (f_blind_sides K)
  su_Either_Blind_sides : Sup K (c_Either K) (c_Blind K) "sides" (f_hole_sides K)
  su_Through_Through_barrel : Sup K (c_Through K) (c_Through K) "barrel" (f_hole_barrel K)
  su_Blind_Blind_barrel : Sup K (c_Blind K) (c_Blind K) "barrel" (f_hole_barrel K)
  su_Either_Either_barrel : Sup K (c_Either K) (c_Either K) "barrel" (f_through_barrel K)
  su_Either_Through_barrel : Sup K (c_Either K) (c_Through K) "barrel" (f_blind_barrel K)
  su_Either_Blind_barrel : Sup K (c_Either K) (c_Blind K) "barrel" (f_hole_barrel K)
  noany : PySem.W.nsIn K cStatics "thirdparty.any" = some none
  kinds : ∀ H : Hp, SqT K H (He.ga K "KINDS") [.str "through", .str "blind", .str "either"]
  d_is_integer : ∃ fd, FunD K "is_integer" "is_integer" (defArgs s_is_integer) (defBody s_is_integer) (defScope s_is_integer) [] [] (f_is_integer K) fd
  d_is_name : ∃ fd, FunD K "is_name" "is_name" (defArgs s_is_name) (defBody s_is_name) (defScope s_is_name) [] [] (f_is_name K) fd
  d_nets : ∃ fd, FunD K "nets" "nets" (defArgs s_nets) (defBody s_nets) (defScope s_nets) [] [] (f_nets K) fd
  d_span : ∃ fd, FunD K "span" "span" (defArgs s_span) (defBody s_span) (defScope s_span) [] [] (f_span K) fd
  d_mixed : ∃ fd, FunD K "mixed" "mixed" (defArgs s_mixed) (defBody s_mixed) (defScope s_mixed) [] [] (f_mixed K) fd
  d_room : ∃ fd, FunD K "room" "room" (defArgs s_room) (defBody s_room) (defScope s_room) [] [] (f_room K) fd
  d_barrel_of : ∃ fd, FunD K "barrel_of" "barrel_of" (defArgs s_barrel_of) (defBody s_barrel_of) (defScope s_barrel_of) [] [] (f_barrel_of K) fd
  d_cut_at : ∃ fd, FunD K "cut_at" "cut_at" (defArgs s_cut_at) (defBody s_cut_at) (defScope s_cut_at) [] [] (f_cut_at K) fd
  d_hole_of : ∃ fd, FunD K "hole_of" "hole_of" (defArgs s_hole_of) (defBody s_hole_of) (defScope s_hole_of) [] [] (f_hole_of K) fd
  d_holes_of : ∃ fd, FunD K "holes_of" "holes_of" (defArgs s_holes_of) (defBody s_holes_of) (defScope s_holes_of) [] [] (f_holes_of K) fd
  d_is_picture : ∃ fd, FunD K "is_picture" "is_picture" (defArgs s_is_picture) (defBody s_is_picture) (defScope s_is_picture) [] [] (f_is_picture K) fd
  d_is_part : ∃ fd, FunD K "is_part" "is_part" (defArgs s_is_part) (defBody s_is_part) (defScope s_is_part) [] [] (f_is_part K) fd
  d_are_parts : ∃ fd, FunD K "are_parts" "are_parts" (defArgs s_are_parts) (defBody s_are_parts) (defScope s_are_parts) [] [] (f_are_parts K) fd
  d_fault_of_site : ∃ fd, FunD K "fault_of_site" "fault_of_site" (defArgs s_fault_of_site) (defBody s_fault_of_site) (defScope s_fault_of_site) [] [] (f_fault_of_site K) fd
  d_has_twice : ∃ fd, FunD K "has_twice" "has_twice" (defArgs s_has_twice) (defBody s_has_twice) (defScope s_has_twice) [] [] (f_has_twice K) fd
  d_law_pen : ∃ fd, FunD K "_law_pen" "_law_pen" (defArgs s_law_pen) (defBody s_law_pen) (defScope s_law_pen) [] [] (f_law_pen K) fd
  d_law_draw : ∃ fd, FunD K "_law_draw" "_law_draw" (defArgs s_law_draw) (defBody s_law_draw) (defScope s_law_draw) [] [] (f_law_draw K) fd
  d_law_picture : ∃ fd, FunD K "_law_picture" "_law_picture" (defArgs s_law_picture) (defBody s_law_picture) (defScope s_law_picture) [] [] (f_law_picture K) fd
  d_law_can : ∃ fd, FunD K "_law_can" "_law_can" (defArgs s_law_can) (defBody s_law_can) (defScope s_law_can) [] [] (f_law_can K) fd
  d_law_twice : ∃ fd, FunD K "_law_twice" "_law_twice" (defArgs s_law_twice) (defBody s_law_twice) (defScope s_law_twice) [] [] (f_law_twice K) fd
  d_law_site_row : ∃ fd, FunD K "_law_site_row" "_law_site_row" (defArgs s_law_site_row) (defBody s_law_site_row) (defScope s_law_site_row) [] [] (f_law_site_row K) fd
  d_law_site : ∃ fd, FunD K "_law_site" "_law_site" (defArgs s_law_site) (defBody s_law_site) (defScope s_law_site) [] [] (f_law_site K) fd
  d_law_sites : ∃ fd, FunD K "_law_sites" "_law_sites" (defArgs s_law_sites) (defBody s_law_sites) (defScope s_law_sites) [] [] (f_law_sites K) fd
  d_law_pieces : ∃ fd, FunD K "_law_pieces" "_law_pieces" (defArgs s_law_pieces) (defBody s_law_pieces) (defScope s_law_pieces) [] [] (f_law_pieces K) fd
  d_law_other : ∃ fd, FunD K "_law_other" "_law_other" (defArgs s_law_other) (defBody s_law_other) (defScope s_law_other) [] [] (f_law_other K) fd
  d_law_turned : ∃ fd, FunD K "_law_turned" "_law_turned" (defArgs s_law_turned) (defBody s_law_turned) (defScope s_law_turned) [] [] (f_law_turned K) fd
  d_law_right : ∃ fd, FunD K "_law_right" "_law_right" (defArgs s_law_right) (defBody s_law_right) (defScope s_law_right) [] [] (f_law_right K) fd
  d_law : ∃ fd, FunD K "law" "law" (defArgs s_law) (defBody s_law) (defScope s_law) [] [] (f_law K) fd
  d_stretch_init : ∃ fd, FunD K "__init__" "Stretch.__init__" (defArgs s_stretch_init) (defBody s_stretch_init) (defScope s_stretch_init) [] [] (f_stretch_init K) fd
  d_stretch_eq : ∃ fd, FunD K "__eq__" "Stretch.__eq__" (defArgs s_stretch_eq) (defBody s_stretch_eq) (defScope s_stretch_eq) [] [] (f_stretch_eq K) fd
  d_stretch_within : ∃ fd, FunD K "within" "Stretch.within" (defArgs s_stretch_within) (defBody s_stretch_within) (defScope s_stretch_within) [] [] (f_stretch_within K) fd
  d_stretch_turned : ∃ fd, FunD K "turned" "Stretch.turned" (defArgs s_stretch_turned) (defBody s_stretch_turned) (defScope s_stretch_turned) [] [] (f_stretch_turned K) fd
  d_hole_init : ∃ fd, FunD K "__init__" "Hole.__init__" (defArgs s_hole_init) (defBody s_hole_init) (defScope s_hole_init) [] [] (f_hole_init K) fd
  d_hole_sides : ∃ fd, FunD K "sides" "Hole.sides" (defArgs s_hole_sides) (defBody s_hole_sides) (defScope s_hole_sides) [] [] (f_hole_sides K) fd
  d_hole_barrel : ∃ fd, FunD K "barrel" "Hole.barrel" (defArgs s_hole_barrel) (defBody s_hole_barrel) (defScope s_hole_barrel) [] [] (f_hole_barrel K) fd
  d_site_init : ∃ fd, FunD K "__init__" "Site.__init__" (defArgs s_site_init) (defBody s_site_init) (defScope s_site_init) [] [] (f_site_init K) fd
  d_site_eq : ∃ fd, FunD K "__eq__" "Site.__eq__" (defArgs s_site_eq) (defBody s_site_eq) (defScope s_site_eq) [] [] (f_site_eq K) fd
  d_site_mirrored : ∃ fd, FunD K "mirrored" "Site.mirrored" (defArgs s_site_mirrored) (defBody s_site_mirrored) (defScope s_site_mirrored) [] [] (f_site_mirrored K) fd
  d_board_init : ∃ fd, FunD K "__init__" "Board.__init__" (defArgs s_board_init) (defBody s_board_init) (defScope s_board_init) [] [] (f_board_init K) fd
  d_board_eq : ∃ fd, FunD K "__eq__" "Board.__eq__" (defArgs s_board_eq) (defBody s_board_eq) (defScope s_board_eq) [] [] (f_board_eq K) fd
  d_board_len : ∃ fd, FunD K "__len__" "Board.__len__" (defArgs s_board_len) (defBody s_board_len) (defScope s_board_len) [] [] (f_board_len K) fd
  d_board_mirrored : ∃ fd, FunD K "mirrored" "Board.mirrored" (defArgs s_board_mirrored) (defBody s_board_mirrored) (defScope s_board_mirrored) [] [] (f_board_mirrored K) fd
  d_through_sides : ∃ fd, SupD K "sides" "Through.sides" (defArgs s_through_sides) (defBody s_through_sides) (defScope s_through_sides) (c_Through K) (f_through_sides K) fd
  d_through_barrel : ∃ fd, SupD K "barrel" "Through.barrel" (defArgs s_through_barrel) (defBody s_through_barrel) (defScope s_through_barrel) (c_Through K) (f_through_barrel K) fd
  d_blind_sides : ∃ fd, SupD K "sides" "Blind.sides" (defArgs s_blind_sides) (defBody s_blind_sides) (defScope s_blind_sides) (c_Blind K) (f_blind_sides K) fd
  d_blind_barrel : ∃ fd, SupD K "barrel" "Blind.barrel" (defArgs s_blind_barrel) (defBody s_blind_barrel) (defScope s_blind_barrel) (c_Blind K) (f_blind_barrel K) fd
  d_either_sides : ∃ fd, SupD K "sides" "Either.sides" (defArgs s_either_sides) (defBody s_either_sides) (defScope s_either_sides) (c_Either K) (f_either_sides K) fd
  d_either_barrel : ∃ fd, SupD K "barrel" "Either.barrel" (defArgs s_either_barrel) (defBody s_either_barrel) (defScope s_either_barrel) (c_Either K) (f_either_barrel K) fd
  d_site_of : ∃ fd, FunD K "of" "Site.of" (defArgs s_site_of) (defBody s_site_of) (defScope s_site_of) [.str "either", .int 1, .int 0] [] (f_site_of K) fd
  d_board_of : ∃ fd, FunD K "of" "Board.of" (defArgs s_board_of) (defBody s_board_of) (defScope s_board_of) [] [] (f_board_of K) fd
  g_is_integer : mg "is_integer" = some (.ref (f_is_integer K))
  g_is_name : mg "is_name" = some (.ref (f_is_name K))
  g_nets : mg "nets" = some (.ref (f_nets K))
  g_span : mg "span" = some (.ref (f_span K))
  g_mixed : mg "mixed" = some (.ref (f_mixed K))
  g_room : mg "room" = some (.ref (f_room K))
  g_barrel_of : mg "barrel_of" = some (.ref (f_barrel_of K))
  g_cut_at : mg "cut_at" = some (.ref (f_cut_at K))
  g_hole_of : mg "hole_of" = some (.ref (f_hole_of K))
  g_holes_of : mg "holes_of" = some (.ref (f_holes_of K))
  g_is_picture : mg "is_picture" = some (.ref (f_is_picture K))
  g_is_part : mg "is_part" = some (.ref (f_is_part K))
  g_are_parts : mg "are_parts" = some (.ref (f_are_parts K))
  g_fault_of_site : mg "fault_of_site" = some (.ref (f_fault_of_site K))
  g_has_twice : mg "has_twice" = some (.ref (f_has_twice K))
  g_law_pen : mg "_law_pen" = some (.ref (f_law_pen K))
  g_law_draw : mg "_law_draw" = some (.ref (f_law_draw K))
  g_law_picture : mg "_law_picture" = some (.ref (f_law_picture K))
  g_law_can : mg "_law_can" = some (.ref (f_law_can K))
  g_law_twice : mg "_law_twice" = some (.ref (f_law_twice K))
  g_law_site_row : mg "_law_site_row" = some (.ref (f_law_site_row K))
  g_law_site : mg "_law_site" = some (.ref (f_law_site K))
  g_law_sites : mg "_law_sites" = some (.ref (f_law_sites K))
  g_law_pieces : mg "_law_pieces" = some (.ref (f_law_pieces K))
  g_law_other : mg "_law_other" = some (.ref (f_law_other K))
  g_law_turned : mg "_law_turned" = some (.ref (f_law_turned K))
  g_law_right : mg "_law_right" = some (.ref (f_law_right K))
  g_law : mg "law" = some (.ref (f_law K))
  g_Stretch : mg "Stretch" = some (.ref (c_Stretch K))
  g_Through : mg "Through" = some (.ref (c_Through K))
  g_Blind : mg "Blind" = some (.ref (c_Blind K))
  g_Either : mg "Either" = some (.ref (c_Either K))
  g_Site : mg "Site" = some (.ref (c_Site K))
  g_Board : mg "Board" = some (.ref (c_Board K))
  b_len : mg "len" = none
  b_range : mg "range" = none
  b_isinstance : mg "isinstance" = none
  b_int : mg "int" = none
  b_bool : mg "bool" = none
  b_str : mg "str" = none
  b_tuple : mg "tuple" = none
  b_list : mg "list" = none
  b_set : mg "set" = none
  b_all : mg "all" = none
  b_abs : mg "abs" = none
  b_sorted : mg "sorted" = none
  b_super : mg "super" = none
  i_MOST : ∃ t, mg "MOST" = some (.int 99 t)
  i_MOST_LETTERS : ∃ t, mg "MOST_LETTERS" = some (.int 8 t)
  i_MOST_NUMBER : ∃ t, mg "MOST_NUMBER" = some (.int 15 t)
  t_LETTERS : ∃ t, mg "LETTERS" = some (.str "abcdefghijklmnopqrstuvwxyz" t)
  t_CLEAR : ∃ t, mg "CLEAR" = some (.str "." t)
  g_KINDS : mg "KINDS" = some (.ref (He.ga K "KINDS"))
theorem tx_of {K : PySem.W.Frag} {h : Heap} {mg : Str → Option Value} (KX : K.In h) (G : h.Ns mainGlobals mg) (c : SaysZ K) : TX K mg where
  cl_Stretch := clsB_ok (c.fact 0 rfl)
  mk_Stretch := mkB_ok (c.fact 1 rfl)
  cl_Through := clsB_ok (c.fact 2 rfl)
  mk_Through := mkB_ok (c.fact 3 rfl)
  cl_Blind := clsB_ok (c.fact 4 rfl)
  mk_Blind := mkB_ok (c.fact 5 rfl)
  cl_Either := clsB_ok (c.fact 6 rfl)
  mk_Either := mkB_ok (c.fact 7 rfl)
  cl_Site := clsB_ok (c.fact 8 rfl)
  mk_Site := mkB_ok (c.fact 9 rfl)
  cl_Board := clsB_ok (c.fact 10 rfl)
  mk_Board := mkB_ok (c.fact 11 rfl)
  no_Stretch_low := noB_ok (c.fact 12 rfl)
  no_Stretch_high := noB_ok (c.fact 13 rfl)
  no_Through_must := noB_ok (c.fact 14 rfl)
  no_Through_may := noB_ok (c.fact 15 rfl)
  no_Through_site := noB_ok (c.fact 16 rfl)
  no_Through_number := noB_ok (c.fact 17 rfl)
  no_Through_depth := noB_ok (c.fact 18 rfl)
  no_Through_patience := noB_ok (c.fact 19 rfl)
  no_Site_name := noB_ok (c.fact 20 rfl)
  no_Site_picture := noB_ok (c.fact 21 rfl)
  no_Site_parts := noB_ok (c.fact 22 rfl)
  no_Site_kind := noB_ok (c.fact 23 rfl)
  no_Site_depth := noB_ok (c.fact 24 rfl)
  no_Site_patience := noB_ok (c.fact 25 rfl)
  no_Site_holes := noB_ok (c.fact 26 rfl)
  no_Board_layers := noB_ok (c.fact 27 rfl)
  no_Board_sites := noB_ok (c.fact 28 rfl)
  no_Board_holes := noB_ok (c.fact 29 rfl)
  no_Blind_must := noB_ok (c.fact 30 rfl)
  no_Blind_may := noB_ok (c.fact 31 rfl)
  no_Blind_site := noB_ok (c.fact 32 rfl)
  no_Blind_number := noB_ok (c.fact 33 rfl)
  no_Blind_depth := noB_ok (c.fact 34 rfl)
  no_Blind_patience := noB_ok (c.fact 35 rfl)
  no_Either_must := noB_ok (c.fact 36 rfl)
  no_Either_may := noB_ok (c.fact 37 rfl)
  no_Either_site := noB_ok (c.fact 38 rfl)
  no_Either_number := noB_ok (c.fact 39 rfl)
  no_Either_depth := noB_ok (c.fact 40 rfl)
  no_Either_patience := noB_ok (c.fact 41 rfl)
  kind_Through := conB_ok (c.fact 42 rfl)
  kind_Blind := conB_ok (c.fact 43 rfl)
  kind_Either := conB_ok (c.fact 44 rfl)
  con_MOST_LAYERS := conB_ok (c.fact 45 rfl)
  con_MOST_SITES := conB_ok (c.fact 46 rfl)
  con_MOST_HOLES := conB_ok (c.fact 47 rfl)
  me_stretch_within := methB_ok (c.fact 48 rfl)
  me_stretch_turned := methB_ok (c.fact 49 rfl)
  me_through_sides := methB_ok (c.fact 50 rfl)
  me_through_barrel := methB_ok (c.fact 51 rfl)
  me_blind_sides := methB_ok (c.fact 52 rfl)
  me_blind_barrel := methB_ok (c.fact 53 rfl)
  me_either_sides := methB_ok (c.fact 54 rfl)
  me_either_barrel := methB_ok (c.fact 55 rfl)
  me_site_mirrored := methB_ok (c.fact 56 rfl)
  me_board_mirrored := methB_ok (c.fact 57 rfl)
  me_board_len := methB_ok (c.fact 58 rfl)
  eq_Stretch := eqB_ok (c.fact 59 rfl)
  eq_Site := eqB_ok (c.fact 60 rfl)
  eq_Board := eqB_ok (c.fact 61 rfl)
  isi_Stretch := isiB_ok (c.fact 62 rfl)
  isi_Site := isiB_ok (c.fact 63 rfl)
  isi_Board := isiB_ok (c.fact 64 rfl)
  cm_site_of := cmB_ok (c.fact 65 rfl)
  cm_board_of := cmB_ok (c.fact 66 rfl)
  su_Through_Through_sides := supMB_ok (c.fact 67 rfl)
  su_Blind_Blind_sides := supMB_ok (c.fact 68 rfl)
  su_Either_Either_sides := supMB_ok (c.fact 69 rfl)
  su_Either_Through_sides := supMB_ok (c.fact 70 rfl)
  su_Either_Blind_sides := supMB_ok (c.fact 71 rfl)
  su_Through_Through_barrel := supMB_ok (c.fact 72 rfl)
  su_Blind_Blind_barrel := supMB_ok (c.fact 73 rfl)
  su_Either_Either_barrel := supMB_ok (c.fact 74 rfl)
  su_Either_Through_barrel := supMB_ok (c.fact 75 rfl)
  su_Either_Blind_barrel := supMB_ok (c.fact 76 rfl)
  noany := He.eqO_ok (c.fact 77 rfl)
  kinds := He.tupB_ok (c.fact 78 rfl)
  d_is_integer := DD.funD (d := d_is_integer) rfl (c.dd 0 rfl).1 (c.dd 0 rfl).2
  d_is_name := DD.funD (d := d_is_name) rfl (c.dd 1 rfl).1 (c.dd 1 rfl).2
  d_nets := DD.funD (d := d_nets) rfl (c.dd 2 rfl).1 (c.dd 2 rfl).2
  d_span := DD.funD (d := d_span) rfl (c.dd 3 rfl).1 (c.dd 3 rfl).2
  d_mixed := DD.funD (d := d_mixed) rfl (c.dd 4 rfl).1 (c.dd 4 rfl).2
  d_room := DD.funD (d := d_room) rfl (c.dd 5 rfl).1 (c.dd 5 rfl).2
  d_barrel_of := DD.funD (d := d_barrel_of) rfl (c.dd 6 rfl).1 (c.dd 6 rfl).2
  d_cut_at := DD.funD (d := d_cut_at) rfl (c.dd 7 rfl).1 (c.dd 7 rfl).2
  d_hole_of := DD.funD (d := d_hole_of) rfl (c.dd 8 rfl).1 (c.dd 8 rfl).2
  d_holes_of := DD.funD (d := d_holes_of) rfl (c.dd 9 rfl).1 (c.dd 9 rfl).2
  d_is_picture := DD.funD (d := d_is_picture) rfl (c.dd 10 rfl).1 (c.dd 10 rfl).2
  d_is_part := DD.funD (d := d_is_part) rfl (c.dd 11 rfl).1 (c.dd 11 rfl).2
  d_are_parts := DD.funD (d := d_are_parts) rfl (c.dd 12 rfl).1 (c.dd 12 rfl).2
  d_fault_of_site := DD.funD (d := d_fault_of_site) rfl (c.dd 13 rfl).1 (c.dd 13 rfl).2
  d_has_twice := DD.funD (d := d_has_twice) rfl (c.dd 14 rfl).1 (c.dd 14 rfl).2
  d_law_pen := DD.funD (d := d_law_pen) rfl (c.dd 15 rfl).1 (c.dd 15 rfl).2
  d_law_draw := DD.funD (d := d_law_draw) rfl (c.dd 16 rfl).1 (c.dd 16 rfl).2
  d_law_picture := DD.funD (d := d_law_picture) rfl (c.dd 17 rfl).1 (c.dd 17 rfl).2
  d_law_can := DD.funD (d := d_law_can) rfl (c.dd 18 rfl).1 (c.dd 18 rfl).2
  d_law_twice := DD.funD (d := d_law_twice) rfl (c.dd 19 rfl).1 (c.dd 19 rfl).2
  d_law_site_row := DD.funD (d := d_law_site_row) rfl (c.dd 20 rfl).1 (c.dd 20 rfl).2
  d_law_site := DD.funD (d := d_law_site) rfl (c.dd 21 rfl).1 (c.dd 21 rfl).2
  d_law_sites := DD.funD (d := d_law_sites) rfl (c.dd 22 rfl).1 (c.dd 22 rfl).2
  d_law_pieces := DD.funD (d := d_law_pieces) rfl (c.dd 23 rfl).1 (c.dd 23 rfl).2
  d_law_other := DD.funD (d := d_law_other) rfl (c.dd 24 rfl).1 (c.dd 24 rfl).2
  d_law_turned := DD.funD (d := d_law_turned) rfl (c.dd 25 rfl).1 (c.dd 25 rfl).2
  d_law_right := DD.funD (d := d_law_right) rfl (c.dd 26 rfl).1 (c.dd 26 rfl).2
  d_law := DD.funD (d := d_law) rfl (c.dd 27 rfl).1 (c.dd 27 rfl).2
  d_stretch_init := DD.funD (d := d_stretch_init) rfl (c.dd 28 rfl).1 (c.dd 28 rfl).2
  d_stretch_eq := DD.funD (d := d_stretch_eq) rfl (c.dd 29 rfl).1 (c.dd 29 rfl).2
  d_stretch_within := DD.funD (d := d_stretch_within) rfl (c.dd 30 rfl).1 (c.dd 30 rfl).2
  d_stretch_turned := DD.funD (d := d_stretch_turned) rfl (c.dd 31 rfl).1 (c.dd 31 rfl).2
  d_hole_init := DD.funD (d := d_hole_init) rfl (c.dd 32 rfl).1 (c.dd 32 rfl).2
  d_hole_sides := DD.funD (d := d_hole_sides) rfl (c.dd 33 rfl).1 (c.dd 33 rfl).2
  d_hole_barrel := DD.funD (d := d_hole_barrel) rfl (c.dd 34 rfl).1 (c.dd 34 rfl).2
  d_site_init := DD.funD (d := d_site_init) rfl (c.dd 35 rfl).1 (c.dd 35 rfl).2
  d_site_eq := DD.funD (d := d_site_eq) rfl (c.dd 36 rfl).1 (c.dd 36 rfl).2
  d_site_mirrored := DD.funD (d := d_site_mirrored) rfl (c.dd 37 rfl).1 (c.dd 37 rfl).2
  d_board_init := DD.funD (d := d_board_init) rfl (c.dd 38 rfl).1 (c.dd 38 rfl).2
  d_board_eq := DD.funD (d := d_board_eq) rfl (c.dd 39 rfl).1 (c.dd 39 rfl).2
  d_board_len := DD.funD (d := d_board_len) rfl (c.dd 40 rfl).1 (c.dd 40 rfl).2
  d_board_mirrored := DD.funD (d := d_board_mirrored) rfl (c.dd 41 rfl).1 (c.dd 41 rfl).2
  d_through_sides := DD.supD (d := d_through_sides) rfl rfl (c.dd 42 rfl).1 (c.dd 42 rfl).2 (c.fact 132 rfl)
  d_through_barrel := DD.supD (d := d_through_barrel) rfl rfl (c.dd 43 rfl).1 (c.dd 43 rfl).2 (c.fact 133 rfl)
  d_blind_sides := DD.supD (d := d_blind_sides) rfl rfl (c.dd 44 rfl).1 (c.dd 44 rfl).2 (c.fact 134 rfl)
  d_blind_barrel := DD.supD (d := d_blind_barrel) rfl rfl (c.dd 45 rfl).1 (c.dd 45 rfl).2 (c.fact 135 rfl)
  d_either_sides := DD.supD (d := d_either_sides) rfl rfl (c.dd 46 rfl).1 (c.dd 46 rfl).2 (c.fact 136 rfl)
  d_either_barrel := DD.supD (d := d_either_barrel) rfl rfl (c.dd 47 rfl).1 (c.dd 47 rfl).2 (c.fact 137 rfl)
  d_site_of := DD.funD (d := d_site_of) rfl (c.dd 48 rfl).1 (c.dd 48 rfl).2
  d_board_of := DD.funD (d := d_board_of) rfl (c.dd 49 rfl).1 (c.dd 49 rfl).2
  g_is_integer := gloB_ok KX G (c.fact 79 rfl)
  g_is_name := gloB_ok KX G (c.fact 80 rfl)
  g_nets := gloB_ok KX G (c.fact 81 rfl)
  g_span := gloB_ok KX G (c.fact 82 rfl)
  g_mixed := gloB_ok KX G (c.fact 83 rfl)
  g_room := gloB_ok KX G (c.fact 84 rfl)
  g_barrel_of := gloB_ok KX G (c.fact 85 rfl)
  g_cut_at := gloB_ok KX G (c.fact 86 rfl)
  g_hole_of := gloB_ok KX G (c.fact 87 rfl)
  g_holes_of := gloB_ok KX G (c.fact 88 rfl)
  g_is_picture := gloB_ok KX G (c.fact 89 rfl)
  g_is_part := gloB_ok KX G (c.fact 90 rfl)
  g_are_parts := gloB_ok KX G (c.fact 91 rfl)
  g_fault_of_site := gloB_ok KX G (c.fact 92 rfl)
  g_has_twice := gloB_ok KX G (c.fact 93 rfl)
  g_law_pen := gloB_ok KX G (c.fact 94 rfl)
  g_law_draw := gloB_ok KX G (c.fact 95 rfl)
  g_law_picture := gloB_ok KX G (c.fact 96 rfl)
  g_law_can := gloB_ok KX G (c.fact 97 rfl)
  g_law_twice := gloB_ok KX G (c.fact 98 rfl)
  g_law_site_row := gloB_ok KX G (c.fact 99 rfl)
  g_law_site := gloB_ok KX G (c.fact 100 rfl)
  g_law_sites := gloB_ok KX G (c.fact 101 rfl)
  g_law_pieces := gloB_ok KX G (c.fact 102 rfl)
  g_law_other := gloB_ok KX G (c.fact 103 rfl)
  g_law_turned := gloB_ok KX G (c.fact 104 rfl)
  g_law_right := gloB_ok KX G (c.fact 105 rfl)
  g_law := gloB_ok KX G (c.fact 106 rfl)
  g_Stretch := gloB_ok KX G (c.fact 107 rfl)
  g_Through := gloB_ok KX G (c.fact 108 rfl)
  g_Blind := gloB_ok KX G (c.fact 109 rfl)
  g_Either := gloB_ok KX G (c.fact 110 rfl)
  g_Site := gloB_ok KX G (c.fact 111 rfl)
  g_Board := gloB_ok KX G (c.fact 112 rfl)
  b_len := He.free_ok KX G (c.fact 113 rfl)
  b_range := He.free_ok KX G (c.fact 114 rfl)
  b_isinstance := He.free_ok KX G (c.fact 115 rfl)
  b_int := He.free_ok KX G (c.fact 116 rfl)
  b_bool := He.free_ok KX G (c.fact 117 rfl)
  b_str := He.free_ok KX G (c.fact 118 rfl)
  b_tuple := He.free_ok KX G (c.fact 119 rfl)
  b_list := He.free_ok KX G (c.fact 120 rfl)
  b_set := He.free_ok KX G (c.fact 121 rfl)
  b_all := He.free_ok KX G (c.fact 122 rfl)
  b_abs := He.free_ok KX G (c.fact 123 rfl)
  b_sorted := He.free_ok KX G (c.fact 124 rfl)
  b_super := He.free_ok KX G (c.fact 125 rfl)
  i_MOST := He.int_ok KX G (c.fact 126 rfl)
  i_MOST_LETTERS := He.int_ok KX G (c.fact 127 rfl)
  i_MOST_NUMBER := He.int_ok KX G (c.fact 128 rfl)
  t_LETTERS := He.str_ok KX G (c.fact 129 rfl)
  t_CLEAR := He.str_ok KX G (c.fact 130 rfl)
  g_KINDS := gloB_ok KX G (c.fact 131 rfl)
end PN

/-! The head: the top's run in the kernel, with the facts. -/
namespace PN
set_option maxRecDepth 100000
set_option maxHeartbeats 0
open PySem PySem.Spec PyProof.Rows L2
abbrev topR : PySem.W.OpenRow := PySem.W.OpenLaw.row row
def topNames1 : List PySem.Str := ["_wall", "PressError", "MissingError", "InvalidStretch", "InvalidSite", "InvalidBoard", "InvalidText", "UnknownSite", "LETTERS", "DIGITS", "MOST_DIGITS", "MOST_LETTERS", "number_of", "is_integer", "is_name", "MOST", "Stretch", "CLEAR", "nets", "span", "mixed", "room", "Hole", "Through", "Blind", "Either", "barrel_of", "cut_at", "hole_of", "holes_of"]
def topNames2 : List PySem.Str := ["KINDS", "MOST_NUMBER", "is_picture", "is_part", "are_parts", "fault_of_site", "Site", "read_number", "read_site_words", "site_of", "has_twice", "Board", "place_of", "read_layers", "_law_pen", "_law_draw", "_law_picture", "_law_can", "_law_twice", "_law_site_row", "_law_site", "_law_sites", "_law_pieces", "_law_other", "_law_turned", "_law_right"]
def topNames : List PySem.Str := topNames1 ++ topNames2
def topOb (s : PySem.W.SharedT) : AlZ := obsZG adZ (HandSHeadRun.getT s)
theorem topOb_eq (s : PySem.W.SharedT) : topOb s = (hookZ adZ).obs s.abs := obsZG_eq (HandSHeadRun.getT_eq s)
theorem headRun (w : World) : HandSHeadRun.RunEq topR (PySem.W.view topR.prog [64]) (hookZ adZ) topOb 8000 topNames w := by
  intro os
  kernel_rfl
end PN

/-! The mathematics of pictures, with no program in sight: the holes of a picture backwards are the turned holes in reverse order. -/
namespace PN

/-! ### nets -/
def netStep (acc : List Nat) (c : Nat) : List Nat := if c ≠ 46 ∧ c ∉ acc then acc ++ [c] else acc
def netsOf (p : List Nat) : List Nat := p.foldl netStep []
theorem netsOf_snoc (p : List Nat) (c : Nat) : netsOf (p ++ [c]) = if c ≠ 46 ∧ c ∉ netsOf p then netsOf p ++ [c] else netsOf p := by
  unfold netsOf
  rw [List.foldl_append]
  rfl
theorem snoc_ind {P : List Nat → Prop} (h0 : P []) (h1 : ∀ l c, P l → P (l ++ [c])) : ∀ l, P l := by
  intro l
  have : ∀ n, ∀ l : List Nat, l.length = n → P l := by
    intro n
    induction n with
    | zero => intro l hl; rw [List.length_eq_zero_iff.mp hl]; exact h0
    | succ n ih =>
      intro l hl
      have hne : l ≠ [] := by intro e; rw [e] at hl; cases hl
      rw [← List.dropLast_concat_getLast hne]
      exact h1 _ _ (ih _ (by rw [List.length_dropLast]; omega))
  exact this _ l rfl
theorem mem_nets (p : List Nat) (d : Nat) : d ∈ netsOf p ↔ d ∈ p ∧ d ≠ 46 := by
  refine snoc_ind (P := fun p => d ∈ netsOf p ↔ d ∈ p ∧ d ≠ 46) ?_ ?_ p
  · show d ∈ ([] : List Nat) ↔ _
    simp
  · intro l c ih
    rw [netsOf_snoc]
    by_cases h : c ≠ 46 ∧ c ∉ netsOf l
    · rw [if_pos h, List.mem_append, List.mem_append, ih, List.mem_singleton]
      constructor
      · rintro (q | q)
        · exact ⟨.inl q.1, q.2⟩
        · exact ⟨.inr q, by rw [q]; exact h.1⟩
      · rintro ⟨q | q, r⟩
        · exact .inl ⟨q, r⟩
        · exact .inr q
    · rw [if_neg h, List.mem_append, ih, List.mem_singleton]
      constructor
      · rintro q
        exact ⟨.inl q.1, q.2⟩
      · rintro ⟨q | q, r⟩
        · exact ⟨q, r⟩
        · subst q
          by_cases z : d ∈ netsOf l
          · exact ih.mp z
          · exact absurd ⟨r, z⟩ h
theorem nets_nodup (p : List Nat) : (netsOf p).Nodup := by
  refine snoc_ind (P := fun p => (netsOf p).Nodup) (by exact List.nodup_nil) ?_ p
  intro l c ih
  rw [netsOf_snoc]
  by_cases h : c ≠ 46 ∧ c ∉ netsOf l
  · rw [if_pos h, List.nodup_append]
    refine ⟨ih, by simp, ?_⟩
    intro a ha b hb
    rw [List.mem_singleton] at hb
    subst hb
    intro e
    subst e
    exact h.2 ha
  · rw [if_neg h]
    exact ih
theorem nets_len (p : List Nat) : (netsOf p).length ≤ p.length := by
  refine snoc_ind (P := fun p => (netsOf p).length ≤ p.length) (Nat.le_refl _) ?_ p
  intro l c ih
  rw [netsOf_snoc]
  split
  · simp; exact ih
  · simp; omega
theorem nets_cons (c : Nat) (l : List Nat) : netsOf (c :: l) = if c = 46 then netsOf l else c :: (netsOf l).filter (fun d => decide (d ≠ c)) := by
  refine snoc_ind (P := fun l => netsOf (c :: l) = if c = 46 then netsOf l else c :: (netsOf l).filter (fun d => decide (d ≠ c))) ?_ ?_ l
  · show netStep [] c = _
    unfold netStep
    by_cases h : c = 46
    · rw [if_neg (fun q => q.1 h), if_pos h]
      rfl
    · rw [if_pos ⟨h, by simp⟩, if_neg h]
      rfl
  · intro l d ih
    rw [← List.cons_append, netsOf_snoc, netsOf_snoc]
    by_cases h : c = 46
    · rw [if_pos h] at ih ⊢
      rw [ih]
    · rw [if_neg h] at ih ⊢
      by_cases e : d = c
      · subst e
        rw [if_neg (by rw [ih]; simp), ih]
        split
        · rw [List.filter_append]; simp
        · rfl
      · have k : (d ∉ netsOf (c :: l)) ↔ d ∉ netsOf l := by
          rw [ih]
          simp [e]
        by_cases q : d ≠ 46 ∧ d ∉ netsOf l
        · rw [if_pos q, if_pos ⟨q.1, k.mpr q.2⟩, ih, List.filter_append]
          simp [e]
        · rw [if_neg q, if_neg (fun z => q ⟨z.1, k.mp z.2⟩), ih]

/-- no sign stands between two of another net -/
def NonMixed (p : List Nat) : Prop := ∀ c d, c ≠ 46 → d ≠ 46 → c ≠ d → ¬ [c, d, c].Sublist p
theorem NonMixed.rev {p : List Nat} (h : NonMixed p) : NonMixed p.reverse := by
  intro c d hc hd hn hs
  refine h c d hc hd hn ?_
  have := hs.reverse
  rw [List.reverse_reverse] at this
  exact this
theorem NonMixed.sub {p q : List Nat} (h : NonMixed p) (s : q.Sublist p) : NonMixed q := fun c d hc hd hn hs => h c d hc hd hn (hs.trans s)
/-- the first net of p -/
theorem nets_head : ∀ (p : List Nat) (c : Nat), c ≠ 46 → c ∈ p → (∀ d, d ≠ 46 → d ≠ c → ¬ [d, c].Sublist p) → netsOf p = c :: (netsOf p).filter (fun d => decide (d ≠ c))
  | [], c, _, hm, _ => by cases hm
  | b :: p, c, hc, hm, h => by
    by_cases e : b = c
    · subst e
      rw [nets_cons, if_neg hc]
      congr 1
      rw [List.filter_cons, if_neg (by simp), List.filter_filter]
      congr 1
      funext d
      simp
    · have hmp : c ∈ p := by
        rcases List.mem_cons.mp hm with q | q
        · exact absurd q.symm e
        · exact q
      by_cases z : b = 46
      · rw [nets_cons, if_pos z]
        exact nets_head p c hc hmp fun d hd hn hs => h d hd hn (hs.cons _)
      · exact absurd (List.Sublist.cons₂ b (List.singleton_sublist.mpr hmp)) (h b z e)
theorem nets_rev : ∀ (p : List Nat), NonMixed p → netsOf p.reverse = (netsOf p).reverse
  | [], _ => rfl
  | c :: p, h => by
    have ih := nets_rev p (h.sub (List.sublist_cons_self _ _))
    rw [List.reverse_cons, netsOf_snoc, nets_cons, ih]
    by_cases z : c = 46
    · rw [if_neg (fun q => q.1 z), if_pos z]
    · rw [if_neg z]
      by_cases m : c ∈ netsOf p
      · rw [if_neg (fun q => q.2 (List.mem_reverse.mpr m))]
        have hm := (mem_nets p c).mp m
        rw [← nets_head p c z hm.1]
        intro d hd hn hs
        exact h c d z hd (Ne.symm hn) (hs.cons₂ c)
      · rw [if_pos ⟨z, fun q => m (List.mem_reverse.mp q)⟩, List.reverse_cons]
        congr 2
        symm
        rw [List.filter_eq_self]
        intro a ha
        simp
        intro e
        rw [e] at ha
        exact m ha

/-! ### span, room -/
def lowOf (p : List Nat) (c : Nat) : Int := (p.idxOf c : Int) + 1
def highOf (p : List Nat) (c : Nat) : Int := (p.length : Int) - (p.reverse.idxOf c : Int)
def runBack (p : List Nat) (lo : Int) : Nat := ((p.take (lo - 1).toNat).reverse.takeWhile (fun c => c == 46)).length
def runOn (p : List Nat) (hi : Int) : Nat := ((p.drop hi.toNat).takeWhile (fun c => c == 46)).length
def spanOf (p : List Nat) (c : Nat) : Int × Int := (lowOf p c, highOf p c)
def roomOf (p : List Nat) (c : Nat) : Int × Int := (lowOf p c - runBack p (lowOf p c), highOf p c + runOn p (highOf p c))
def turn (n : Int) (s : Int × Int) : Int × Int := (n + 1 - s.2, n + 1 - s.1)
theorem turn_turn (n : Int) (s : Int × Int) : turn n (turn n s) = s := by
  unfold turn
  ext <;> simp <;> omega
theorem idx_le {p : List Nat} {c : Nat} (h : c ∈ p) : p.idxOf c < p.length := List.idxOf_lt_length_of_mem h
theorem low_ge (p : List Nat) (c : Nat) : 1 ≤ lowOf p c := by unfold lowOf; omega
theorem low_le {p : List Nat} {c : Nat} (h : c ∈ p) : lowOf p c ≤ p.length := by have := idx_le h; unfold lowOf; omega
theorem high_le (p : List Nat) (c : Nat) : highOf p c ≤ p.length := by unfold highOf; omega
theorem high_ge {p : List Nat} {c : Nat} (h : c ∈ p) : 1 ≤ highOf p c := by
  have := idx_le (List.mem_reverse.mpr h)
  rw [List.length_reverse] at this
  unfold highOf; omega
theorem low_rev (p : List Nat) (c : Nat) : lowOf p.reverse c = p.length + 1 - highOf p c := by unfold lowOf highOf; omega
theorem high_rev (p : List Nat) (c : Nat) : highOf p.reverse c = p.length + 1 - lowOf p c := by unfold lowOf highOf; rw [List.reverse_reverse, List.length_reverse]; omega
theorem span_rev (p : List Nat) (c : Nat) : spanOf p.reverse c = turn p.length (spanOf p c) := by
  unfold spanOf turn
  rw [low_rev, high_rev]
theorem back_rev {p : List Nat} {hi : Int} (h1 : 1 ≤ hi) (h2 : hi ≤ p.length) : runBack p.reverse (p.length + 1 - hi) = runOn p hi := by
  unfold runBack runOn
  rw [List.take_reverse]
  have e : p.length - ((p.length : Int) + 1 - hi - 1).toNat = hi.toNat := by omega
  rw [e, List.reverse_reverse]
theorem on_rev {p : List Nat} {lo : Int} (h1 : 1 ≤ lo) (h2 : lo ≤ p.length) : runOn p.reverse (p.length + 1 - lo) = runBack p lo := by
  have := back_rev (p := p.reverse) (hi := p.length + 1 - lo) (by omega) (by rw [List.length_reverse]; omega)
  rw [List.reverse_reverse, List.length_reverse] at this
  rw [← this]
  congr 1
  omega
theorem room_rev {p : List Nat} {c : Nat} (h : c ∈ p) : roomOf p.reverse c = turn p.length (roomOf p c) := by
  unfold roomOf turn
  rw [low_rev, high_rev, back_rev (high_ge h) (high_le p c), on_rev (low_ge p c) (low_le h)]
  ext <;> simp <;> omega

/-! ### cutting -/
abbrev Cut := (Int × Int) × (Int × Int)
def cutGo (lo least hi most : Int) : List Int → List Cut
  | [] => [((lo, hi), (least, most))]
  | e :: r => ((lo, e), (least, e)) :: cutGo e e hi most r
def cutAt (must may : Int × Int) (parts : List Int) : List Cut := cutGo must.1 may.1 must.2 may.2 (parts.filter fun e => decide (must.1 < e ∧ e < must.2))
def turnCut (n : Int) (c : Cut) : Cut := (turn n c.1, turn n c.2)
theorem cutGo_snoc (lo least hi most e : Int) : ∀ (r : List Int), cutGo lo least hi most (r ++ [e]) = cutGo lo least e e r ++ [((e, hi), (e, most))] := by
  intro r
  induction r generalizing lo least with
  | nil => rfl
  | cons a r ih =>
    show ((lo, a), (least, a)) :: cutGo a a hi most (r ++ [e]) = _
    rw [ih]
    rfl
theorem cutGo_rev (n lo least hi most : Int) : ∀ (r : List Int), cutGo (n + 1 - hi) (n + 1 - most) (n + 1 - lo) (n + 1 - least) (r.map fun e => n + 1 - e).reverse = ((cutGo lo least hi most r).map (turnCut n)).reverse := by
  intro r
  induction r generalizing lo least with
  | nil => rfl
  | cons e r ih =>
    rw [List.map_cons, List.reverse_cons, cutGo_snoc, ih]
    show _ = (turnCut n ((lo, e), (least, e)) :: (cutGo e e hi most r).map (turnCut n)).reverse
    rw [List.reverse_cons]
    rfl
theorem cutGo_len (lo least hi most : Int) : ∀ (r : List Int), (cutGo lo least hi most r).length = r.length + 1 := by
  intro r
  induction r generalizing lo least with
  | nil => rfl
  | cons e r ih =>
    show (cutGo e e hi most r).length + 1 = _
    rw [ih]
    rfl
theorem cutAt_rev (n : Int) (must may : Int × Int) (parts : List Int) : cutAt (turn n must) (turn n may) (parts.map fun e => n + 1 - e).reverse = ((cutAt must may parts).map (turnCut n)).reverse := by
  unfold cutAt
  rw [← cutGo_rev, List.filter_reverse, List.filter_map]
  unfold turn
  simp only []
  congr 3
  apply List.filter_congr
  intro e _
  simp only [Function.comp, decide_eq_decide]
  omega

/-! ### the holes of a picture -/
def holesOf (p : List Nat) (parts : List Int) : List Cut := (netsOf p).flatMap fun c => if lowOf p c < highOf p c then cutAt (spanOf p c) (roomOf p c) parts else []
def turnParts (n : Int) (parts : List Int) : List Int := (parts.map fun e => n + 1 - e).reverse
theorem turnParts_turn (n : Int) (parts : List Int) : turnParts n (turnParts n parts) = parts := by
  unfold turnParts
  rw [List.map_reverse, List.reverse_reverse, List.map_map]
  conv => rhs; rw [← List.map_id parts]
  congr 1
  funext e
  show n + 1 - (n + 1 - e) = e
  omega
theorem flatMap_congr {α β : Type} {l : List α} {f g : α → List β} (h : ∀ a ∈ l, f a = g a) : l.flatMap f = l.flatMap g := by
  induction l with
  | nil => rfl
  | cons a l ih => rw [List.flatMap_cons, List.flatMap_cons, h a List.mem_cons_self, ih fun b hb => h b (List.mem_cons_of_mem _ hb)]
theorem holes_rev {p : List Nat} (h : NonMixed p) (parts : List Int) : holesOf p.reverse (turnParts p.length parts) = ((holesOf p parts).map (turnCut p.length)).reverse := by
  unfold holesOf turnParts
  rw [nets_rev p h, List.map_flatMap, List.reverse_flatMap]
  refine flatMap_congr fun c hc => ?_
  have hm := ((mem_nets p c).mp (List.mem_reverse.mp hc)).1
  show _ = (List.map _ _).reverse
  rw [low_rev, high_rev]
  by_cases q : lowOf p c < highOf p c
  · rw [if_pos q, if_pos (by omega), span_rev, room_rev hm]
    exact cutAt_rev _ _ _ _
  · rw [if_neg q, if_neg (by omega)]
    rfl
theorem holes_len (p : List Nat) (parts : List Int) : (holesOf p parts).length ≤ p.length * (parts.length + 1) := by
  have : ∀ l : List Nat, (l.flatMap fun c => if lowOf p c < highOf p c then cutAt (spanOf p c) (roomOf p c) parts else []).length ≤ l.length * (parts.length + 1) := by
    intro l
    induction l with
    | nil => exact Nat.zero_le _
    | cons c l ih =>
      rw [List.flatMap_cons, List.length_append, List.length_cons, Nat.add_mul, Nat.one_mul]
      have : (if lowOf p c < highOf p c then cutAt (spanOf p c) (roomOf p c) parts else []).length ≤ parts.length + 1 := by
        split
        · unfold cutAt
          rw [cutGo_len]
          have := List.length_filter_le (fun e => decide ((spanOf p c).1 < e ∧ e < (spanOf p c).2)) parts
          omega
        · exact Nat.zero_le _
      omega
  exact Nat.le_trans (this _) (Nat.mul_le_mul_right _ (nets_len p))

/-! ### more about spans and rooms -/
theorem getElem?_last {p : List Nat} {c : Nat} (h : c ∈ p) : p[p.length - 1 - p.reverse.idxOf c]? = some c := by
  have hr : c ∈ p.reverse := List.mem_reverse.mpr h
  have hi := List.idxOf_lt_length_of_mem hr
  rw [List.length_reverse] at hi
  have : p.reverse[p.reverse.idxOf c]? = some c := by
    rw [List.getElem?_eq_getElem (by rw [List.length_reverse]; exact hi), List.getElem_idxOf]
  rwa [List.getElem?_reverse (by omega)] at this
theorem idx_min {p : List Nat} {c k : Nat} (h : p[k]? = some c) : p.idxOf c ≤ k := by
  rcases Nat.lt_or_ge k (p.idxOf c) with z | z
  · exfalso
    have hlt : k < p.length := (List.getElem?_eq_some_iff.mp h).1
    rw [List.getElem?_eq_getElem hlt] at h
    have := List.not_of_lt_findIdx (p := fun x => x == c) (xs := p) (i := k) (by unfold List.idxOf at z; exact z)
    exact absurd (Option.some.inj h) (by simpa using this)
  · exact z
theorem low_min {p : List Nat} {c k : Nat} (h : p[k]? = some c) : lowOf p c ≤ (k : Int) + 1 := by
  have := idx_min h
  unfold lowOf
  omega
theorem high_max {p : List Nat} {c k : Nat} (h : p[k]? = some c) : (k : Int) + 1 ≤ highOf p c := by
  have hlt : k < p.length := (List.getElem?_eq_some_iff.mp h).1
  have : p.reverse[p.length - 1 - k]? = some c := by
    rw [List.getElem?_reverse (by omega), show p.length - 1 - (p.length - 1 - k) = k by omega]
    exact h
  have := idx_min this
  unfold highOf
  omega
theorem low_le_high {p : List Nat} {c : Nat} (h : c ∈ p) : lowOf p c ≤ highOf p c := by
  have h1 : p[p.idxOf c]? = some c := by rw [List.getElem?_eq_getElem (idx_le h), List.getElem_idxOf]
  have := high_max h1
  unfold lowOf
  omega
theorem at_low {p : List Nat} {c : Nat} (h : c ∈ p) : p[(lowOf p c - 1).toNat]? = some c := by
  unfold lowOf
  rw [show ((p.idxOf c : Int) + 1 - 1).toNat = p.idxOf c by omega, List.getElem?_eq_getElem (idx_le h), List.getElem_idxOf]
theorem at_high {p : List Nat} {c : Nat} (h : c ∈ p) : p[(highOf p c - 1).toNat]? = some c := by
  have := getElem?_last h
  unfold highOf
  rwa [show ((p.length : Int) - (p.reverse.idxOf c : Int) - 1).toNat = p.length - 1 - p.reverse.idxOf c by omega]
theorem sub3 {p : List Nat} {i j k a b c : Nat} (hi : p[i]? = some a) (hj : p[j]? = some b) (hk : p[k]? = some c) (h1 : i < j) (h2 : j < k) : [a, b, c].Sublist p := by
  have hjl : j < p.length := (List.getElem?_eq_some_iff.mp hj).1
  have e : p = p.take j ++ p.drop j := (List.take_append_drop j p).symm
  have e2 : p.drop j = b :: p.drop (j + 1) := by
    rw [List.drop_eq_getElem_cons hjl]
    congr 1
    rw [List.getElem?_eq_getElem hjl] at hj
    exact Option.some.inj hj
  rw [e, e2]
  refine List.Sublist.append (l₁ := [a]) (List.singleton_sublist.mpr ?_) (List.Sublist.cons₂ b (List.singleton_sublist.mpr ?_))
  · exact List.mem_of_getElem? (i := i) (by rw [List.getElem?_take_of_lt h1]; exact hi)
  · refine List.mem_of_getElem? (i := k - (j + 1)) ?_
    rw [List.getElem?_drop, show j + 1 + (k - (j + 1)) = k by omega]
    exact hk
theorem sub2 {p : List Nat} {i j a b : Nat} (hi : p[i]? = some a) (hj : p[j]? = some b) (h1 : i < j) : [a, b].Sublist p := by
  have hjl : j < p.length := (List.getElem?_eq_some_iff.mp hj).1
  have e : p = p.take j ++ p.drop j := (List.take_append_drop j p).symm
  rw [e]
  refine List.Sublist.append (l₁ := [a]) (List.singleton_sublist.mpr ?_) (List.singleton_sublist.mpr ?_)
  · exact List.mem_of_getElem? (i := i) (by rw [List.getElem?_take_of_lt h1]; exact hi)
  · refine List.mem_of_getElem? (i := 0) ?_
    rw [List.getElem?_drop, Nat.add_zero]
    exact hj
/-- between the ends of a net stand only itself and nothing -/
theorem NonMixed.between {p : List Nat} (h : NonMixed p) {c d k : Nat} (hc : c ≠ 46) (hm : c ∈ p) (hk : p[k]? = some d) (h1 : lowOf p c ≤ (k : Int) + 1) (h2 : (k : Int) + 1 ≤ highOf p c) : d = c ∨ d = 46 := by
  by_cases e : d = c
  · exact .inl e
  · by_cases z : d = 46
    · exact .inr z
    · exfalso
      have a := at_low hm
      have b := at_high hm
      have lo := low_ge p c
      have hi := high_ge hm
      have n1 : (lowOf p c - 1).toNat ≠ k := by
        intro q
        rw [q, hk] at a
        exact e (Option.some.inj a)
      have n2 : (highOf p c - 1).toNat ≠ k := by
        intro q
        rw [q, hk] at b
        exact e (Option.some.inj b)
      exact h c d hc z (Ne.symm e) (sub3 a hk b (by omega) (by omega))
/-- what stands in the part of p between the ends -/
theorem slice_at {p : List Nat} {lo hi : Int} {k c : Nat} (h0 : 1 ≤ lo) (h : ((p.drop (lo - 1).toNat).take (hi - (lo - 1)).toNat)[k]? = some c) : p[(lo - 1).toNat + k]? = some c ∧ ((lo - 1).toNat + k : Int) + 1 ≤ hi ∧ lo ≤ ((lo - 1).toNat + k : Int) + 1 := by
  have hl := (List.getElem?_eq_some_iff.mp h).1
  rw [List.length_take] at hl
  rw [List.getElem?_take_of_lt (by omega), List.getElem?_drop] at h
  exact ⟨h, by omega, by omega⟩

/-! ### runs -/
def run (q : List Nat) : Nat := (q.takeWhile (fun c => c == 46)).length
theorem run_step : ∀ {q : List Nat} {j : Nat}, j ≤ run q → q[j]? = some 46 → j + 1 ≤ run q
  | [], j, _, h => by simp at h
  | c :: q, 0, _, h => by
    have e : c = 46 := by simpa using h
    unfold run
    rw [List.takeWhile_cons, if_pos (by simp [e]), List.length_cons]
    omega
  | c :: q, j + 1, hj, h => by
    unfold run at hj ⊢
    rw [List.takeWhile_cons] at hj ⊢
    by_cases e : (c == 46) = true
    · rw [if_pos e] at hj ⊢
      rw [List.length_cons] at hj ⊢
      have := run_step (q := q) (j := j) (by unfold run; omega) (by simpa using h)
      unfold run at this
      omega
    · rw [if_neg e] at hj
      simp at hj
theorem run_stop : ∀ {q : List Nat} {j : Nat}, j ≤ run q → (∀ c, q[j]? = some c → c ≠ 46) → j = run q
  | [], j, hj, _ => by unfold run at hj; simp at hj; unfold run; simp; exact hj
  | c :: q, 0, _, h => by
    have e : c ≠ 46 := h c (by simp)
    unfold run
    rw [List.takeWhile_cons, if_neg (by simpa using e)]
    rfl
  | c :: q, j + 1, hj, h => by
    unfold run at hj ⊢
    rw [List.takeWhile_cons] at hj ⊢
    by_cases e : (c == 46) = true
    · rw [if_pos e] at hj ⊢
      rw [List.length_cons] at hj ⊢
      have := run_stop (q := q) (j := j) (by unfold run; omega) (fun d hd => h d (by simpa using hd))
      unfold run at this
      omega
    · rw [if_neg e] at hj
      simp at hj
theorem run_le (q : List Nat) : run q ≤ q.length := by
  unfold run
  exact (List.takeWhile_sublist _).length_le
theorem runBack_eq (p : List Nat) (lo : Int) : runBack p lo = run (p.take (lo - 1).toNat).reverse := rfl
theorem runOn_eq (p : List Nat) (hi : Int) : runOn p hi = run (p.drop hi.toNat) := rfl
theorem back_at {p : List Nat} {lo : Int} {j : Nat} (h1 : 1 ≤ lo) (h2 : lo ≤ p.length) (hj : (j : Int) < lo - 1) : (p.take (lo - 1).toNat).reverse[j]? = p[(lo - 2 - j).toNat]? := by
  rw [List.getElem?_reverse (by rw [List.length_take]; omega), List.length_take]
  rw [List.getElem?_take_of_lt (by omega)]
  congr 1
  omega
theorem on_at {p : List Nat} {hi : Int} {j : Nat} (h1 : 0 ≤ hi) : (p.drop hi.toNat)[j]? = p[(hi + j).toNat]? := by
  rw [List.getElem?_drop]
  congr 1
  omega
theorem runBack_le (p : List Nat) {lo : Int} (h : 1 ≤ lo) : (runBack p lo : Int) ≤ lo - 1 := by
  have := run_le (p.take (lo - 1).toNat).reverse
  rw [List.length_reverse, List.length_take] at this
  rw [runBack_eq]
  omega
theorem runOn_le (p : List Nat) {hi : Int} (h : 0 ≤ hi) (h2 : hi ≤ p.length) : hi + (runOn p hi : Int) ≤ p.length := by
  have := run_le (p.drop hi.toNat)
  rw [List.length_drop] at this
  rw [runOn_eq]
  omega
theorem room_ge (p : List Nat) (c : Nat) : 1 ≤ (roomOf p c).1 := by
  have := runBack_le p (low_ge p c)
  show 1 ≤ lowOf p c - runBack p (lowOf p c)
  omega
theorem room_low (p : List Nat) (c : Nat) : (roomOf p c).1 ≤ lowOf p c := by
  show lowOf p c - runBack p (lowOf p c) ≤ _
  omega
theorem room_high (p : List Nat) (c : Nat) : highOf p c ≤ (roomOf p c).2 := by
  show _ ≤ highOf p c + runOn p (highOf p c)
  omega
theorem room_le {p : List Nat} {c : Nat} (h : c ∈ p) : (roomOf p c).2 ≤ p.length := runOn_le p (by have := high_ge h; omega) (high_le p c)
end PN

/-! Defs that say super(): the def's rule, super().m(..), list(super().m(..)). -/
namespace PN
set_option maxRecDepth 100000
set_option maxHeartbeats 4000000
open PySem PySem.Spec PyProof.Rows L2

abbrev envS (qual : Str) (scope : Scope) (L f cda cc : Addr) : Env := PySem.W.envX qual scope L f (.ref cda) [("__class__", cc)]
/-- the context of such a def's body; nothing is raised -/
def cxS (P : Program) (w : World) (K : PySem.W.Frag) (mg : Str → Option Value) (base : Heap) (N : List Str) (qual : Str) (scope : Scope) (f cda cc : Addr) (A : Around) (outer : List Env) (s : Shared) (H : Hp) : Cx where
  prog := P
  w := w
  K := K
  mg := mg
  base := base
  A := A.deeper (envS qual scope s.heap.objs.size f cda cc)
  N := N
  s_0 := s
  H_0 := H
  env := envS qual scope s.heap.objs.size f cda cc
  outer := outer
  stack := envS qual scope s.heap.objs.size f cda cc :: outer
  ex := []
  calm := true
  fn := fun _ => false
  pn := []
  xe := fun _ _ => False
structure FnScopeS (N ps : List Str) (sc : Scope) : Prop where
  kind : sc.kind = .function
  co : sc.isCoroutine = false
  gen : sc.isGenerator = false
  nd : N.Nodup
  pre : N.take ps.length = ps
  par : ∀ x ∈ ps, sc.names.lookup x = some .local
  nocell : ∀ y ∈ sc.names, y.2 ≠ .cell
  free : ∀ y ∈ sc.names, y.2 = .free → y.1 = "__class__"
  cls : sc.names.lookup ("__class__" : Str) = some .free
  sup : sc.names.lookup ("super" : Str) = some .globalImplicit
theorem zip_sub : ∀ (ps : List Str) (us : List Value), ((ps.zip us).map (·.1)).Sublist ps
  | [], us => by simp
  | p :: ps, [] => by simp
  | p :: ps, u :: us => by
    rw [List.zip_cons_cons, List.map_cons]
    exact (zip_sub ps us).cons₂ p
theorem zip_rev {ps : List Str} {us : List Value} {i : Nat} {y : Str} {u : Value} (nd : ps.Nodup) (h1 : ps[i]? = some y) (h2 : us[i]? = some u) : (ps.zip us).reverse.lookup y = some u := by
  have aux : ∀ {l : List (Str × Value)}, (l.map (·.1)).Nodup → (y, u) ∈ l → l.lookup y = some u := by
    intro l
    induction l with
    | nil => intro _ h; cases h
    | cons p r ih =>
      intro hn hm
      obtain ⟨n, v⟩ := p
      rw [List.map_cons, List.nodup_cons] at hn
      rcases List.mem_cons.mp hm with e | hm
      · cases e
        simp [List.lookup]
      · have ne : ¬ y = n := fun q => hn.1 (by rw [← q]; exact List.mem_map.mpr ⟨(y, u), hm, rfl⟩)
        have hb : (y == n) = false := beq_eq_false_iff_ne.mpr ne
        simp only [List.lookup, hb]
        exact ih hn.2 hm
  refine aux ?_ ?_
  · rw [List.map_reverse]
    have hnd : ((ps.zip us).map (·.1)).Nodup := nd.sublist (zip_sub ps us)
    exact List.pairwise_reverse.2 (hnd.imp fun h => Ne.symm h)
  · refine List.mem_reverse.mpr ?_
    have : (ps.zip us)[i]? = some (y, u) := by
      rw [List.getElem?_zip_eq_some]
      exact ⟨h1, h2⟩
    exact List.mem_of_getElem? this
theorem inv_startS {P : Program} {w : World} {K : PySem.W.Frag} {mg : Str → Option Value} {base : Heap} {N ps : List Str} {qual : Str} {scope : Scope} {f cda cc D : Addr} {A : Around} {outer : List Env} {s : Shared} {H : Hp} {us : List Value} {vs : List V} {h₀ : Heap} {t' : Nat}
    {cl : Value} {cld : Option Addr} {csl : Array (Option Value)} (hcc : K.lookup cc = some ⟨cl, cld, .cell (some (.ref D)), csl⟩)
    (S : FnScopeS N ps scope) (hd : A.handled = none) (e0 : Env0 P w K mg base A outer s H) (hl : vs.length = ps.length) (r : Vals vs us)
    (ns : h₀.Ns s.heap.objs.size (fun x => (ps.zip us).reverse.lookup x)) (kp : ∀ b o, s.heap.get? b = some o → h₀.get? b = some o) :
    Inv (cxS P w K mg base N qual scope f cda cc A outer s H) [] (L2.start N vs) H { s with heap := h₀, toks := t' } := by
  have hpl : ps.length ≤ N.length := by have := congrArg List.length S.pre; rw [List.length_take] at this; omega
  have noA : ∀ b : Addr, b ∉ (cxS P w K mg base N qual scope f cda cc A outer s H).ex := fun b z => absurd (show b ∈ ([] : List Addr) from z) (by simp)
  have cb : base.get? cc = some ⟨cl, cld, .cell (some (.ref D)), csl⟩ := e0.mod.kin _ _ hcc
  have cs := e0.bs _ _ cb
  have lk : ∀ y c, ([("__class__", cc)] : List (Str × Addr)).lookup y = some c → y = "__class__" ∧ c = cc := fun y c h => by
    simp only [List.lookup] at h
    split at h
    · rename_i q
      exact ⟨beq_iff_eq.mp q, (Option.some.inj h).symm⟩
    · cases h
  refine ⟨⟨e0.mod, S.kind, rfl, rfl, Nat.le_refl _, fun y z c h1 h2 => ?_, fun y hy => ?_, fun y c h _ => ?_, fun _ => hd, Around.frames_deeper e0.frames, .inr ⟨rfl, rfl⟩, fun b z => absurd z (noA b), e0.bs, e0.bsz, fun b _ _ => noA b, fun b z => absurd z (noA b), e0.funs, e0.frf⟩,
    rfl, e0.bare, Un.kept kp, ⟨_, ns, fun i y v h1 h2 h3 => ?_⟩, fun y c h => ?_, e0.hok.fresh (Nat.le_refl _), fun y c h => ?_, fun p hp => absurd (show p ∈ ([] : List (Addr × Obj)) from hp) (by simp), e0.hok.kept kp, ?_⟩
  · exact (lk _ _ h1).1.trans (lk _ _ h2).1.symm
  · have hy : scope.names.lookup y = some .cell ∨ scope.names.lookup y = some .free := hy
    rcases hy with hy | hy
    · exact absurd rfl (S.nocell _ (PySem.mem_of_lookup hy))
    · have e := S.free _ (PySem.mem_of_lookup hy) rfl
      refine ⟨cc, ?_⟩
      show ([("__class__", cc)] : List (Str × Addr)).lookup y = some cc
      rw [show y = "__class__" from e]
      rfl
  · cases h
  · have hi : i < vs.length := by
      unfold L2.start at h2
      by_cases hi : i < vs.length
      · exact hi
      · rw [List.getElem?_append_right (by simpa using hi)] at h2
        rw [List.getElem?_replicate] at h2
        split at h2 <;> cases h2
    have ha : vs[i]? = some v := by
      unfold L2.start at h2
      rw [List.getElem?_append_left (by simpa using hi), List.getElem?_map] at h2
      cases e : vs[i]? with
      | none => rw [e] at h2; cases h2
      | some a => rw [e] at h2; cases h2; rfl
    obtain ⟨u, hu, rv⟩ := r.get ha
    have hp : ps[i]? = some y := by
      rw [← S.pre, List.getElem?_take_of_lt (by omega)]; exact h1
    have ndP : ps.Nodup := by rw [← S.pre]; exact S.nd.sublist (List.take_sublist _ _)
    exact ⟨u, rv, .inl ⟨S.par y (List.mem_of_getElem? hp), zip_rev ndP hp hu⟩⟩
  · obtain ⟨_, rfl⟩ := lk _ _ h
    exact ⟨_, _, kp _ _ cs.1, rfl⟩
  · obtain ⟨_, rfl⟩ := lk _ _ h
    exact cs.2
  · unfold L2.start
    show _ = N.length
    rw [List.length_append, List.length_map, List.length_replicate]
    omega

/-! ### judgements at the running code -/
structure PEA (X : Cx) (b : List Stmt) (e : Expr) (t : TE) : Prop where
  run : ∀ (pins : List (Addr × Obj)) (s : Shared) (σ : L2.St) (H : Hp) (Q : VK), Inv X pins σ H s → t σ H Q → _root_.PySem.wpAt (model X.prog X.w) X.A (.func b X.env) (eval e X.env) (EP X pins σ Q) X.xe s
structure PSA (X : Cx) (b : List Stmt) (st : Stmt) (t : TS) : Prop where
  run : ∀ (pins : List (Addr × Obj)) (s : Shared) (σ : L2.St) (H : Hp) (D : Ends), Inv X pins σ H s → t D σ H → _root_.PySem.wpAt (model X.prog X.w) X.A (.func b X.env) (exec st X.env) (SP X pins D) X.xe s
structure PSsA (X : Cx) (b : List Stmt) (st : List Stmt) (t : TS) : Prop where
  run : ∀ (pins : List (Addr × Obj)) (s : Shared) (σ : L2.St) (H : Hp) (D : Ends), Inv X pins σ H s → t D σ H → _root_.PySem.wpAt (model X.prog X.w) X.A (.func b X.env) (execs st X.env) (SP X pins D) X.xe s
section
variable {X : Cx} {b : List Stmt} {st : Stmt} {rest : List Stmt} {e : Expr} {te : TE} {t u : TS} {pos : Pos}
theorem pssA_of (h : PSs X rest u) : PSsA X b rest u := ⟨fun pins s σ H D I hw => wpAt_of_wpAny (h.run pins s σ H D I hw)⟩
theorem pssA_cons (h1 : PSA X b st t) (h2 : PSs X rest u) : PSsA X b (st :: rest) (tSeq t u) := by
  refine ⟨fun pins s σ H D I h => ?_⟩
  refine ks_wpAt_execs_cons (_root_.PySem.wpAt_mono (h1.run pins s σ H { D with nx := u D } I h) (fun f s1 q => ?_) fun _ _ z => z)
  cases f with
  | next =>
    obtain ⟨σ', H', I', q⟩ := q
    exact wpAt_of_wpAny (h2.run pins s1 σ' H' D I' q)
  | ret v => exact q
  | brk => exact q
  | cont => exact q
theorem psA_ret (h : PEA X b e te) : PSA X b (.Return (some e) pos) (tRet te) := by
  refine ⟨fun pins s σ H D I hw => ?_⟩
  refine ks_wpAt_Return_some (_root_.PySem.wpAt_mono (h.run pins s σ H _ I hw) (fun v s1 q => ?_) fun _ _ z => z)
  obtain ⟨x, H1, I1, r1, q1⟩ := q
  exact ⟨x, σ, H1, I1, r1, q1⟩
theorem psA_set {i : Nat} {x : Str} {pos' : Pos} (hN : X.N.Nodup) (hi : X.N[i]? = some x) (hx : X.env.scope.names.lookup x = some .local) (h : PEA X b e te) (hs : swapsWith e (some (.Name x pos')) pos.line X.env = pure false := by rfl) :
    PSA X b (.Assign [.Name x pos'] e pos) (tAsg te (gName i)) := by
  refine ⟨fun pins s σ H D I hw => ?_⟩
  refine ks_wpAt_Assign_Name (_root_.PySem.wpAt_mono (h.run pins s σ H _ I hw) (fun v s1 q => ?_) fun _ _ z => z) hs
  obtain ⟨y, H1, I1, r1, q1⟩ := q
  exact store_ok I1 hN hi (.inl hx) r1 (fun s2 I2 => ⟨_, H1, I2, q1⟩) (.inr hx)
end

/-! ### the def's rule -/
section
variable {P : Program} {w : World} {K : PySem.W.Frag} {mg : Str → Option Value} {base : Heap} {x qual : Str} {params : Arguments} {body : List Stmt} {scope : Scope} {D f : Addr} {fd : FuncData}
theorem SupD.ok {N ps : List Str} {k : Nat} {sp : Sp} (F : SupD K x qual params body scope D f fd) (S : FnScopeS N ps scope) (len : ∀ vs H Q E, sp vs H Q E → vs.length = ps.length)
    (hbody : ∀ (cda cc : Addr) (A : Around) (outer : List Env) (s : Shared) (H : Hp) (vs : List V) (Q : VK) (E : XK), Room k (A.deeper (envS qual scope s.heap.objs.size f cda cc)) →
      (∃ (fo : Obj) (fd : FuncData), K.lookup f = some fo ∧ fo.data = .func fd ∧ fd.params = params) → (∃ (cl : Value) (cld : Option Addr) (csl : Array (Option Value)), K.lookup cc = some ⟨cl, cld, .cell (some (.ref D)), csl⟩) →
      (∃ (ccl : Value) (cdd : Option Addr) (vs : Array Value) (ccs : Array (Option Value)) (tf : Tok), K.lookup cda = some ⟨ccl, cdd, .fields vs, ccs⟩ ∧ vs[2]? = some (.str "/claim/cut.py" tf)) → sp vs H Q E →
      ∃ t, PSsA (cxS P w K mg base N qual scope f cda cc A outer s H) body body t ∧ t { nx := fun _ H' => Q .non H', rt := Q } (L2.start N vs) H) : FnOk P w K mg base CX0 (k + 1) f fd ps sp := by
  obtain ⟨oc, od, kV, doc, pm, an, cda, ct, osl, cc, efd, lkf, hcd, hcc, hfile⟩ := F.ex
  refine ⟨len, fun A outer s H args us vs Q E hr e0 hb r hsp => ?_⟩
  have hl := len _ _ _ _ hsp
  have KX : K.In s.heap := e0.mod.kin.keeps fun b o e => (e0.bs b o e).1
  have lim : s.heap.NoLimit := e0.mod.nolimit.keeps fun b o e => (e0.bs b o e).1
  obtain ⟨cl, cld, csl, hcc'⟩ := id hcc
  subst efd
  refine ks_codeAny_call_defAt hr.depth (KX _ _ lkf) rfl lim (PySem.W.codeRec_of KX hcd) rfl hb S.nocell (fun y hy => ?_) (fun h₀ hns kp => ?_) S.co S.gen S.kind
  · obtain ⟨n, v⟩ := y
    exact S.par n (List.of_mem_zip hy).1
  · obtain ⟨t, ht, hq⟩ := hbody cda cc A outer s H vs Q E (hr.deeper _) ⟨_, _, lkf, rfl, rfl⟩ hcc hfile hsp
    have I := inv_startS (qual := qual) (f := f) (cda := cda) (t' := s.toks + (ps.zip us).length) hcc' S hr.hd e0 hl r hns kp
    refine _root_.PySem.wpAt_mono (ht.run [] _ (L2.start N vs) H _ I hq) (fun fl s' hs => ?_) fun e s' hs => False.elim hs
    have fin : ∀ {σ' : L2.St} {H' : Hp} {v : V} {u : Value}, Inv (cxS P w K mg base N qual scope f cda cc A outer s H) [] σ' H' s' → RelV v u → Q v H' → CE outer P w H s Q u s' :=
      fun {σ' H' v u} J rv q => ⟨v, H', J.os, J.bare, J.base, J.hok, rv, q⟩
    cases fl with
    | ret u =>
      obtain ⟨v, σ', H', J, rv, q⟩ := hs
      exact fin J rv q
    | next =>
      obtain ⟨σ', H', J, q⟩ := hs
      exact fin (v := V.non) (u := Value.none) J rfl q
    | brk =>
      obtain ⟨_, _, _, q⟩ := hs
      exact False.elim q
    | cont =>
      obtain ⟨_, _, _, q⟩ := hs
      exact False.elim q
/-- how its arguments bind -/
theorem SupD.binds {ps : List Str} (F : SupD K x qual params body scope D f fd)
    (h : ∀ (cc cda : Addr) (kV doc pm : Value) (an : Option Addr) (ct : Value) (us : List Value), us.length = ps.length → bindArgs (PySem.W.fnX x qual params body scope [("__class__", cc)] .none kV doc pm an (.ref cda) ct) ⟨us, []⟩ = pure (ps.zip us)) : Binds K fd ps [] := by
  obtain ⟨oc, od, kV, doc, pm, an, cda, ct, osl, cc, efd, lkf, hcd, hcc, hfile⟩ := F.ex
  subst efd
  exact .all fun us hl => h cc cda kV doc pm an ct us hl
end

/-! ### super().m(e, ..) -/
def tSup (C : Addr) (sp : Sp) (E : XK) (t : TA) : TE := fun σ H Q => ∃ a dx fs, σ[0]? = some (some (.ref a)) ∧ H a = some (.ins C dx fs) ∧ t σ H fun vs H1 => sp (.ref a :: vs) H1 Q E
section
variable {P : Program} {w : World} {K : PySem.W.Frag} {mg : Str → Option Value} {base : Heap} {qual : Str} {params : Arguments} {b body : List Stmt} {scope : Scope} {C D f g cda cc : Addr} {fd : FuncData} {N ps : List Str} {A : Around} {outer : List Env} {s0 : Shared} {H0 : Hp}
  {CX : CXT} {k : Nat} {sp : Sp} {E : XK} {m self : Str} {e : Expr} {es : List Expr} {t : TA} {p0 p1 apos pos : Pos} {ar : Arg}
theorem peA_super (hP : P = prg) (S : FnScopeS N ps scope) (hN : N[0]? = some self) (hself : scope.names.lookup self = some .local) (hpar : (params.posonlyargs ++ params.args).head? = some ar) (har : ar.arg = self)
    (hf : ∃ (fo : Obj) (fd : FuncData), K.lookup f = some fo ∧ fo.data = .func fd ∧ fd.params = params) (hcc : ∃ (cl : Value) (cld : Option Addr) (csl : Array (Option Value)), K.lookup cc = some ⟨cl, cld, .cell (some (.ref D)), csl⟩)
    (hfile : ∃ (ccl : Value) (cdd : Option Addr) (vs : Array Value) (ccs : Array (Option Value)) (tf : Tok), K.lookup cda = some ⟨ccl, cdd, .fields vs, ccs⟩ ∧ vs[2]? = some (.str "/claim/cut.py" tf))
    (hsuper : mg "super" = none) (hno : PySem.W.nsIn K cStatics "thirdparty.any" = some none) (U : Sup K C D m g) (hm : (m == ("__class__" : Str)) = false)
    (F : FnR P w K mg base CX k g sp) (hr : Room k (A.deeper (envS qual scope s0.heap.objs.size f cda cc))) (hx : Passes CX (cxS P w K mg base N qual scope f cda cc A outer s0 H0) E)
    (ha : PA (cxS P w K mg base N qual scope f cda cc A outer s0 H0) (e :: es) t)
    (hst : starEach (e :: es) (envS qual scope s0.heap.objs.size f cda cc) = (false, eval e (envS qual scope s0.heap.objs.size f cda cc)) :: starEach es (envS qual scope s0.heap.objs.size f cda cc) := by rfl)
    (hpl : (backTo pos (starEach es (envS qual scope s0.heap.objs.size f cda cc))).any (·.1) = false := by rfl)
    (he : eval (.Call (.Attribute (.Call (.Name "super" p0) [] [] p1) m apos) (e :: es) [] pos) (envS qual scope s0.heap.objs.size f cda cc) = (do
      let ov ← attributeBase (.Call (.Name "super" p0) [] [] p1) m (envS qual scope s0.heap.objs.size f cda cc) (eval (.Call (.Name "super" p0) [] [] p1) (envS qual scope s0.heap.objs.size f cda cc))
      standAt apos.atName
      let (f', first) ← holding [ov] (getMethod ov m (pure false))
      callWith pos f' first (backTo pos (starEach (e :: es) (envS qual scope s0.heap.objs.size f cda cc))) []) := by rfl) :
    PEA (cxS P w K mg base N qual scope f cda cc A outer s0 H0) b (.Call (.Attribute (.Call (.Name "super" p0) [] [] p1) m apos) (e :: es) [] pos) (tSup C sp E t) := by
  refine ⟨fun pins s σ H Q I h => ?_⟩
  obtain ⟨a, dx, fs, hσ, hins, h⟩ := h
  obtain ⟨fo, fd, hfo, hfd, hfp⟩ := hf
  obtain ⟨cl, cld, csl, hcc⟩ := hcc
  obtain ⟨ccl, cdd, vsc, ccs, tf, hcda, hvs⟩ := hfile
  have KX : K.In s.heap := I.kIn
  obtain ⟨cdD, hD⟩ := U.cls
  obtain ⟨mL, hns, hloc⟩ := id I.loc
  obtain ⟨u, ru, hlk⟩ := hloc 0 self (.ref a) hN hσ (.inl hself)
  have eu : u = Value.ref a := ru
  subst eu
  have hml : mL self = some (.ref a) := by
    rcases hlk with ⟨_, q⟩ | ⟨q, _⟩
    · exact q
    · exfalso
      rcases q with q | q
      · have q2 : scope.names.lookup self = some .cell := q
        rw [hself] at q2
        cases q2
      · have q2 : scope.names.lookup self = some .free := q
        rw [hself] at q2
        cases q2
  obtain ⟨mA, O, _⟩ := ins_get I.hok hins
  obtain ⟨od, J, _⟩ := O.look
  obtain ⟨oD, hD1, hD2⟩ : ∃ oD, s.heap.get? D = some oD ∧ oD.data = .cls cdD := by
    have hD' := hD
    unfold PySem.W.clsIn at hD'
    split at hD'
    · rename_i c d cd' sl ho
      cases hD'
      exact ⟨_, KX _ _ ho, rfl⟩
    · cases hD'
  refine ks_wpAt_MethodCall (pl := pure false) ?_ he
  refine ks_wpAt_super_base (env := envS qual scope s0.heap.objs.size f cda cc) S.sup S.cls hm rfl (KX _ _ hfo) hfd (by rw [hfp]; exact hpar) rfl (KX _ _ hcda) rfl hvs (by subst hP; rfl) (by subst hP; rfl) ?_
  obtain ⟨mb, hb1, hb2⟩ := I.mod.blt
  refine PySem.W.ks_loadName_global S.kind S.sup (Calls.loadGlobal_builtin (env := envS qual scope s0.heap.objs.size f cda cc) (I.mod.glob.keeps I.bk) hsuper (hb1.keeps I.bk) ((hb2 "super" (by decide)).trans (by kernel_rfl)) ⟨rfl, ?_⟩)
  refine wpAny_loadName_free S.kind S.cls (v := .ref D) (c := cc) rfl ⟨_, KX _ _ hcc, rfl⟩ ?_
  rw [har]
  refine wpAny_loadName_local S.kind hself hns hml ?_
  obtain ⟨hh, gg, dd, tt, os⟩ := s
  refine ks_wpAny_isType_cls hD1 hD2 ⟨rfl, ?_⟩
  refine ks_wpAny_call_super hD1 hD2 J.at_ J.cls (fun c e => ?_) (PySem.W.looks_mroIn KX U.mro) (fun h' eso kp => ?_)
  · have := J.no
    unfold PySem.W.notCls at this
    rw [e] at this
    exact Bool.noConfusion this
  · -- the super object is laid; the method is taken
    have I1 : Inv (cxS P w K mg base N qual scope f cda cc A outer s0 H0) pins σ H ⟨h', gg, dd, tt, os⟩ := I.kept (t' := tt) kp
    have KX1 : K.In h' := I1.kIn
    obtain ⟨mA1, O1, _⟩ := ins_get I1.hok hins
    obtain ⟨od1, J1, _⟩ := O1.look
    obtain ⟨of, hof, hofc⟩ : ∃ of, h'.get? g = some of ∧ of.cls = .type "function" := by
      have ht' : (K.lookup g).map (·.cls) = some (.type "function") := U.ty
      cases z : K.lookup g with
      | none => rw [z] at ht'; cases ht'
      | some of => rw [z] at ht'; exact ⟨of, KX1 _ _ z, Option.some.inj ht'⟩
    cases hc : PySem.W.clsIn K C with
    | none =>
      have hm1 := U.at_
      unfold PySem.W.ks_superIn at hm1
      rw [hc] at hm1
      cases hm1
    | some cd =>
      have hm1 := U.at_
      unfold PySem.W.ks_superIn at hm1
      rw [hc] at hm1
      refine ks_wpAny_getMethod_super eso (PySem.W.looks_opaque KX1 hno) (l₀ := cd.mro) (fun A Q E s k q => wpAny_bind ((PySem.W.looks_clsIn KX1 hc) A _ E s k (wpAny_pure q))) rfl KX1 hm1 hof hofc (PySem.W.ks_ne KX1 J1 hc) hm ?_
      have I2 := ClX.pin_new (o := PySem.W.methodObj (.ref g) (.ref a)) (h' := h'.push (PySem.W.methodObj (.ref g) (.ref a))) (a := h'.objs.size) (t' := tt + 1) I1 (fun _ _ z => Heap.get?_push_of_some _ z) (Nat.le_refl _) (Heap.get?_push_size h' rfl) (fun v z => nomatch z)
      refine ClX.callwith_cm (g := g) (C := a) I2 (ClX.base_none I1 (Nat.le_refl _)) U.fi (thn (ha.run pos _ _ σ H _ I2 h) fun us s3 ⟨vs, H2, I3, rv, q2⟩ => ⟨⟨ClX.pin_at I3, I3.kIn⟩, ?_⟩) hst hpl
      exact ClX.run_cm F hr hx I3 rv q2
end
/-- list(e), T(e): a built-in class called with such a value -/
theorem peA_callTy {X : Cx} {b : List Stmt} {x : Str} {T : String} {r : List V → Hp → VK → Prop} {e : Expr} {te : TE} {p pos : Pos} (hc : CallR X (.type T) r) (hg : Gl X x) (hm : X.mg x = none) (hv : bootBuiltins x = some (.type T)) (ha : PEA X b e te) (hn : x ≠ "__name__" := by decide)
    (hdb : (x == ("__debug__" : Str)) = false := by decide) (he : eval (.Call (.Name x p) [e] [] pos) X.env = (do callWith pos (← eval (.Name x p) X.env) [] (backTo pos (starEach [e] X.env)) (backToKw pos (keywordEach [] X.env))) := by rfl)
    (hst : backTo pos (starEach [e] X.env) = [(false, eval e X.env)] := by rfl) : PEA X b (.Call (.Name x p) [e] [] pos) (tCB r (tCons te tNil)) := by
  refine ⟨fun pins s σ H Q I h => ?_⟩
  rw [he, hst]
  refine _root_.PySem.wpAt_bind (wpAt_of_wpAny (ld_blt I hg hm hv ?_ hn hdb))
  unfold callWith
  refine _root_.PySem.wpAt_bind (ks_wpAt_holding ?_)
  unfold evalArgs
  show _root_.PySem.wpAt _ _ _ (spliced [(false, eval e X.env)] >>= _) _ _ _
  refine _root_.PySem.wpAt_bind ?_
  unfold spliced
  refine _root_.PySem.wpAt_bind (_root_.PySem.wpAt_mono (ha.run pins s σ H _ I h) (fun v s1 q1 => ?_) fun _ _ z => z)
  obtain ⟨x1, H1, I1, r1, q1⟩ := q1
  refine wpAt_of_wpAny (wpAny_bind (wpAny_pure (wpAny_bind (wpAny_holding ?_))))
  unfold spliced
  refine wpAny_pure (wpAny_pure ?_)
  refine wpAt_of_wpAny (wpAny_holding ?_)
  refine wpAny_bind (wpAny_pure (wpAny_bind (wpAny_pure (wpAny_pure ?_))))
  have hk : backToKw pos (keywordEach [] X.env) = [] := rfl
  rw [hk]
  refine wpAt_of_wpAny (wpAny_bind (wpAny_standAt ?_))
  simp only [List.any_cons, List.any_nil, Bool.or_false]
  refine wpAny_bind (wpAny_pure ?_)
  have rv : Vals [x1] [v] := .cons r1 .nil
  exact wpAny_bind (wpAny_mono (hc pins s1 σ H1 [x1] [v] Q I1 rv q1) (fun r s₂ hr => wpAny_bind (wpAny_holding (wpAny_point (wpAny_pure hr)))) fun _ _ x => x)
end PN

/-! Own rules: x[::-1] of a text and of a tuple; len(o) by an own __len__; a != b by an own __eq__. -/
namespace PN
set_option maxRecDepth 100000
set_option maxHeartbeats 4000000
open PySem PySem.Spec PyProof.Rows L2

/-! ### x[::-1] -/
theorem revPicked (z : Str) : (Builtin.Str.strSliceIndices none none (-1) z.length).filterMap (z.cps[·]?) = z.cps.toList.reverse := by
  show (sliceRange ((z.cps.size : Int) - 1) (-1) (-1)).filterMap (z.cps[·]?) = _
  rw [PySem.W.krv_sliceRange, PySem.W.krv_range, List.filterMap_reverse, PySem.W.krv_all]
def revS (z : Str) : Str := ⟨z.cps.toList.reverse.toArray⟩
def tRevS (te : TE) : TE := fun σ H Q => te σ H fun x H1 => ∃ z, x = .str z ∧ z.length ≤ sizeLine ∧ Q (.str (revS z)) H1
/-- the three parts of [::-1] -/
theorem rev_parts {X : Cx} {k : Nat} {p1 p2 p3 : Pos} {pins : List (Addr × Obj)} {σ : L2.St} {H1 : Hp} {s1 : Shared} {Q : Value → Shared → Prop} (I1 : Inv X pins σ H1 s1)
    (h : ∀ (s4 : Shared) (tk : Tok), Inv X pins σ H1 { s4 with heap := s4.heap.push { cls := .type "slice", data := .fields #[.none, .none, .int (-1) tk] } } →
      Q (.ref s4.heap.objs.size) { s4 with heap := s4.heap.push { cls := .type "slice", data := .fields #[.none, .none, .int (-1) tk] } }) :
    wpAny (model X.prog X.w) X.A (eval (.Slice none none (some (.UnaryOp .USub (.Constant (.int 1) k p1) p2)) p3) X.env) Q X.xe s1 := by
  have hst : PO X (some (.UnaryOp .USub (.Constant (.int 1) k p1) p2)) (tPart (tUn (rU fun i => .int (-i)) (tC (.int 1)))) := po_some (pe_un un_neg pe_int)
  refine wpAny_Slice (thn (po_none.run pins s1 σ H1 (fun o H2 => o = none ∧ H2 = H1) I1 ⟨rfl, rfl⟩) fun vl s2 ⟨l, H2, I2, pl, el, e2⟩ => ?_)
  subst el e2
  refine thn (po_none.run pins s2 σ H2 (fun o H3 => o = none ∧ H3 = H2) I2 ⟨rfl, rfl⟩) fun vu s3 ⟨u, H3, I3, pu, eu, e3⟩ => ?_
  subst eu e3
  refine thn (hst.run pins s3 σ H3 (fun o H4 => o = some (-1) ∧ H4 = H3) I3 ⟨1, rfl, -1, rfl, rfl, rfl⟩) fun vs s4 ⟨o, H4, I4, ps, eo, e4⟩ => ?_
  subst eo e4
  cases pl
  cases pu
  cases ps with
  | int i t =>
    have I5 : Inv X pins σ H4 { s4 with heap := s4.heap.push { cls := .type "slice", data := .fields #[.none, .none, .int (-1) t] } } := I4.kept (t' := s4.toks) fun b ob q => Heap.get?_push_of_some _ q
    exact h s4 t I5
theorem pe_revS {X : Cx} {e : Expr} {te : TE} {k : Nat} {p1 p2 p3 pos : Pos} (he : PE X e te) : PE X (.Subscript e (.Slice none none (some (.UnaryOp .USub (.Constant (.int 1) k p1) p2)) p3) pos) (tRevS te) := by
  refine ⟨fun pins s σ H Q I h => ?_⟩
  refine Subscript_ (thn (he.run pins s σ H _ I h) fun v s1 ⟨x, H1, I1, r1, q1⟩ => ?_)
  obtain ⟨z, ex, hz, q⟩ := q1
  subst ex
  obtain ⟨t, rfl⟩ := r1
  refine rev_parts I1 fun s4 tk I5 => ?_
  refine tail_any (ops := [.str z t, .ref s4.heap.objs.size]) (typeIs_str _ _ _) F.slot_str_getitem.lookup ?_ (by with_unfolding_all rfl)
  refine wpAny_getItem_str_slice (l := none) (u := none) (st := some (-1, tk)) ⟨_, Heap.get?_push_size _ rfl, rfl, rfl⟩ rfl ?_
  have hr : (slicePicked z none none (some (-1, tk))).filterMap (z.cps[·]?) = z.cps.toList.reverse := revPicked z
  have hl : (revS z).length ≤ sizeLine := by
    show z.cps.toList.reverse.toArray.size ≤ sizeLine
    rw [List.size_toArray, List.length_reverse, Array.length_toList]
    exact hz
  unfold sliceMade
  rw [if_neg (by simp), hr]
  exact ⟨hl, .str (revS z), H1, I5.tok _, ⟨_, rfl⟩, q⟩
/-- of a tuple: a new one -/
def tRevT (K : PySem.W.Frag) (te : TE) : TE := fun σ H Q => te σ H fun x H1 => ∃ a xs, x = .ref a ∧ SqT K H1 a xs ∧ ∀ p, H1 p = none → Q (.ref p) (upd H1 p (.tup xs.reverse))
theorem revPlaces (n : Nat) : Builtin.Slice.sliceAdjust none none (-1) (n : Int) = ((n : Int) - 1, -1) ∧ Builtin.Slice.slicePlaces ((n : Int) - 1) (-1) (-1) = n := by
  constructor
  · rfl
  · unfold Builtin.Slice.slicePlaces
    rw [if_neg (by decide)]
    by_cases h : (n : Int) - 1 > -1
    · rw [if_pos h]
      have e : ((n : Int) - 1 - -1 - 1) / (- -1) + 1 = (n : Int) := by
        rw [show (- -1 : Int) = 1 by decide, Int.ediv_one]
        omega
      rw [e]
      omega
    · rw [if_neg h]
      omega
theorem revPick {α : Type} (xs : Array α) : (List.range xs.size).filterMap (fun (m : Nat) => xs[(((xs.size : Int) - 1) + (m : Int) * (-1)).toNat]?) = xs.toList.reverse := by
  have e : (List.range xs.size).filterMap (fun (m : Nat) => xs[(((xs.size : Int) - 1) + (m : Int) * (-1)).toNat]?) = ((List.range xs.size).map fun k => xs.size - 1 - k).filterMap (xs[·]?) := by
    rw [List.filterMap_map]
    have key : ∀ l : List Nat, (∀ m ∈ l, m < xs.size) → l.filterMap (fun (m : Nat) => xs[(((xs.size : Int) - 1) + (m : Int) * (-1)).toNat]?) = l.filterMap ((xs[·]?) ∘ fun k => xs.size - 1 - k) := by
      intro l
      induction l with
      | nil => intro _; rfl
      | cons m r ih =>
        intro hl
        have hm := hl m List.mem_cons_self
        have e2 : (((xs.size : Int) - 1) + (m : Int) * (-1)).toNat = xs.size - 1 - m := by omega
        rw [List.filterMap_cons, List.filterMap_cons, ih fun k hk => hl k (List.mem_cons_of_mem _ hk)]
        show (match xs[(((xs.size : Int) - 1) + (m : Int) * (-1)).toNat]? with | none => _ | some b => _) = (match xs[xs.size - 1 - m]? with | none => _ | some b => _)
        rw [e2]
    exact key _ fun m hm => List.mem_range.mp hm
  rw [e, PySem.W.krv_range, List.filterMap_reverse, PySem.W.krv_all]
theorem getItem_tuple_rev {prog : Program} {w : World} {A : Around} {E : Value → Shared → Prop} {s : Shared} {t sl : Addr} {items : Array Value} {tk : Tok} {Q : Value → Shared → Prop} (ht : IsTup s.heap t items) (hs : s.heap.IsSliceOf sl .none .none (.int (-1) tk))
    (h : Q (.ref s.heap.objs.size) { s with heap := s.heap.push { cls := .type "tuple", data := .seq items.toList.reverse.toArray } }) (hsz : items.size ≤ sizeLine) : wpAny (model prog w) A (getItem (.ref t) (.ref sl)) Q E s := by
  have hok : sizeOk (.seq items.toList.reverse.toArray) := by
    show items.toList.reverse.toArray.size ≤ sizeLine
    rw [List.size_toArray, List.length_reverse, Array.length_toList]
    exact hsz
  obtain ⟨os, hos, hcs, hds⟩ := id hs
  have hTs : s.TypeIs (.ref sl) "slice" := ⟨os, hos, hcs⟩
  obtain ⟨ra, rp⟩ := revPlaces items.size
  unfold getItem
  try with_reducible refine wpAny_holding ?_
  first | refine wpAny_bind (wpAny_pure ?_) | skip
  refine wpAny_bind (wpAny_sequenceKey ht.typeIs (by decide) ?_)
  refine wpAny_bind (wpAny_callSpecial?_slot (name := Str.ofString "__getitem__") ht.typeIs PyProof.Rows.slot_tuple_getitem
    (wpAny_call_entry PyProof.Rows.slot_tuple_getitem ht.typeIs PyProof.Rows.entry_tuple_getitem ?_ (PyProof.Rows.args_tuple_getitem _ _)))
  show wpAny _ _ (Builtin.Tuple.tupleItemsOf (.ref t) >>= _) _ _ s
  refine wpAny_bind (tupleItemsOf_ ht ?_)
  refine wpAny_bind (wpAny_typeOf hTs ?_)
  rw [if_pos (by decide)]
  refine wpAny_bind ?_
  unfold Builtin.Slice.sliceApplied Builtin.Slice.sliceFields
  refine wpAny_bind (wpAny_bind (wpAny_field hos hds (x := .none) rfl (wpAny_bind (wpAny_field hos hds (x := .none) rfl (wpAny_bind (wpAny_field hos hds (x := .int (-1) tk) rfl (wpAny_pure ?_)))))))
  refine wpAny_bind (slicePart_int ?_)
  show wpAny _ _ (if ((-1 : Int) == 0) = true then _ else _) _ _ s
  rw [if_neg (by decide)]
  refine wpAny_bind (slicePart_none (wpAny_bind (slicePart_none (wpAny_bind (wpAny_pure ?_)))))
  show wpAny _ _ (match Builtin.Slice.sliceAdjust none none (-1) (items.size : Int) with | (lo, hi) => pure (lo, (-1 : Int), Builtin.Slice.slicePlaces lo hi (-1))) _ _ s
  rw [ra]
  show wpAny _ _ (pure (((items.size : Int) - 1), (-1 : Int), Builtin.Slice.slicePlaces ((items.size : Int) - 1) (-1) (-1))) _ _ s
  rw [rp]
  refine wpAny_pure ?_
  show wpAny _ _ (if ((((items.size : Int) - 1) == 0 && (-1 : Int) == 1 && items.size == items.size) = true) then _ else _) _ _ s
  rw [if_neg (by simp), revPick]
  first
    | exact wpAny_bind (m := Builtin.Tuple.tupleExact _) (wpAny_newObj_type (wpAny_pure ⟨_, rfl, wpAny_pure h⟩) hok)
    | exact wpAny_bind (m := Builtin.Tuple.tupleExact _) (wpAny_newObj_type (wpAny_bind (wpAny_pure (wpAny_pure ⟨_, rfl, wpAny_pure h⟩))) hok)
    | exact wpAny_bind (wpAny_bind (m := Builtin.Tuple.tupleExact _) (wpAny_newObj_type (wpAny_pure (wpAny_pure ⟨_, rfl, wpAny_pure h⟩)) hok))
    | exact wpAny_bind (wpAny_bind (m := Builtin.Tuple.tupleExact _) (wpAny_newObj_type (wpAny_pure ⟨_, rfl, wpAny_pure h⟩) hok))
theorem pe_revT {X : Cx} {e : Expr} {te : TE} {k : Nat} {p1 p2 p3 pos : Pos} (he : PE X e te) : PE X (.Subscript e (.Slice none none (some (.UnaryOp .USub (.Constant (.int 1) k p1) p2)) p3) pos) (tRevT X.K te) := by
  refine ⟨fun pins s σ H Q I h => ?_⟩
  refine Subscript_ (thn (he.run pins s σ H _ I h) fun v s1 ⟨x, H1, I1, r1, q1⟩ => ?_)
  obtain ⟨a, xs, ex, hx, q⟩ := q1
  subst ex
  cases r1
  refine rev_parts I1 fun s4 tk I5 => ?_
  obtain ⟨its, r, ht, hz⟩ := I5.tuple hx
  have hlen := r.length
  refine tail_any (ops := [.ref a, .ref s4.heap.objs.size]) ht.typeIs PyProof.Rows.slot_tuple_getitem.lookup ?_ (by with_unfolding_all rfl)
  refine getItem_tuple_rev ht (Heap.IsSliceOf.new _ .none .none (.int (-1) tk)) ?_ (by rw [List.size_toArray]; omega)
  refine ⟨.ref _, _, I5.laid (t' := s4.toks) (o := .tup xs.reverse) (fun b ob q => Heap.get?_push_of_some _ q) (Nat.le_refl _) ?_, rfl, q _ (I5.hok.fresh (Nat.le_refl _))⟩
  exact ⟨by rw [List.length_reverse]; exact hz, _, r.reverse, ⟨_, Heap.get?_push_size _ rfl, rfl, 0, rfl⟩⟩

/-! ### len(o), o an instance with an own __len__ -/
theorem call_len_own {X : Cx} {CX : CXT} {k : Nat} {C f : Addr} {sp : Sp} {E : XK} (m : Meth X.K C "__len__" f) (F : FnR X.prog X.w X.K X.mg X.base CX k f sp) (hr : Room (k + 1) X.A) (hx : Passes CX X E) :
    CallR X (.builtin "len") (fun xs H Q => ∃ a dx fs, xs = [.ref a] ∧ H a = some (.ins C dx fs) ∧ sp [.ref a] H (fun v H' => ∃ n : Int, v = .int n ∧ 0 ≤ n ∧ n < 2 ^ 63 ∧ Q (.int n) H') E) := by
  intro pins s σ H xs us Q I r h
  obtain ⟨a, dx, fs, rfl, ha, hs⟩ := h
  obtain ⟨u, rfl, ru⟩ := vals1 r
  obtain rfl : u = Value.ref a := ru
  obtain ⟨mA, O, _⟩ := ins_get I.hok ha
  obtain ⟨od, J, _⟩ := O.look
  obtain ⟨mL, hF⟩ := I.fr
  refine PySem.W.len_K hF I.ok.mod.kin J m.at_ m.fn ?_
  have e0 : Env0 X.prog X.w X.K X.mg X.base X.A.in1 X.stack s H := I.env0.in1
  refine wpAny_call (codeAny_mono (F X.A.in1 X.stack s H [.ref a] [.ref a] _ E hr.in1 e0 (.cons rfl .nil) hs) fun r s' hq => ?_)
  cases r with
  | error e => exact hx pins σ H s e s' I hq
  | ok fl =>
    cases fl with
    | ret w =>
      obtain ⟨z, H', I', rz, n, ez, h0, h1, q⟩ := I.after hq
      subst ez
      obtain ⟨t, rfl⟩ := rz
      exact ⟨⟨h0, h1⟩, .int n, H', I'.tok _, ⟨_, rfl⟩, q⟩
    | next => exact False.elim hq
    | brk => exact False.elim hq
    | cont => exact False.elim hq
end PN

/-! Own rules: a != b by an own __eq__; C(a, *y, k = v); C.m(.., k = v); len(set(texts)). -/
namespace PN
set_option maxRecDepth 100000
set_option maxHeartbeats 4000000
open PySem PySem.Spec PyProof.Rows L2

/-! ### a != b -/
section
variable {prog : Program} {w : World} {A : Around} {E : Value → Shared → Prop} {s : Shared} {K : PySem.W.Frag} {x y C f : Addr} {ox oy : Obj} {od ody : Option Obj}
theorem objNe_K (X : K.In s.heap) (I : PySem.W.InstAt s.heap x ox C od) (o : OwnEq K C f) (hu : A.units < cLine) {Q : Fin → Shared → Prop}
    (h : wpAny (model prog w) A (call (.ref f) [.ref x, .ref y]) (fun v s' => ∃ b, v = .bool b ∧ Q (.done (.ret (.bool (!b)))) s') E s) :
    wpAny (model prog w) A (Builtin.«object.__ne__» ⟨[.ref x, .ref y], []⟩) Q E s := by
  obtain ⟨hp, g, d, t, os⟩ := s
  unfold Builtin.«object.__ne__»
  repeat (first
    | with_reducible refine wpAny_cRoomFor hu ?_
    | (refine wpAny_bind (m := callSpecialIfBound? (.ref x) (Str.ofString "__eq__") [.ref y])
        (PySem.W.ifBound_K X I o.eq o.fn (wpAny_mono h (fun r s' hr => by
          obtain ⟨b, rfl, hq⟩ := hr
          repeat (first | exact hq | exact wpAny_pure hq | exact wpAny_truthy_bool hq | (refine wpAny_bind (m := truthy (.bool _)) (wpAny_truthy_bool ?_)) | wp_step)) fun _ _ e => e)))
    | wp_step)
theorem ne_K (X : K.In s.heap) (I : PySem.W.InstAt s.heap x ox C od) (J : PySem.W.InstAt s.heap y oy C ody) (o : OwnEq K C f) (hu : A.units + 1 < cLine) {Q : Value → Shared → Prop}
    (h : wpAny (model prog w) A.in1 (call (.ref f) [.ref x, .ref y]) (fun v s' => ∃ b, v = .bool b ∧ Q (.bool (!b)) s') E s) :
    wpAny (model prog w) A (richCompare .NotEq (.ref x) (.ref y)) Q E s := by
  have sub : PySem.W.Looks (model prog w) s.heap (isInstance (.ref x) (.type "object")) true := I.type.andThen (PySem.W.looks_mroIn X o.top)
  have one : wpAny (model prog w) A (tryCompare (.ref x) "__ne__" (.ref y)) (fun r s' => ∃ v, r = some v ∧ Q v s') E s := by
    unfold tryCompare callSpecialIfBound? bindSpecialIfBound?
    have fin : wpAny (model prog w) A (call (.builtin "object.__ne__") ([.ref x] ++ [.ref y])) (fun v s' => ∃ b, v = .bool b ∧ Q v s') E s := by
      refine wpAny_call (codeAny_call_builtin PySem.F.cmp_object.ne.plain PySem.F.cmpEntry_ne (PySem.W.check_slot PySem.F.cmpKind_ne PySem.F.cmpSplit_ne sub (PySem.F.cmpArgs_ne _ _) ?_))
      refine objNe_K (A := A.in1) X I o hu (wpAny_mono h (fun v s' hv => ?_) fun _ _ e => e)
      obtain ⟨b, rfl, hq⟩ := hv
      exact ⟨b, rfl, _, rfl, hq⟩
    refine wpAny_bind (wpAny_holding (wpAny_bind (wpAny_bind (wpAny_bind (I.type.here ((PySem.W.looks_findIn X o.ne).here ?_))))))
    refine wpAny_bind (wpAny_askSetting (wpAny_ite ?_))
    have fin2 : wpAny (model prog w) A (call (.builtin "object.__ne__") ([.ref x] ++ [.ref y]) >>= fun v => pure (some v)) (fun r s' => wpAny (model prog w) A (match r with | some .notImplemented => pure none | none => pure none | some v => pure (some v)) (fun r s' => ∃ v, r = some v ∧ Q v s') E s') E s :=
      wpAny_bind (wpAny_mono fin (fun v s' hv => by
        obtain ⟨b, rfl, hq⟩ := hv
        exact wpAny_pure (wpAny_pure ⟨_, rfl, hq⟩)) fun _ _ e => e)
    split
    · exact wpAny_bind (by rw [PySem.F.cmp_object.ne.bind]; exact wpAny_pure (wpAny_pure fin2))
    · exact wpAny_tryCatch (wpAny_bind (by rw [PySem.F.cmp_object.ne.bind]; exact wpAny_pure (wpAny_pure fin2)))
  unfold richCompare
  simp only [oneThing_ref]
  refine wpAny_holding (wpAny_bind (wpAny_cRoomFor (Nat.lt_of_succ_lt hu) ?_))
  rw [cmpInfo_NotEq]
  dsimp only
  refine wpAny_bind (I.type.here (wpAny_bind (J.type.here ?_)))
  rw [show (Value.ref C != Value.ref C) = false from by simp]
  simp only [Bool.false_eq_true, if_false]
  refine wpAny_bind (wpAny_pure ?_)
  simp only [Bool.false_eq_true, if_false]
  refine wpAny_bind (wpAny_mono one (fun v s' hv => ?_) fun _ _ e => e)
  obtain ⟨v, rfl, hq⟩ := hv
  exact wpAny_pure hq
end
/-- a != b, a and b instances of C: the own == decides -/
def rNeOwn (C : Addr) (sp : Sp) (E : XK) : R2 := fun x y H Q => ∃ a b dx fs dy gs, x = .ref a ∧ y = .ref b ∧ H a = some (.ins C dx fs) ∧ H b = some (.ins C dy gs) ∧ sp [.ref a, .ref b] H (fun v H' => ∃ c : Bool, v = .bl c ∧ Q (.bl (!c)) H') E
theorem op_neOwn {X : Cx} {CX : CXT} {k : Nat} {C f : Addr} {sp : Sp} {E : XK} (o : OwnEq X.K C f) (F : FnR X.prog X.w X.K X.mg X.base CX k f sp) (hr : Room (k + 1) X.A) (hx : Passes CX X E) : OpR X (compareOp .NotEq) (rNeOwn C sp E) := by
  intro pins s σ H x y v u Q I rx ry h
  obtain ⟨a, b, dx, fs, dy, gs, rfl, rfl, ha, hb, hs⟩ := h
  obtain rfl : v = Value.ref a := rx
  obtain rfl : u = Value.ref b := ry
  obtain ⟨mA, O, _⟩ := ins_get I.hok ha
  obtain ⟨od, J, _⟩ := O.look
  obtain ⟨mB, O2, _⟩ := ins_get I.hok hb
  obtain ⟨od2, J2, _⟩ := O2.look
  show wpAny (model X.prog X.w) X.A (richCompare .NotEq (.ref a) (.ref b)) (EP X pins σ Q) X.xe s
  refine ne_K I.kIn J J2 o (hu_of hr) ?_
  refine wpAny_call (codeAny_mono (F X.A.in1 X.stack s H [.ref a, .ref b] [.ref a, .ref b] _ E hr.in1 I.env0.in1 (.cons rfl (.cons rfl .nil)) hs) fun r s' hq => ?_)
  cases r with
  | error e => exact hx pins σ H s e s' I hq
  | ok fl =>
    cases fl with
    | ret w =>
      obtain ⟨z, H', I', rz, c, ez, q⟩ := I.after hq
      subst ez
      cases rz
      exact ⟨c, rfl, .bl (!c), H', I', rfl, q⟩
    | next => exact False.elim hq
    | brk => exact False.elim hq
    | cont => exact False.elim hq

/-! ### a promise by positional values and keywords' values -/
abbrev SpK := List V → List V → Hp → VK → XK → Prop
def FnK (P : Program) (w : World) (K : PySem.W.Frag) (mg : Str → Option Value) (base : Heap) (CX : CXT) (k : Nat) (f : Addr) (ks : List Str) (sp : SpK) : Prop :=
  ∀ (A : Around) (outer : List Env) (s : Shared) (H : Hp) (us ws : List Value) (vs zs : List V) (Q : VK) (E : XK), Room k A → Env0 P w K mg base A outer s H → Vals vs us → Vals zs ws → zs.length = ks.length → sp vs zs H Q E →
    codeAny (model P w) A (.call (.ref f) ⟨us, ks.zip ws⟩) (CR CX outer P w H s Q E) s
section
variable {M : Model} {A : Around} {E : Value → Shared → Prop} {s : Shared} {K : PySem.W.Frag} {env : Env} {pos : Pos} {f : Value} {first : List Value} {Q : Value → Shared → Prop} {e : Expr} {rest : List Expr} {kws : List Keyword}
/-- the call's node: arguments with a star, keywords -/
theorem callWith_SK (hk : PySem.W.keepIn K f = true) (hall : (backToKw pos (keywordEach kws env)).all (·.1.isSome) = true)
    (h : wpAny M A (spliced (backTo pos (starEach (e :: rest) env))) (fun vs s₁ => wpAny M A (evalAll ((backToKw pos (keywordEach kws env)).map (·.2)))
      (fun ks s₂ => K.In s₂.heap ∧ wpAny M A (call f (first ++ vs) (((backToKw pos (keywordEach kws env)).filterMap (·.1)).zip ks)) Q E s₂) E s₁) E s)
    (he : starEach (e :: rest) env = (false, eval e env) :: starEach rest env) (hst : (backTo pos (starEach (e :: rest) env)).any (·.1) = true) :
    wpAny M A (callWith pos f first (backTo pos (starEach (e :: rest) env)) (backToKw pos (keywordEach kws env))) Q E s := by
  unfold callWith
  refine wpAny_bind (wpAny_holding (wpAny_mono (PyProof.Rows.evalArgs_kw2 (Q := fun a s₁ => K.In s₁.heap ∧ wpAny M A (call f (first ++ a.pos) a.kw) Q E s₁) hall h he) (fun a s₁ h₁ => wpAny_bind (wpAny_standAt ?_)) fun _ _ x => x))
  obtain ⟨k, hk', L⟩ := PySem.W.keeps_K hk _ h₁.1
  simp only [hst, Bool.true_or]
  refine wpAny_bind (L.here ?_)
  have tail : ∀ {t : Sem Value}, wpAny M A t Q E s₁ → wpAny M A (t >>= fun r => holding [r] point >>= fun _ => pure r) Q E s₁ :=
    fun ht => wpAny_bind (wpAny_mono ht (fun r s₂ hr => wpAny_bind (wpAny_holding (wpAny_point (wpAny_pure hr)))) fun _ _ x => x)
  have marked (mk : Value) : wpAny M A (callMarked mk f (first ++ a.pos) a.kw) Q E s₁ := by unfold callMarked; exact Calls.wpAny_keep h₁.2
  rcases hk' with rfl | rfl | rfl <;> dsimp only <;> first | exact tail (marked _) | exact tail (wpAny_operating h₁.2)
end
/-- C(e, .., *y, .., k = v, ..) -/
def tMakeSK (C : Addr) (sp : SpK) (E : XK) (t tk : TA) : TE := fun σ H Q => t σ H fun vs H1 => tk σ H1 fun zs H2 => ∀ x dx, H2 x = none → H2 dx = none → dx ≠ x →
  sp (.ref x :: vs) zs (upd (upd H2 dx (.own x)) x (.ins C dx [])) (fun v H3 => v = .non ∧ Q (.ref x) H3) E
section
variable {X : Cx} {CX : CXT} {k : Nat} {f C : Addr} {ks : List Str} {sp : SpK} {E : XK} {x : Str} {p pos : Pos} {e : Expr} {es : List Expr} {kws : List Keyword} {t tk : TA}
theorem run_makeSK {pins : List (Addr × Obj)} {σ : L2.St} {H : Hp} {s : Shared} {Q : VK} {us ws : List Value} {vs zs : List V} (M : Mk X.K C f) (F : FnK X.prog X.w X.K X.mg X.base CX k f ks sp) (hr : Room (k + 1) X.A)
    (hx : Passes CX X E) (I : Inv X pins σ H s) (r : Vals vs us) (rz : Vals zs ws) (l2 : zs.length = ks.length)
    (h : ∀ x dx, H x = none → H dx = none → dx ≠ x → sp (.ref x :: vs) zs (upd (upd H dx (.own x)) x (.ins C dx [])) (fun v H2 => v = .non ∧ Q (.ref x) H2) E) :
    wpAny (model X.prog X.w) X.A (call (.ref C) us (ks.zip ws)) (EP X pins σ Q) X.xe s := by
  have hq := h (s.heap.objs.size + 1) s.heap.objs.size (I.hok.fresh (Nat.le_succ _)) (I.hok.fresh (Nat.le_refl _)) (Nat.ne_of_lt (Nat.lt_succ_self _))
  have I2 := Inv.made (C := C) I
  have r1 : Vals (V.ref (s.heap.objs.size + 1) :: vs) (Value.ref (s.heap.objs.size + 1) :: us) := .cons rfl r
  refine wpAny_call (make_map (f := f) I.kIn M.makes M.init (beq_iff_eq.mp M.fn) (codeAny_mono (F _ X.stack _ _ (Value.ref (s.heap.objs.size + 1) :: us) ws _ zs _ E (hr.make C us (ks.zip ws))
    (I2.env0.make C us (ks.zip ws)) r1 rz l2 hq) fun r s' hq' => ?_))
  cases r with
  | error e => exact hx pins σ _ _ e s' I2 hq'
  | ok fl =>
    cases fl with
    | ret u =>
      obtain ⟨v, H', I3, rv, ev, q3⟩ := I2.after hq'
      subst ev
      exact ⟨rv, ⟨V.ref (s.heap.objs.size + 1), H', I3, rfl, q3⟩⟩
    | next => exact False.elim hq'
    | brk => exact False.elim hq'
    | cont => exact False.elim hq'
theorem pe_makeSK (M : Mk X.K C f) (F : FnK X.prog X.w X.K X.mg X.base CX k f ks sp) (hr : Room (k + 1) X.A) (hg : Gl X x) (hm : X.mg x = some (.ref C)) (hx : Passes CX X E)
    (ha : PA X (e :: es) t) (hkw : PK X kws tk) (hall : (backToKw pos (keywordEach kws X.env)).all (·.1.isSome) = true := by rfl) (hks : (backToKw pos (keywordEach kws X.env)).filterMap (·.1) = ks := by rfl)
    (hdb : (x == ("__debug__" : Str)) = false := by decide) (he : starEach (e :: es) X.env = (false, eval e X.env) :: starEach es X.env := by rfl)
    (hst : (backTo pos (starEach (e :: es) X.env)).any (·.1) = true := by rfl) :
    PE X (.Call (.Name x p) (e :: es) kws pos) (tMakeSK C sp E t (fun σ H Q => tk σ H fun zs H1 => zs.length = ks.length ∧ Q zs H1)) := by
  refine ⟨fun pins s σ H Q I h => ?_⟩
  refine wpAny_Call_Name_kw (ld_glob I hg hm ?_ hdb)
  refine callWith_SK (first := []) M.kp hall (thn (ha.run pos pins s σ H _ I h) fun us s1 ⟨vs, H1, I1, r, q⟩ => ?_) he hst
  refine thn (hkw.run pos pins s1 σ H1 _ I1 q) fun ws s2 ⟨zs, H2, I2, rz, l2, q2⟩ => ⟨I2.kIn, ?_⟩
  rw [hks]
  exact run_makeSK M F hr hx I2 r rz l2 q2
end
/-- C.m(e, .., k = v, ..), m a classmethod -/
def tCMethK (C : Addr) (sp : SpK) (E : XK) (ta : TE) (t tk : TA) (n : Nat) : TE := fun σ H Q => ta σ H fun x H1 => x = .ref C ∧ t σ H1 fun vs H2 => tk σ H2 fun zs H3 => zs.length = n ∧ sp (.ref C :: vs) zs H3 Q E
section
variable {X : Cx} {CX : CXT} {k : Nat} {C p g : Addr} {mc : Value} {ks : List Str} {sp : SpK} {E : XK} {o e : Expr} {es : List Expr} {kws : List Keyword} {m : Str} {pos apos : Pos} {ta : TE} {t tk : TA} {pl : Sem Bool}
theorem pe_cmethK (he : PE X o ta) (r : ClX.CRead X.K C mc) (c : ClX.CMet X.K C mc m p g) (F : FnK X.prog X.w X.K X.mg X.base CX k g ks sp) (hr : Room k X.A) (hx : Passes CX X E) (ha : PA X (e :: es) t) (hkw : PK X kws tk)
    (hall : (backToKw pos (keywordEach kws X.env)).all (·.1.isSome) = true := by rfl) (hks : (backToKw pos (keywordEach kws X.env)).filterMap (·.1) = ks := by rfl)
    (hst : starEach (e :: es) X.env = (false, eval e X.env) :: starEach es X.env := by rfl)
    (hpl : ((backTo pos (starEach (e :: es) X.env)).any (·.1) || (backToKw pos (keywordEach kws X.env)).any (·.1.isNone)) = false := by rfl)
    (ht : eval (.Call (.Attribute o m apos) (e :: es) kws pos) X.env = (do
      let ov ← eval o X.env
      standAt apos.atName
      let (f, first) ← holding [ov] (getMethod ov m pl)
      callWith pos f first (backTo pos (starEach (e :: es) X.env)) (backToKw pos (keywordEach kws X.env))) := by rfl) :
    PE X (.Call (.Attribute o m apos) (e :: es) kws pos) (tCMethK C sp E ta t tk ks.length) := by
  refine ⟨fun pins s σ H Q I h => ?_⟩
  refine PySem.W.methodCall_KW (pl := pl) (thn (he.run pins s σ H _ I h) fun u s1 ⟨x, H1, I1, rx, ex, q⟩ => ?_) ht
  subst ex
  obtain rfl : u = Value.ref C := rx
  refine ClX.getmethcm_ok I1 r c fun s2 I2 => ?_
  refine PySem.W.callWith_of (P := fun h => PySem.W.MethP X.K s1.heap.objs.size g (.ref C) h) hpl (fun h z => PySem.W.keeps_M c.fi h z) (PyProof.Rows.evalArgs_kw2 hall
    (thn (ha.run pos _ s2 σ H1 _ I2 q) fun us s3 ⟨vs, H2, I3, rv, q2⟩ => thn (hkw.run pos _ s3 σ H2 _ I3 q2) fun ws s4 ⟨zs, H3, I4, rz, l2, q3⟩ => ⟨⟨ClX.pin_at I4, I4.kIn⟩, ?_⟩) hst)
  rw [hks]
  have z : wpAny (model X.prog X.w) X.A (call (.ref s1.heap.objs.size) ([] ++ us) (ks.zip ws)) (EP X ((s1.heap.objs.size, PySem.W.methodObj (.ref g) (.ref C)) :: pins) σ Q) X.xe s4 := by
    refine wpAny_call (PySem.W.method_call (ClX.pin_at I4) (codeAny_mono (F X.A X.stack s4 H3 (.ref C :: us) ws (.ref C :: vs) zs Q E hr I4.env0 (.cons rfl rv) rz l2 q3) fun r s' hq => ?_))
    cases r with
    | error e => exact hx _ σ H3 s4 e s' I4 hq
    | ok fl =>
      cases fl with
      | ret u => exact I4.after hq
      | next => exact False.elim hq
      | brk => exact False.elim hq
      | cont => exact False.elim hq
  exact thn z fun _ _ y => ClX.unpinE y
end
end PN

/-! len(set(xs)), xs a list of unlike texts. -/
namespace PN
set_option maxRecDepth 100000
set_option maxHeartbeats 8000000
open PySem PySem.Spec PyProof.Rows L2

local macro_rules | `(tactic| fail "wq") => `(tactic| first
  | with_reducible (first | refine wpAny_bind ?_ | refine wpAny_pure ?_ | refine wpAny_holding ?_ | refine wpAny_standAt ?_ | refine wpAny_point ?_ | refine wpAny_rule ?_ | refine wpAny_letGo ?_ | refine wpAny_attempt ?_ | refine wpAny_of_eq (by assumption) ?_ | refine wpAny_typeOf (by assumption) ?_ | refine wpAny_specialOf_val (by assumption) (by assumption) ?_ | refine wpAny_specialOf (by assumption) (by assumption) ?_ | refine wpAny_isInstance_val (by assumption) (by assumption) ?_ | refine wpAny_isInstance (by assumption) (by assumption) ?_ | refine wpAny_call ?_ | refine wpAny_runValue ?_ | refine wpAny_run ?_)
  | (with_reducible apply wpAny_ite_false; focus (first | rfl | simp [*]; done)) | (with_reducible apply wpAny_ite_true; focus (first | rfl | simp [*]; done))
  | (with_reducible apply wpAny_load'; focus (heap_get; done)) | (with_reducible apply wpAny_loadPart'; focus (heap_get; done))
  | wp_delta | wp_step)
theorem any_snoc (xs : List Str) (i : Nat) (x k : Str) (h : xs[i]? = some x) : ((xs.take i).any (· == k) || decide (k = x)) = (xs.take (i + 1)).any (· == k) := by
  rw [List.take_add_one, h, List.any_append]
  congr 1
  by_cases e : k = x
  · subst e
    simp
  · have hb : (x == k) = false := beq_eq_false_iff_ne.mpr fun q => e q.symm
    simp [e, hb]
theorem new_one {xs : List Str} (hd : xs.Nodup) {i : Nat} {x : Str} (h : xs[i]? = some x) : (xs.take i).any (· == x) = false := by
  cases hb : (xs.take i).any (· == x) with
  | false => rfl
  | true =>
    obtain ⟨y, hy, ey⟩ := List.any_eq_true.mp hb
    have ey2 : y = x := eq_of_beq ey
    rw [ey2] at hy
    obtain ⟨j, hj⟩ := List.mem_iff_getElem?.mp hy
    rw [List.getElem?_take] at hj
    by_cases hji : j < i
    · rw [if_pos hji] at hj
      have := nodup_ix hd hj h
      omega
    · rw [if_neg hji] at hj
      cases hj
section
variable {prog : Program} {w : World} {A : Around} {R : Result → Shared → Prop} {I : Addr} {fp wr : List Addr} {G : Array GenState → Array GenState → Prop} {n : Nat} {P : Nat → Value → Prop} {St : Nat → Shared → Prop}
/-- the loop that fills a set: n unlike texts -/
theorem fillStrs (W : WalksS prog w A.in1 I fp wr G n P St) (S : Addr) (hSf : S ∉ fp) (xs : List Str) (hsz : xs.length = n) (hd : xs.Nodup) (hb : n + 1 < scanBound)
    (hval : ∀ i v, P i v → ∃ t, v = .str (xs.getD i Str.empty) t) :
    ∀ (k i : Nat) (s : Shared), n - i = k → i ≤ n → St i s →
      s.heap.SetOf (PySem.strKind prog w) S (fun k' => (xs.take i).any (· == k')) i →
      (∀ s', Moved (S :: wr) G s s' → s'.heap.SetOf (PySem.strKind prog w) S (fun k' => (xs.take n).any (· == k')) n → R (.ok (.ret .none)) s') →
      codeAny (model prog w) A (.builtin "set.update.loop" ⟨[.ref S, .ref I], []⟩) R s := by
  have hSw : S ∉ wr := fun h => hSf (W.sub _ h)
  have hsub : ∀ b ∈ wr, b ∈ S :: wr := fun b hb => List.mem_cons_of_mem _ hb
  intro k
  induction k with
  | zero =>
    intro i s hk hi hst hS hR
    obtain rfl : i = n := by omega
    refine codeAny_builtin PyProof.Rows.F.entry_set_update_loop ?_
    rw [Around.under_plainId PyProof.Rows.F.plain_set_update_loop _]
    show wpAny _ A.in1 (pyNext (.ref I) >>= _) _ _ s
    refine wpAny_bind (W.done s _ _ hst fun s' hm => ?_)
    exact wpAny_pure (hR s' (hm.mono hsub) (by
      obtain ⟨o, es, ep, t, ho, more⟩ := hS
      exact ⟨o, es, ep, t, hm.heap S _ hSw ho, more⟩))
  | succ k ih =>
    intro i s hk hi hst hS hR
    have hlt : i < n := by omega
    refine codeAny_builtin PyProof.Rows.F.entry_set_update_loop ?_
    rw [Around.under_plainId PyProof.Rows.F.plain_set_update_loop _]
    show wpAny _ A.in1 (pyNext (.ref I) >>= _) _ _ s
    refine wpAny_bind (W.item i s _ _ hlt hst fun v s' hP hst' hm => ?_)
    obtain ⟨t, rfl⟩ := hval i v hP
    have hx : xs[i]? = some (xs.getD i Str.empty) := by
      rw [List.getD_eq_getElem?_getD, List.getElem?_eq_getElem (by omega)]
      rfl
    have hS' : s'.heap.SetOf (PySem.strKind prog w) S (fun k' => (xs.take i).any (· == k')) i := by
      obtain ⟨o, es, ep, tb, ho, more⟩ := hS
      exact ⟨o, es, ep, tb, hm.heap S _ hSw ho, more⟩
    show wpAny _ A.in1 (holding [Value.str (xs.getD i Str.empty) t] (setAdd S (.str (xs.getD i Str.empty) t)) >>= _) _ _ s'
    refine wpAny_bind (wpAny_holding ?_)
    unfold setAdd
    refine wpAny_holding ?_
    refine wpAny_bind ((PySem.strKind prog w).pyHash (k := xs.getD i Str.empty) (strKind_is _ _ _ _) ?_)
    refine wpAny_setAddHashed_of (knd := PySem.strKind prog w) (s := { s' with toks := s'.toks + 1 }) (strKind_is _ _ _ _) rfl hS' (by omega) fun h' hsb hS2 => ?_
    have hSi : h'.SetOf (PySem.strKind prog w) S (fun k' => (xs.take (i + 1)).any (· == k')) (i + 1) := by
      refine SetOf_congr hS2 (fun k' => ?_) ?_
      · exact any_snoc xs i _ k' hx
      · show (if (xs.take i).any (· == xs.getD i Str.empty) = true then i else i + 1) = i + 1
        rw [if_neg (by rw [new_one hd hx]; exact Bool.false_ne_true)]
    refine wpAny_pure ⟨plainId_quiet PyProof.Rows.F.plain_set_update_loop _, ih (i + 1) _ (by omega) hlt (W.frame _ s' _ _ hst' (Nat.le_succ _) fun b hb o e => ?_) hSi fun s'' hm'' hS'' => ?_⟩
    · rw [hsb.2 b (fun h : b = S => hSf (by rw [← h]; exact hb))]
      exact e
    · refine hR s'' (Moved.trans W.gtrans ((hm.mono hsub).then_heap (Nat.le_succ _) fun b o hb e => ?_) hm'') hS''
      rw [hsb.2 b (fun h : b = S => hb (by rw [h]; exact List.mem_cons_self))]
      exact e
end
abbrev freshSet (led : Bool) : Obj := { cls := .type "set", dict := none, data := .set #[] 0 (.fresh 0 0 led) }
section
variable {prog : Program} {w : World} {A : Around} {E : Value → Shared → Prop} {s : Shared}
theorem set_texts {l : Addr} {items : Array Value} {xs : List Str} {Q : Value → Shared → Prop}
    (hh : A.handled = none) (hl : s.heap.IsList l items) (hi : StrsAre items.toList xs) (hd : xs.Nodup) (hb : xs.length + 1 < scanBound)
    (h : ∀ (h' : Heap) (tk : Nat), h'.SetOf (PySem.strKind prog w) s.heap.objs.size (fun k' => (xs.take items.size).any (· == k')) items.size →
      (∀ b o, b < s.heap.objs.size → s.heap.get? b = some o → h'.get? b = some o) → Q (.ref s.heap.objs.size) { s with heap := h', toks := tk }) :
    wpAny (model prog w) A (call (.type "set") [.ref l]) Q E s := by
  have hsz : xs.length = items.size := by rw [← StrsAre.len_eq hi, Array.length_toList]
  obtain ⟨c, tl, hmro⟩ := PySem.F.called_set.mro
  have hmade := PySem.F.called_set.made
  have hsub := PySem.F.called_set.sub
  have h1 := PySem.F.called_set.notType
  have h2 := PySem.F.called_set.canCreate
  have hct := PySem.F.typeCall_set_1 (.ref l)
  refine wpAny_call (codeAny_of_tree ?_)
  show wpAny _ _ (callAny (.type "set") _) _ _ _
  refine wpAny_pure ⟨Code.quiet_builtin _ (by decide +kernel), codeAny_builtin PySem.F.entry_type_call ?_⟩
  rw [Around.under_plain (weight_type_call_type "set" [.ref l] []) rfl]
  repeat (any_goals (first | assumption | fail "wq"))
  refine codeAny_mono (code_set_new_1 (.ref l) (E := E) (Q₁ := fun obj s₁ => ∃ led : Bool, obj = .ref s.heap.objs.size ∧ s₁ = { s with heap := s.heap.push { cls := .type "set", dict := none, data := .set #[] 0 (.fresh 0 0 led) } }) fun led => ⟨led, rfl, rfl⟩) fun r s₁ hr => ?_
  cases r with
  | error e => exact hr
  | ok fl =>
    cases fl with
    | next => exact hr.elim
    | brk => exact hr.elim
    | cont => exact hr.elim
    | ret obj =>
      obtain ⟨led, rfl, rfl⟩ := hr
      have hS : (s.heap.push (freshSet led)).get? s.heap.objs.size = some (freshSet led) := Heap.get?_push_size _ rfl
      have hT : Shared.TypeIs { s with heap := s.heap.push (freshSet led) } (.ref s.heap.objs.size) "set" := ⟨_, hS, rfl⟩
      have hli := PySem.F.called_set.init.lookup
      have hbi := PySem.F.called_set.init.bind (.ref s.heap.objs.size)
      repeat (any_goals (first | assumption | fail "wq"))
      refine codeAny_mono (codeAny_call_builtin (R := wants (fun r s₂ => r = .none ∧ ∃ h' tk, s₂ = { s with heap := h', toks := tk } ∧
          h'.SetOf (PySem.strKind prog w) s.heap.objs.size (fun k' => (xs.take items.size).any (· == k')) items.size ∧
          (∀ b o, b < s.heap.objs.size → s.heap.get? b = some o → h'.get? b = some o)) E) PySem.F.called_set.init.plain PySem.F.entry_set_init (check_set_init_1 hT ?_)) fun r₂ s₂ hr₂ => ?_
      · obtain ⟨ol, hol, hcl, nl, hdl⟩ := hl
        obtain ⟨ocls, odict, odata, oslots⟩ := ol
        simp only at hcl hdl
        subst hcl
        subst hdl
        have hol' : (s.heap.push (freshSet led)).get? l = some { cls := .type "list", dict := odict, data := .seq items nl, slots := oslots } := Heap.get?_push_of_some _ hol
        have hl1 : (s.heap.push (freshSet led)).IsList l items := ⟨_, hol', rfl, nl, rfl⟩
        have hsls := PySem.F.sub_list_set
        have hslf := PySem.F.sub_list_frozenset
        have hne : (Value.type "list" == Value.type "dict") = false := by decide
        unfold Builtin.«set.__init__» noKeywords Builtin.Frozenset.updateFrom
        generalize hPI : pyIter = PI
        repeat fail "wq"
        subst hPI
        refine wpAny_pyIter_list hl1 ?_
        refine wpAny_bind (wpAny_runValue ?_)
        have hlS : l < s.heap.objs.size := Heap.lt_size hol
        have hneI : l ≠ (s.heap.push (freshSet led)).objs.size := by
          rw [Heap.size_push]
          exact Nat.ne_of_lt (Nat.lt_succ_of_lt hlS)
        have hSf : s.heap.objs.size ∉ [(s.heap.push (freshSet led)).objs.size, l] := by
          rw [Heap.size_push]
          simp only [List.mem_cons, List.mem_singleton, List.not_mem_nil, or_false, not_or]
          exact ⟨Nat.ne_of_lt (Nat.lt_succ_self _), Nat.ne_of_gt hlS⟩
        refine fillStrs ((Walks.list (show A.in1.in1.in1.handled = none by simp [hh]) _ l hneI items).toS) s.heap.objs.size hSf xs hsz hd (by rw [← hsz]; exact hb)
          (fun i v hv => SS.strs_at hi i v (by rw [Array.getElem?_toList]; exact hv)) (items.size - 0) 0 _ (by omega) (Nat.zero_le _) ⟨⟨_, Heap.get?_push_size _ rfl, rfl, rfl⟩, (hl1.push _)⟩ ?_ ?_
        · have hget : ((s.heap.push (freshSet led)).push { cls := .type "list_iterator", data := .fields #[.ref l, .int 0 0] }).get? s.heap.objs.size = some { cls := .type "set", dict := none, data := .set #[] 0 (.fresh 0 0 led) } := by
            exact Heap.get?_push_of_some _ hS
          exact SetOf_congr ((setObjOf_fresh (knd := PySem.strKind prog w) led).setOf hget (by unfold scanBound; omega)) (fun _ => rfl) rfl
        · intro s' hm hS'
          obtain ⟨h', g', d', tk', os'⟩ := s'
          obtain rfl : g' = s.gens := hm.gens
          obtain rfl : d' = s.drawn := hm.drawn
          obtain rfl : os' = s.os := hm.os
          refine wpAny_pure (wpAny_pure ⟨rfl, h', tk', rfl, hS', fun b o hb e => ?_⟩)
          have hb1 : b ≠ s.heap.objs.size := Nat.ne_of_lt hb
          have hb2 : b ≠ (s.heap.push (freshSet led)).objs.size := by
            rw [Heap.size_push]
            exact Nat.ne_of_lt (Nat.lt_succ_of_lt hb)
          exact hm.heap b o (by simp only [List.mem_cons, List.mem_singleton, List.not_mem_nil, or_false, not_or]; exact ⟨hb1, hb2⟩) (Heap.get?_push_of_some _ (Heap.get?_push_of_some _ e))
      · cases r₂ with
        | error e => exact hr₂
        | ok fl₂ =>
          cases fl₂ with
          | next => exact hr₂.elim
          | brk => exact hr₂.elim
          | cont => exact hr₂.elim
          | ret r =>
            obtain ⟨rfl, h', tk, rfl, hS', hk'⟩ := hr₂
            repeat (any_goals (first | assumption | fail "wq"))
            exact h _ _ hS' hk'
end
/-- len(set(xs)) -/
def tLenSetT (K : PySem.W.Frag) (ta : TE) : TE := fun σ H Q => ta σ H fun x H1 => ∃ (l : Addr) (xs : List Str), x = .ref l ∧ SqL K H1 l (xs.map V.str) ∧ xs.Nodup ∧ xs.length ≤ 4000 ∧ Q (.int (xs.length : Nat)) H1
theorem pe_lenSetT {X : Cx} {a : Expr} {ta : TE} {p p2 q pos : Pos} (hg : Gl X "len") (hm : X.mg "len" = none) (hg2 : Gl X "set") (hm2 : X.mg "set" = none) (ha : PE X a ta) (hc : X.calm = true := by rfl)
    (na : starEach [a] X.env = (false, eval a X.env) :: starEach [] X.env := by rfl) : PE X (.Call (.Name "len" p) [.Call (.Name "set" p2) [a] [] q] [] pos) (tLenSetT X.K ta) := by
  refine ⟨fun pins s σ H Q I h => ?_⟩
  refine Call_ (ld_blt I hg hm boot_len ?_)
  refine callWith_builtin1 (args_cons ?_ rfl) rfl rfl
  refine Call_ (ld_blt I hg2 hm2 boot_set ?_)
  refine PyProof.Rows.callWith_type1 (args_cons (thn (ha.run pins s σ H _ I h) fun v s1 ⟨x, H1, I1, r1, q1⟩ => args_nil ?_) na) na rfl
  obtain ⟨l, xs, rfl, hq, hnd, hl, q1⟩ := q1
  cases r1
  obtain ⟨its, r, pl, hz⟩ := I1.list hq
  have hlen : its.toArray.size = xs.length := by rw [List.size_toArray, ← r.length, List.length_map]
  refine set_texts (I1.ok.hd hc) pl.isList (by simpa using strsAre_of r) hnd (by unfold scanBound; omega) fun h' tk hS hk => ?_
  refine args_nil ?_
  rw [hlen] at hS
  obtain ⟨o, es, ep, t, ho, hex, hd, _, _, _, hf, hn⟩ := hS
  have I2 : Inv X pins σ H1 { s1 with heap := h', toks := tk } := I1.kept fun b o e => hk b o (Heap.lt_size e) e
  exact call_len_set ho hex hd hf (by rw [hn]; omega) ⟨.int xs.length, H1, I2.tok _, ⟨_, by rw [hn]⟩, q1⟩
end PN

/-! Steps of a reading, by names; the objects of the program in the heap; a def's promise by its body. -/
namespace PN
set_option maxRecDepth 100000
set_option maxHeartbeats 4000000
open PySem PySem.Spec PyProof.Rows L2
open Evl (Ex Ex.new Ex.mut ex_l ex_t fresh_back)

abbrev S (l : List Nat) : Str := SX.S l
theorem exr (H : Hp) : Ex H H := Evl.Ex.refl H
theorem ext {H H1 H2 : Hp} (a : Ex H H1) (b : Ex H1 H2) : Ex H H2 := Evl.Ex.trans a b

/-! ### steps -/
section
variable {K : PySem.W.Frag} {σ : L2.St} {H : Hp} {D : Ends} {t u : TS} {ta tb te tc : TE} {tt tu : TT} {g : TG} {Q : VK} {QB : Bool → Hp → Prop} {QA : List V → Hp → Prop} {v : V} {i : Nat} {tr : TA} {r : R2}
theorem g_seq (h : t { D with nx := u D } σ H) : tSeq t u D σ H := h
theorem g_next (h : D.nx σ H) : tNext D σ H := h
theorem g_ret (h : te σ H D.rt) : tRet te D σ H := h
theorem g_drop (h : te σ H fun _ H1 => D.nx σ H1) : tDrop te D σ H := h
theorem g_asg (h : te σ H fun x H1 => D.nx (σ.set i (some x)) H1) : tAsg te (gName i) D σ H := h
theorem g_asgG (h : te σ H fun x H1 => g x σ H1 D.nx) : tAsg te g D σ H := h
theorem g_ifs (h : tt σ H fun b H1 => if b = true then t D σ H1 else u D σ H1) : tIfS tt t u D σ H := h
theorem g_var (hs : σ[i]? = some (some v)) (h : Q v H) : tVar i σ H Q := ⟨v, hs, h⟩
theorem g_c (h : Q v H) : tC v σ H Q := h
theorem g_op (h : ta σ H fun x H1 => tb σ H1 fun y H2 => r x y H2 Q) : tOp r ta tb σ H Q := h
theorem g_rI0 {f : Int → Int → V} {a b : Int} (h : Q (f a b) H) : rI0 f (.int a) (.int b) H Q := ⟨a, b, rfl, rfl, h⟩
theorem g_rI {C : Int → Int → Prop} {f : Int → Int → V} {a b : Int} (hc : C a b) (h : Q (f a b) H) : rI C f (.int a) (.int b) H Q := ⟨a, b, rfl, rfl, hc, h⟩
theorem g_eqI {a b : Int} (h : Q (.bl (decide (a = b))) H) : rEq (.int a) (.int b) H Q := ⟨rfl, by rw [show decide (V.int a = V.int b) = decide (a = b) from by simp]; exact h⟩
theorem g_neI {a b : Int} (h : Q (.bl (!decide (a = b))) H) : rNe (.int a) (.int b) H Q := ⟨rfl, by rw [show decide (V.int a = V.int b) = decide (a = b) from by simp]; exact h⟩
theorem g_eqS {a b : Str} (h : Q (.bl (decide (a = b))) H) : rEq (.str a) (.str b) H Q := ⟨rfl, by rw [show decide (V.str a = V.str b) = decide (a = b) from by simp]; exact h⟩
theorem g_neS {a b : Str} (h : Q (.bl (!decide (a = b))) H) : rNe (.str a) (.str b) H Q := ⟨rfl, by rw [show decide (V.str a = V.str b) = decide (a = b) from by simp]; exact h⟩
theorem g_test (h : te σ H fun x H1 => ∃ b, x = .bl b ∧ QB b H1) : tTest te σ H QB := h
theorem g_B (h : te σ H fun x H1 => ∃ b, x = .bl b ∧ QB b H1) : tB te σ H QB := h
theorem g_bl {b : Bool} {P : Bool → Prop} (h : P b) : ∃ c, V.bl b = .bl c ∧ P c := ⟨b, rfl, h⟩
theorem g_and (h : tt σ H fun b H1 => if b = true then tu σ H1 QB else QB false H1) : tAnd tt tu σ H QB := h
theorem g_or (h : tt σ H fun b H1 => if b = true then QB true H1 else tu σ H1 QB) : tOr tt tu σ H QB := h
theorem g_not (h : tt σ H fun b H1 => QB (!b) H1) : tNot tt σ H QB := h
theorem g_andV (h : ta σ H fun x H1 => ∃ c, x = .bl c ∧ if c = true then tb σ H1 Q else Q (.bl false) H1) : tAndV ta tb σ H Q := h
theorem g_orV (h : ta σ H fun x H1 => ∃ c, x = .bl c ∧ if c = true then Q (.bl true) H1 else tb σ H1 Q) : tOrV ta tb σ H Q := h
theorem g_notV (h : ta σ H fun x H1 => ∃ c, x = .bl c ∧ Q (.bl (!c)) H1) : tNotV ta σ H Q := h
theorem g_ife (h : tt σ H fun b H1 => if b = true then ta σ H1 Q else tb σ H1 Q) : tIf tt ta tb σ H Q := h
theorem g_nil (h : QA [] H) : tNil σ H QA := h
theorem g_cons (h : te σ H fun x H1 => tr σ H1 fun xs H2 => QA (x :: xs) H2) : tCons te tr σ H QA := h
theorem g_tup (h : tr σ H fun xs H1 => xs.length ≤ sizeLine ∧ ∀ p, H1 p = none → Q (.ref p) (upd H1 p (.tup xs))) : tTup tr σ H Q := h
theorem g_lst (h : tr σ H fun xs H1 => xs.length ≤ sizeLine ∧ ∀ p, H1 p = none → Q (.ref p) (upd H1 p (.lst xs))) : tLst tr σ H Q := h
theorem g_call {sp : Sp} {dvs : List V} {E : XK} (h : tr σ H fun vs H1 => sp (vs ++ dvs) H1 Q E) : tCall sp dvs E tr σ H Q := h
theorem g_make {C : Addr} {sp : Sp} {dvs : List V} {E : XK} (h : tr σ H fun vs H1 => ∀ x dx, H1 x = none → H1 dx = none → dx ≠ x → sp (.ref x :: (vs ++ dvs)) (upd (upd H1 dx (.own x)) x (.ins C dx [])) (fun v H2 => v = .non ∧ Q (.ref x) H2) E) : tMake C sp dvs E tr σ H Q := h
theorem g_cb {r : List V → Hp → VK → Prop} (h : tr σ H fun vs H1 => r vs H1 Q) : tCB r tr σ H Q := h
theorem g_bm {T : String} {r : V → List V → Hp → VK → Prop} (h : te σ H fun x H1 => tyV K T x H1 ∧ tr σ H1 fun xs H2 => r x xs H2 Q) : tBM K T r te tr σ H Q := h
theorem g_un {r : V → Hp → VK → Prop} (h : ta σ H fun x H1 => r x H1 Q) : tUn r ta σ H Q := h
theorem g_if {p : Prop} [Decidable p] {A B : Prop} (h1 : p → A) (h2 : ¬ p → B) : if decide p = true then A else B := by
  by_cases h : p
  · rw [if_pos (decide_eq_true h)]
    exact h1 h
  · rw [if_neg (by rw [decide_eq_false h]; decide)]
    exact h2 h
theorem g_ifn {p : Prop} [Decidable p] {A B : Prop} (h1 : ¬ p → A) (h2 : p → B) : if (!decide p) = true then A else B := by
  by_cases h : p
  · rw [decide_eq_true h]
    exact iteF (h2 h)
  · rw [decide_eq_false h]
    exact iteT (h1 h)
theorem y_if {b : Bool} {A B : Prop} (hb : b = true) (h : A) : if b = true then A else B := by rw [if_pos hb]; exact h
theorem n_if {b : Bool} {A B : Prop} (hb : b = false) (h : B) : if b = true then A else B := by rw [hb]; exact iteF h
/-- a field's reading, a store's -/
def rFld (K : PySem.W.Frag) (f : Str) (x : V) (H : Hp) (Q : VK) : Prop := ∃ a C dx fs v, x = .ref a ∧ H a = some (.ins C dx fs) ∧ Cls K C ∧ NoAttr K C f ∧ fs.lookup f = some v ∧ Q v H
theorem g_fld {f : Str} (h : ta σ H fun x H1 => rFld K f x H1 Q) : tFld K ta f σ H Q := h
def rCon (K : PySem.W.Frag) (f : Str) (x : V) (H : Hp) (Q : VK) : Prop := ∃ a C dx fs v u, x = .ref a ∧ H a = some (.ins C dx fs) ∧ Cls K C ∧ Con K C f v u ∧ fs.lookup f = none ∧ Q v H
theorem g_con {f : Str} (h : ta σ H fun x H1 => rCon K f x H1 Q) : tCon K ta f σ H Q := h
def rPut (K : PySem.W.Frag) (f : Str) (x y : V) (H : Hp) (Q : Hp → Prop) : Prop := ∃ a C dx fs, x = .ref a ∧ H a = some (.ins C dx fs) ∧ Cls K C ∧ NoAttr K C f ∧ fs.length < 1000 ∧ Q (upd H a (.ins C dx (putF f y fs)))
theorem g_put {f : Str} (h : tb σ H fun y H1 => ta σ H1 fun x H2 => rPut K f x y H2 fun H3 => D.nx σ H3) : sFld K ta tb f D σ H := h
theorem r_put {f : Str} {a C dx : Addr} {fs gs : List (Str × V)} {y : V} {QH : Hp → Prop} (ha : H a = some (.ins C dx fs)) (c : Cls K C) (n : NoAttr K C f) (hl : fs.length < 1000) (hp : putF f y fs = gs) (h : QH (upd H a (.ins C dx gs))) : rPut K f (.ref a) y H QH := ⟨a, C, dx, fs, rfl, ha, c, n, hl, by rw [hp]; exact h⟩
theorem r_fld {f : Str} {a C dx : Addr} {fs : List (Str × V)} (ha : H a = some (.ins C dx fs)) (c : Cls K C) (n : NoAttr K C f) (hl : fs.lookup f = some v) (h : Q v H) : rFld K f (.ref a) H Q := ⟨a, C, dx, fs, v, rfl, ha, c, n, hl, h⟩
/-- a method's -/
def rMet (C : Addr) (m : Str) (t : TA) (sp : Sp) (dvs : List V) (E : XK) (x : V) (σ : L2.St) (H : Hp) (Q : VK) : Prop := ∃ a dx fs, x = .ref a ∧ H a = some (.ins C dx fs) ∧ fs.lookup m = none ∧ t σ H fun vs H2 => sp (x :: (vs ++ dvs)) H2 Q E
theorem g_met {C : Addr} {m : Str} {sp : Sp} {dvs : List V} {E : XK} (h : ta σ H fun x H1 => rMet C m tr sp dvs E x σ H1 Q) : tMeth C m sp dvs E ta tr σ H Q := h
end
theorem lk0 {f : Str} {v : V} {r : List (Str × V)} : ((f, v) :: r).lookup f = some v := by simp [List.lookup]
theorem lk1 {f g : Str} {v : V} {w : Option V} {r : List (Str × V)} (h : (f == g) = false) (k : r.lookup f = w) : ((g, v) :: r).lookup f = w := by simp [List.lookup, h, k]
theorem lkn {f : Str} : ([] : List (Str × V)).lookup f = none := rfl
theorem pu0 {f : Str} {v w : V} {r : List (Str × V)} : putF f v ((f, w) :: r) = (f, v) :: r := by unfold putF; rw [if_pos rfl]
theorem pu1 {f g : Str} {v w : V} {r s : List (Str × V)} (h : (f == g) = false) (k : putF f v r = s) : putF f v ((g, w) :: r) = (g, w) :: s := by
  unfold putF
  rw [if_neg (fun e => by rw [e] at h; simp at h), k]
theorem pun {f : Str} {v : V} : putF f v [] = [(f, v)] := rfl

theorem kit_own {K : PySem.W.Frag} {C : Addr} : PySem.W.kitOne K (.ref C) (.ref C) = some true := by
  unfold PySem.W.kitOne
  rw [if_pos (by simp)]

/-! ### names' values from the top -/
section
variable {K : PySem.W.Frag} {mg : Str → Option Value}
theorem TX.vMOST (T : TX K mg) : ∃ u, mg "MOST" = some u ∧ RelV (.int 99) u := by
  obtain ⟨t, h⟩ := T.i_MOST
  exact ⟨_, h, t, rfl⟩
theorem TX.vLET (T : TX K mg) : ∃ u, mg "MOST_LETTERS" = some u ∧ RelV (.int 8) u := by
  obtain ⟨t, h⟩ := T.i_MOST_LETTERS
  exact ⟨_, h, t, rfl⟩
theorem TX.vNUM (T : TX K mg) : ∃ u, mg "MOST_NUMBER" = some u ∧ RelV (.int 15) u := by
  obtain ⟨t, h⟩ := T.i_MOST_NUMBER
  exact ⟨_, h, t, rfl⟩
theorem TX.vLETTERS (T : TX K mg) : ∃ u, mg "LETTERS" = some u ∧ RelV (.str "abcdefghijklmnopqrstuvwxyz") u := by
  obtain ⟨t, h⟩ := T.t_LETTERS
  exact ⟨_, h, t, rfl⟩
theorem TX.vCLEAR (T : TX K mg) : ∃ u, mg "CLEAR" = some u ∧ RelV (.str ".") u := by
  obtain ⟨t, h⟩ := T.t_CLEAR
  exact ⟨_, h, t, rfl⟩
end

/-! ### a def by its body -/
section
variable {P : Program} {w : World} {K : PySem.W.Frag} {mg : Str → Option Value} {base : Heap} {x qual : Str} {args : Arguments} {body : List Stmt} {scope : Scope} {f C : Addr} {N ps : List Str} {k : Nat} {sp : Sp} {m : Str}
/-- what is shown of a body -/
abbrev BodyOk (P : Program) (w : World) (K : PySem.W.Frag) (mg : Str → Option Value) (base : Heap) (N : List Str) (qual : Str) (scope : Scope) (body : List Stmt) (f : Addr) (k : Nat) (sp : Sp) : Prop :=
  ∀ (cdv : Value) (A : Around) (outer : List Env) (s : Shared) (H : Hp) (vs : List V) (Q : VK) (E : XK), Room k (A.deeper (envOfC qual scope s.heap.objs.size f cdv)) → sp vs H Q E →
      ∃ t, PSs (cxOf L2.CX0 P w K mg base N qual scope f cdv A outer s H E).nox body t ∧ t { nx := fun _ H' => Q .non H', rt := Q } (start N vs) H
theorem fnD {dvs : List V} {kws : List (Str × V)} {fd : FuncData} (F : FunD K x qual args body scope dvs kws f fd) (S : FnScope N ps scope) (len : ∀ vs H Q E, sp vs H Q E → vs.length = ps.length) (hb : BodyOk P w K mg base N qual scope body f k sp) : FnOk P w K mg base L2.CX0 (k + 1) f fd ps sp :=
  F.ok S len fun cdv A outer s H vs Q E hr h => by
    obtain ⟨t, h1, h2⟩ := hb cdv A outer s H vs Q E hr h
    exact ⟨t, h1.nox, h2⟩
theorem calD (F : ∃ fd, FunD K x x args body scope [] [] f fd) (hm : mg x = some (.ref f)) (S : FnScope N ps scope)
    (b : ∀ (kV doc pm : Value) (an : Option Addr) (cdv ct : Value) (us : List Value), us.length = ps.length → bindArgs (PySem.W.fnOf x x args body scope .none kV doc pm an cdv ct) ⟨us, []⟩ = pure (ps.zip us))
    (len : ∀ vs H Q E, sp vs H Q E → vs.length = ps.length) (hb : BodyOk P w K mg base N x scope body f k sp) : C8.Cal P w K mg base (k + 1) x sp [] := by
  obtain ⟨fd, F⟩ := F
  exact ⟨f, fd, ps, [], fnD F S len hb, hm, F.kp, F.bindsN b, .nil⟩
theorem metD (F : ∃ fd, FunD K m qual args body scope [] [] f fd) (c : Cls K C) (me : Meth K C m f) (S : FnScope N ps scope)
    (b : ∀ (kV doc pm : Value) (an : Option Addr) (cdv ct : Value) (us : List Value), us.length = ps.length → bindArgs (PySem.W.fnOf m qual args body scope .none kV doc pm an cdv ct) ⟨us, []⟩ = pure (ps.zip us))
    (len : ∀ vs H Q E, sp vs H Q E → vs.length = ps.length) (hb : BodyOk P w K mg base N qual scope body f k sp) : C8.Met P w K mg base (k + 1) C m sp [] := by
  obtain ⟨fd, F⟩ := F
  exact ⟨f, fd, ps, [], c, me, fnD F S len hb, F.bindsN b, .nil⟩
theorem makD (F : ∃ fd, FunD K "__init__" qual args body scope [] [] f fd) (M : Mk K C f) (hm : mg x = some (.ref C)) (S : FnScope N ps scope)
    (b : ∀ (kV doc pm : Value) (an : Option Addr) (cdv ct : Value) (us : List Value), us.length = ps.length → bindArgs (PySem.W.fnOf "__init__" qual args body scope .none kV doc pm an cdv ct) ⟨us, []⟩ = pure (ps.zip us))
    (len : ∀ vs H Q E, sp vs H Q E → vs.length = ps.length) (hb : BodyOk P w K mg base N qual scope body f k sp) : C8.Mak P w K mg base (k + 1) x C sp [] := by
  obtain ⟨fd, F⟩ := F
  exact ⟨f, fd, ps, [], M, fnD F S len hb, hm, F.bindsN b, .nil⟩
theorem fnRD (F : ∃ fd, FunD K m qual args body scope [] [] f fd) (S : FnScope N ps scope)
    (b : ∀ (kV doc pm : Value) (an : Option Addr) (cdv ct : Value) (us : List Value), us.length = ps.length → bindArgs (PySem.W.fnOf m qual args body scope .none kV doc pm an cdv ct) ⟨us, []⟩ = pure (ps.zip us))
    (len : ∀ vs H Q E, sp vs H Q E → vs.length = ps.length) (hb : BodyOk P w K mg base N qual scope body f k sp) : ∃ (fd : FuncData), FnOk P w K mg base L2.CX0 (k + 1) f fd ps sp ∧ Binds K fd ps [] := by
  obtain ⟨fd, F⟩ := F
  exact ⟨fd, fnD F S len hb, F.bindsN b⟩
end
end PN

/-! Named operations, texts of signs, stretches in the heap; the tactic that steps. -/
namespace PN
set_option maxRecDepth 100000
set_option maxHeartbeats 4000000
open PySem PySem.Spec PyProof.Rows L2
open Evl (Ex Ex.new Ex.mut ex_l ex_t fresh_back)

/-! ### texts -/
theorem find_in {p : List Nat} {c : Nat} (h : c ∈ p) : Txt.find (S p) (S [c]) = (p.idxOf c : Int) := by
  have hl : (S p).length = p.length := SX.S_len p
  have hi := List.idxOf_lt_length_of_mem h
  have at' : ∀ i, StrLaws.At (S p) (S [c]) (S p).length i ↔ p[i]? = some c := fun i => StrLaws.subAt_one (S p) c i
  rcases find_whole (S p) (S [c]) with ⟨_, q⟩ | ⟨i, e, q, k⟩
  · exact absurd ((at' _).mpr (by rw [List.getElem?_eq_getElem hi, List.getElem_idxOf hi])) (q (p.idxOf c))
  · rw [e]
    have q := (at' i).mp q
    congr 1
    rcases Nat.lt_trichotomy i (p.idxOf c) with z | z | z
    · exfalso
      have hlt : i < p.length := by omega
      rw [List.getElem?_eq_getElem hlt] at q
      have := List.not_of_lt_findIdx (p := fun x => x == c) (xs := p) (i := i) (by unfold List.idxOf at z; exact z)
      exact absurd (Option.some.inj q) (by simpa using this)
    · exact z
    · exact absurd ((at' _).mpr (by rw [List.getElem?_eq_getElem hi, List.getElem_idxOf hi])) (k _ z)
theorem rfind_in {p : List Nat} {c : Nat} (h : c ∈ p) : Txt.rfind (S p) (S [c]) = (p.length : Int) - (p.reverse.idxOf c : Int) - 1 := by
  have hl : (S p).length = p.length := SX.S_len p
  have hr : c ∈ p.reverse := List.mem_reverse.mpr h
  have hi := List.idxOf_lt_length_of_mem hr
  rw [List.length_reverse] at hi
  have at' : ∀ i, StrLaws.At (S p) (S [c]) (S p).length i ↔ p[i]? = some c := fun i => StrLaws.subAt_one (S p) c i
  have hlast : p[p.length - 1 - p.reverse.idxOf c]? = some c := by
    have : p.reverse[p.reverse.idxOf c]? = some c := by
      rw [List.getElem?_eq_getElem (by rw [List.length_reverse]; exact hi), List.getElem_idxOf]
    rwa [List.getElem?_reverse (by omega)] at this
  rcases rfind_whole (S p) (S [c]) with ⟨_, q⟩ | ⟨i, e, q, k⟩
  · exact absurd ((at' _).mpr hlast) (q _)
  · rw [e]
    have q := (at' i).mp q
    have hlt : i < p.length := (List.getElem?_eq_some_iff.mp q).1
    have : i = p.length - 1 - p.reverse.idxOf c := by
      rcases Nat.lt_trichotomy i (p.length - 1 - p.reverse.idxOf c) with z | z | z
      · exact absurd ((at' _).mpr hlast) (k _ z)
      · exact z
      · exfalso
        have q2 : p.reverse[p.length - 1 - i]? = some c := by
          rw [List.getElem?_reverse (by omega)]
          rw [show p.length - 1 - (p.length - 1 - i) = i by omega]
          exact q
        have hl2 : p.length - 1 - i < p.reverse.length := by rw [List.length_reverse]; omega
        rw [List.getElem?_eq_getElem hl2] at q2
        have := List.not_of_lt_findIdx (p := fun x => x == c) (xs := p.reverse) (i := p.length - 1 - i) (by show _ < p.reverse.idxOf c; omega)
        exact absurd (Option.some.inj q2) (by simpa using this)
    omega

/-! ### named operations -/
def rFind : V → List V → Hp → VK → Prop := fun x xs H Q => ∃ a b, x = .str a ∧ xs = [.str b] ∧ Q (.int (Txt.find a b)) H
theorem mt_findN {X : Cx} : MtR X "str.find" rFind := mt_find
def rRfind : V → List V → Hp → VK → Prop := fun x xs H Q => ∃ a b, x = .str a ∧ xs = [.str b] ∧ Q (.int (Txt.rfind a b)) H
theorem mt_rfindN {X : Cx} : MtR X "str.rfind" rRfind := mt_rfind
def rLenT : List V → Hp → VK → Prop := fun xs H Q => ∃ z, xs = [.str z] ∧ z.length ≤ sizeLine ∧ Q (.int z.length) H
theorem call_lenT {X : Cx} : CallR X (.builtin "len") rLenT := call_len_str
def rLenQ (K : PySem.W.Frag) : List V → Hp → VK → Prop := fun xs H Q => ∃ p ys, xs = [.ref p] ∧ (SqL K H p ys ∨ SqT K H p ys) ∧ Q (.int ys.length) H
theorem call_lenQ {X : Cx} : CallR X (.builtin "len") (rLenQ X.K) := call_len_seq
def rAbs : List V → Hp → VK → Prop := fun xs H Q => ∃ i, xs = [.int i] ∧ Q (.int (if i < 0 then -i else i)) H
theorem call_absN {X : Cx} : CallR X (.builtin "abs") rAbs := call_abs
def rInt1 : List V → Hp → VK → Prop := fun xs H Q => (∃ i, xs = [.int i] ∧ Q (.int i) H) ∨ ∃ k, xs = [.bl k] ∧ Q (.int (if k then 1 else 0)) H
theorem call_intN {X : Cx} : CallR X (.type "int") rInt1 := call_int1
def rListQ (K : PySem.W.Frag) : List V → Hp → VK → Prop := fun xs H Q => ∃ p ys, xs = [.ref p] ∧ (SqL K H p ys ∨ SqT K H p ys) ∧ ∀ l, H l = none → Q (.ref l) (upd H l (.lst ys))
theorem call_listQ {X : Cx} : CallR X (.type "list") (rListQ X.K) := call_list_of
def rTupQ (K : PySem.W.Frag) : List V → Hp → VK → Prop := fun xs H Q => ∃ p ys, xs = [.ref p] ∧ ((SqL K H p ys ∧ ∀ l, H l = none → Q (.ref l) (upd H l (.tup ys))) ∨ (SqT K H p ys ∧ Q (.ref p) H))
theorem call_tupQ {X : Cx} : CallR X (.type "tuple") (rTupQ X.K) := call_tuple_of
def rAddT : R2 := fun x y H Q => ∃ i j, x = .str i ∧ y = .str j ∧ i.length + j.length ≤ sizeLine ∧ Q (.str (i ++ j)) H
theorem op_addT {X : Cx} : OpR X (binaryOp .Add) rAddT := op_add_str
section
variable {K : PySem.W.Frag} {H : Hp} {Q : VK} {σ : L2.St} {ta tb tc : TE} {r r' : R2}
theorem g_find {p : List Nat} {c : Nat} (hc : c ∈ p) (h : Q (.int (p.idxOf c : Int)) H) : rFind (.str (S p)) [.str (S [c])] H Q := ⟨_, _, rfl, rfl, by rw [find_in hc]; exact h⟩
theorem g_rfind {p : List Nat} {c : Nat} (hc : c ∈ p) (h : Q (.int ((p.length : Int) - (p.reverse.idxOf c : Int) - 1)) H) : rRfind (.str (S p)) [.str (S [c])] H Q := ⟨_, _, rfl, rfl, by rw [rfind_in hc]; exact h⟩
theorem g_lenT {p : List Nat} (hz : p.length ≤ 100000) (h : Q (.int (p.length : Int)) H) : rLenT [.str (S p)] H Q := ⟨_, rfl, by rw [SX.S_len]; exact Evl.sz_of hz, by rw [SX.S_len]; exact h⟩
theorem g_lenL {a : Addr} {xs : List V} (hx : SqL K H a xs) (h : Q (.int (xs.length : Int)) H) : rLenQ K [.ref a] H Q := ⟨a, xs, rfl, .inl hx, h⟩
theorem g_listU {a : Addr} {xs : List V} (hx : SqT K H a xs) (h : ∀ l, H l = none → Q (.ref l) (upd H l (.lst xs))) : rListQ K [.ref a] H Q := ⟨a, xs, rfl, .inr hx, h⟩
theorem g_listL {a : Addr} {xs : List V} (hx : SqL K H a xs) (h : ∀ l, H l = none → Q (.ref l) (upd H l (.lst xs))) : rListQ K [.ref a] H Q := ⟨a, xs, rfl, .inl hx, h⟩
theorem g_tupL {a : Addr} {xs : List V} (hx : SqL K H a xs) (h : ∀ l, H l = none → Q (.ref l) (upd H l (.tup xs))) : rTupQ K [.ref a] H Q := ⟨a, xs, rfl, .inl ⟨hx, h⟩⟩
theorem g_lenU {a : Addr} {xs : List V} (hx : SqT K H a xs) (h : Q (.int (xs.length : Int)) H) : rLenQ K [.ref a] H Q := ⟨a, xs, rfl, .inr hx, h⟩
theorem g_isI {i : Int} (h : Q (.bl true) H) : rIsi K [.int i, .ty "int"] H Q := ⟨_, _, _, _, true, rfl, .ty "int", .base (.int i), kit_ty (by decide +kernel), h⟩
theorem g_isB {i : Int} (h : Q (.bl false) H) : rIsi K [.int i, .ty "bool"] H Q := ⟨_, _, _, _, false, rfl, .ty "bool", .base (.int i), kit_ty (by decide +kernel), h⟩
theorem g_isS {z : Str} (h : Q (.bl true) H) : rIsi K [.str z, .ty "str"] H Q := ⟨_, _, _, _, true, rfl, .ty "str", .base (.str z), kit_ty (by decide +kernel), h⟩
theorem g_chain (h : ta σ H fun x H1 => tb σ H1 fun y H2 => r x y H2 fun z H3 => ∃ k, z = .bl k ∧ (if k = true then tc σ H3 fun w' H4 => r' y w' H4 Q else Q (.bl false) H3)) : tChain r r' ta tb tc σ H Q := h
theorem g_str {z : Str} {P : Prop} (h : P) : tyV K "str" (.str z) H ∧ P := ⟨rfl, h⟩
theorem g_ixL {a : Addr} {xs : List V} {i : Int} {v : V} (hx : SqL K H a xs) (hi : atI xs i = some v) (h : Q v H) : rIxL K (.ref a) (.int i) H Q := ⟨a, xs, i, v, rfl, rfl, hx, hi, h⟩
theorem g_ixT {a : Addr} {xs : List V} {i : Int} {v : V} (hx : SqT K H a xs) (hi : atI xs i = some v) (h : Q v H) : rIxT K (.ref a) (.int i) H Q := ⟨a, xs, i, v, rfl, rfl, hx, hi, h⟩
theorem g_ixS {p : List Nat} {i : Int} {c : Nat} (hz : p.length ≤ 100000) (hi : atI p i = some c) (h : Q (.str (S [c])) H) : rIxS (.str (S p)) (.int i) H Q := ⟨S p, i, c, rfl, rfl, by rw [SX.S_len]; exact Evl.sz_of hz, hi, h⟩
theorem g_addT {p q : List Nat} (hz : p.length + q.length ≤ 100000) (h : Q (.str (S (p ++ q))) H) : rAddT (.str (S p)) (.str (S q)) H Q := ⟨S p, S q, rfl, rfl, by rw [SX.S_len, SX.S_len]; exact Evl.sz_of hz, by rw [SX.S_cat]; exact h⟩
theorem g_inS {c : Nat} {p : List Nat} (h : Q (.bl (decide (c ∈ p))) H) : rInS (.str (S [c])) (.str (S p)) H Q := ⟨c, S p, rfl, rfl, h⟩
theorem g_notInS {c : Nat} {p : List Nat} (h : Q (.bl (!decide (c ∈ p))) H) : rNotInS (.str (S [c])) (.str (S p)) H Q := ⟨c, S p, rfl, rfl, h⟩
theorem g_app {l : Addr} {xs : List V} {y : V} (hl : H l = some (.lst xs)) (hz : xs.length < 100000) (h : Q .non (upd H l (.lst (xs ++ [y])))) : rAppend (.ref l) [y] H Q := ⟨l, xs, y, rfl, rfl, hl, Evl.sz_lt hz, h⟩
theorem g_lst' {a : Addr} {xs : List V} {P : Prop} (hx : SqL K H a xs) (h : P) : tyV K "list" (.ref a) H ∧ P := ⟨Or.inl ⟨rfl, xs, hx⟩, h⟩
theorem g_isNon (h : Q (.bl true) H) : rIsN .non .non H Q := ⟨rfl, h⟩
theorem g_notNon (h : Q (.bl false) H) : rNotN .non .non H Q := ⟨rfl, h⟩
end

/-! ### lists of signs -/
abbrev sg (c : Nat) : V := .str (S [c])
theorem S_eq {a b : List Nat} : S a = S b ↔ a = b := ⟨SX.S_inj, fun h => by rw [h]⟩
theorem dot_is : (Str.ofString ".") = S [46] := by kernel_rfl
theorem sg_dot {c : Nat} : decide (S [c] = Str.ofString ".") = decide (c = 46) := by
  rw [dot_is, decide_eq_decide, S_eq]
  simp
theorem flat_sg (cs : List Nat) : (cs.map sg).all flatV = true := by
  rw [List.all_map]
  exact List.all_eq_true.mpr fun _ _ => rfl
theorem inV_sg (c : Nat) (cs : List Nat) : inV (sg c) (cs.map sg) = decide (c ∈ cs) := by
  unfold inV
  rw [List.any_map, Bool.eq_iff_iff, List.any_eq_true, decide_eq_true_eq]
  constructor
  · rintro ⟨d, hd, e⟩
    have e : (S [d] == S [c]) = true := e
    rw [beq_iff_eq, S_eq] at e
    rw [List.cons.inj e |>.1] at hd
    exact hd
  · intro h
    exact ⟨c, h, by show (S [c] == S [c]) = true; simp⟩
theorem g_niL {K : PySem.W.Frag} {H : Hp} {Q : VK} {c : Nat} {l : Addr} {cs : List Nat} (h : SqL K H l (cs.map sg)) (q : Q (.bl (!decide (c ∈ cs))) H) : rIn K true (sg c) (.ref l) H Q :=
  ⟨l, _, rfl, .inl h, rfl, flat_sg cs, by rw [if_pos rfl, inV_sg]; exact q⟩
theorem g_niU {K : PySem.W.Frag} {H : Hp} {Q : VK} {c : Nat} {l : Addr} {cs : List Nat} (h : SqT K H l (cs.map sg)) (q : Q (.bl (!decide (c ∈ cs))) H) : rIn K true (sg c) (.ref l) H Q :=
  ⟨l, _, rfl, .inr h, rfl, flat_sg cs, by rw [if_pos rfl, inV_sg]; exact q⟩
theorem sl_ij {a : List Nat} {i j : Int} (h0 : 0 ≤ i) (h1 : i ≤ j) (h2 : j ≤ a.length) : Txt.slice (S a) (some i) (some j) = S ((a.drop i.toNat).take (j - i).toNat) := by
  have e := beq_iff_eq.mp (PyProof.Rows.slice_closesL (x := S a) h0 h1 (by rw [SX.S_len]; exact h2))
  exact e
theorem g_slT {a : List Nat} {i j : Int} {H : Hp} {Q : VK} (hz : a.length ≤ 100000) (h0 : 0 ≤ i) (h1 : i ≤ j) (h2 : j ≤ a.length) (h : Q (.str (S ((a.drop i.toNat).take (j - i).toNat))) H) : C8.rSlX (.str (S a)) (some i) (some j) H Q :=
  ⟨_, rfl, by rw [SX.S_len]; exact Evl.sz_of hz, by rw [sl_ij h0 h1 h2]; exact h⟩
theorem g_sl {r : V → Option Int → Option Int → Hp → VK → Prop} {te : TE} {tl th : TO} {σ : L2.St} {H : Hp} {Q : VK} (h : te σ H fun x H1 => tl σ H1 fun l H2 => th σ H2 fun u H3 => r x l u H3 Q) : tSl r te tl th σ H Q := h
theorem g_pn {σ : L2.St} {H : Hp} {Q : Option Int → Hp → Prop} (h : Q none H) : tNoPart σ H Q := h
theorem g_ps {te : TE} {σ : L2.St} {H : Hp} {Q : Option Int → Hp → Prop} (h : te σ H fun x H1 => ∃ i, x = .int i ∧ Q (some i) H1) : tPart te σ H Q := h
theorem g_in {i : Int} {P : Int → Prop} (h : P i) : ∃ j, V.int i = .int j ∧ P j := ⟨i, rfl, h⟩

/-! ### all but the lists is kept -/
def ExN (H H' : Hp) : Prop := ∀ a o, (∀ xs, o ≠ .lst xs) → H a = some o → H' a = some o
theorem exn {H H' : Hp} (e : Ex H H') : ExN H H' := fun a o _ h => e a o h
theorem exn_t {H H1 H2 : Hp} (a : ExN H H1) (b : ExN H1 H2) : ExN H H2 := fun x o n h => b x o n (a x o n h)
theorem exn_l {H : Hp} {D : Addr} {xs ys : List V} (h : H D = some (.lst xs)) : ExN H (upd H D (.lst ys)) := fun a o n e => by
  rw [upd_ne (fun q => by rw [q, h] at e; exact n xs (Option.some.inj e).symm)]
  exact e
theorem exn_u {K : PySem.W.Frag} {H H' : Hp} {a : Addr} {xs : List V} (e : ExN H H') (h : SqT K H a xs) : SqT K H' a xs := by
  rcases h with (h | ⟨o, h⟩) | h
  · exact .inl (.inl (e _ _ (fun _ q => by cases q) h))
  · exact .inl (.inr ⟨o, e _ _ (fun _ q => by cases q) h⟩)
  · exact .inr h

/-! ### loops and comprehensions over any walk -/
/-- J walks over xs where P stands -/
structure ItOf (J : It) (xs : List V) (P : Hp → Prop) : Prop where
  stop : ∀ H, P H → J.stop xs.length H
  go : ∀ i H, P H → i < xs.length → J.go i H
  yld : ∀ i H x H', P H → i < xs.length → J.yld i H x H' → H' = H ∧ xs[i]? = some x
theorem it_l {K : PySem.W.Frag} {a : Addr} {xs : List V} : ItOf (Itl K a) xs fun H => SqL K H a xs where
  stop := fun H q => ⟨xs, q, Nat.le_refl _⟩
  go := fun i H q h => ⟨xs, xs[i], q, by simp [h]⟩
  yld := fun i H x H' q h y => by
    obtain ⟨e, y⟩ := y
    exact ⟨e, y xs q⟩
theorem it_t {K : PySem.W.Frag} {a : Addr} {xs : List V} : ItOf (Itt K a) xs fun H => SqT K H a xs where
  stop := fun H q => ⟨xs, q, Nat.le_refl _⟩
  go := fun i H q h => ⟨xs, xs[i], q, by simp [h]⟩
  yld := fun i H x H' q h y => by
    obtain ⟨e, y⟩ := y
    exact ⟨e, y xs q⟩
def ivs (lo : Int) (n : Nat) : List V := (List.range n).map fun (i : Nat) => V.int (lo + (i : Int))
theorem ivs_len (lo : Int) (n : Nat) : (ivs lo n).length = n := by simp [ivs]
theorem ivs_at {lo : Int} {n i : Nat} {x : V} (h : (ivs lo n)[i]? = some x) : i < n ∧ x = V.int (lo + (i : Int)) := by
  unfold ivs at h
  rw [List.getElem?_map] at h
  by_cases q : i < n
  · rw [List.getElem?_range q] at h
    exact ⟨q, (Option.some.inj h).symm⟩
  · rw [List.getElem?_eq_none (by simpa using q)] at h
    cases h
theorem it_r {lo : Int} {n : Nat} : ItOf (Itr lo n) (ivs lo n) fun _ => True where
  stop := fun H _ => by show n ≤ _; rw [ivs_len]; exact Nat.le_refl _
  go := fun i H _ h => by show i < n; rw [ivs_len] at h; exact h
  yld := fun i H x H' _ h y => by
    obtain ⟨e, y⟩ := y
    rw [ivs_len] at h
    subst y
    exact ⟨e, by unfold ivs; rw [List.getElem?_map, List.getElem?_range h]; rfl⟩
theorem it_s {p : List Nat} : ItOf (Its (S p)) (p.map sg) fun _ => True where
  stop := fun H _ => by show (S p).cps.size ≤ _; simp [S, SX.S]
  go := fun i H _ h => by show i < (S p).cps.size; simpa [S, SX.S] using h
  yld := fun i H x H' _ h y => by
    obtain ⟨e, c, hc, ex⟩ := y
    subst ex
    refine ⟨e, ?_⟩
    rw [List.getElem?_map, show p[i]? = some c by simpa [S, SX.S] using hc]
    rfl
def Loop (J : It) (g : TG) (tb : TS) (D : Ends) (σ : L2.St) (H : Hp) : Prop := ∃ W : Nat → Nat → L2.St → Hp → Prop, (∃ m, W 0 m σ H) ∧ ∀ i m σ H, W i m σ H →
  (J.stop i H ∧ D.nx σ H) ∨ (J.go i H ∧ ∃ N : L2.St → Hp → Prop, (∀ σ' H', N σ' H' → ∃ m', m' < m ∧ W (i + 1) m' σ' H') ∧ ∀ x H', J.yld i H x H' → g x σ H' fun σ2 H2 => tb { D with nx := N, ct := N, bk := D.nx } σ2 H2)
section
variable {K : PySem.W.Frag} {J : It} {xs : List V} {P : Hp → Prop} {g : TG} {tb : TS} {D : Ends} {σ : L2.St} {H : Hp} {wi : TI} {te : TE} {ta : TA} {R : It → Hp → Prop}
theorem loop_by (I : ItOf J xs P) (Pv : Nat → L2.St → Hp → Prop) (h0 : Pv 0 σ H) (hp : ∀ i σ H, i ≤ xs.length → Pv i σ H → P H)
    (hs : ∀ i x σ H, xs[i]? = some x → Pv i σ H → g x σ H fun σ2 H2 => tb { D with nx := Pv (i + 1), ct := Pv (i + 1), bk := D.nx } σ2 H2) (hd : ∀ σ H, Pv xs.length σ H → D.nx σ H) : Loop J g tb D σ H := by
  refine ⟨fun i m σ H => m = xs.length - i ∧ i ≤ xs.length ∧ Pv i σ H, ⟨xs.length, by simp, Nat.zero_le _, h0⟩, ?_⟩
  rintro i m σ H ⟨rfl, hi, q⟩
  have p := hp i σ H hi q
  by_cases hlt : i < xs.length
  · refine .inr ⟨I.go i H p hlt, Pv (i + 1), fun σ' H' p' => ⟨xs.length - (i + 1), by omega, rfl, hlt, p'⟩, fun x H' y => ?_⟩
    obtain ⟨e, y2⟩ := I.yld i H x H' p hlt y
    subst e
    exact hs i x _ _ y2 q
  · have e : i = xs.length := by omega
    subst e
    exact .inl ⟨I.stop H p, hd σ H q⟩
theorem g_for (h : wi σ H fun J H1 => Loop J g tb D σ H1) : tFor wi g tb D σ H := h
theorem g_iL (h : te σ H fun x H1 => ∃ a, x = .ref a ∧ (∃ xs, SqL K H1 a xs) ∧ R (Itl K a) H1) : iList K te σ H R := h
theorem g_iT (h : te σ H fun x H1 => ∃ a, x = .ref a ∧ (∃ xs, SqT K H1 a xs) ∧ R (Itt K a) H1) : iTup K te σ H R := h
theorem g_iS (h : te σ H fun x H1 => ∃ z, x = .str z ∧ R (Its z) H1) : iStr te σ H R := h
theorem g_iR1 (h : ta σ H fun vs H1 => ∃ j : Int, vs = [.int j] ∧ -(2 ^ 62) ≤ j ∧ j < 2 ^ 62 ∧ R (Itr 0 j.toNat) H1) : iRng1 ta σ H R := h
theorem g_iR2 (h : ta σ H fun vs H1 => ∃ i j : Int, vs = [.int i, .int j] ∧ (-(2 ^ 62) ≤ i ∧ i < 2 ^ 62 ∧ -(2 ^ 62) ≤ j ∧ j < 2 ^ 62) ∧ R (Itr i (j - i).toNat) H1) : iRng2 ta σ H R := h
theorem w_L {l : Addr} (hx : SqL K H l xs) (h : Loop (Itl K l) g tb D σ H) : ∃ a, V.ref l = .ref a ∧ (∃ xs, SqL K H a xs) ∧ Loop (Itl K a) g tb D σ H := ⟨l, rfl, ⟨xs, hx⟩, h⟩
theorem w_T {l : Addr} (hx : SqT K H l xs) (h : Loop (Itt K l) g tb D σ H) : ∃ a, V.ref l = .ref a ∧ (∃ xs, SqT K H a xs) ∧ Loop (Itt K a) g tb D σ H := ⟨l, rfl, ⟨xs, hx⟩, h⟩
theorem w_S {p : List Nat} (h : Loop (Its (S p)) g tb D σ H) : ∃ z, V.str (S p) = .str z ∧ Loop (Its z) g tb D σ H := ⟨_, rfl, h⟩
theorem w_R1 {n : Int} (hn : -100000 ≤ n ∧ n ≤ 100000) (h : Loop (Itr 0 n.toNat) g tb D σ H) : ∃ j : Int, [V.int n] = [.int j] ∧ -(2 ^ 62) ≤ j ∧ j < 2 ^ 62 ∧ Loop (Itr 0 j.toNat) g tb D σ H := ⟨n, rfl, by omega, by omega, h⟩
theorem w_R2 {m n : Int} (hm : -100000 ≤ m ∧ m ≤ 100000) (hn : -100000 ≤ n ∧ n ≤ 100000) (h : Loop (Itr m (n - m).toNat) g tb D σ H) : ∃ i j : Int, [V.int m, V.int n] = [.int i, .int j] ∧ (-(2 ^ 62) ≤ i ∧ i < 2 ^ 62 ∧ -(2 ^ 62) ≤ j ∧ j < 2 ^ 62) ∧ Loop (Itr i (j - i).toNat) g tb D σ H := ⟨m, n, rfl, ⟨by omega, by omega, by omega, by omega⟩, h⟩
end
/-- a comprehension's own walk -/
def LcB (J : It) (g : TG) (tt : TT) (te : TE) (vs : List Nat) (σ : L2.St) (H1 : Hp) (Q : VK) : Prop := ∀ D, H1 D = none → ∃ W : Nat → Nat → Hp → Prop, (∃ m, W 0 m (upd H1 D (.lst []))) ∧ ∀ i m H, W i m H →
  (J.stop i H ∧ Q (.ref D) H) ∨ (J.go i H ∧ ∃ Nx : Hp → Prop, (∀ H', Nx H' → ∃ m', m' < m ∧ W (i + 1) m' H') ∧ ∀ x H', J.yld i H x H' → g x (wipe σ vs) H' fun σ2 H2 => wipe σ2 vs = wipe σ vs ∧ tt σ2 H2 fun b H3 =>
    if b = true then te σ2 H3 fun y H4 => ∃ acc, H4 D = some (.lst acc) ∧ acc.length < sizeLine ∧ Nx (upd H4 D (.lst (acc ++ [y]))) else Nx H3)
section
variable {K : PySem.W.Frag} {J : It} {xs : List V} {P : Hp → Prop} {g : TG} {tt : TT} {te : TE} {vs : List Nat} {σ : L2.St} {H : Hp} {wi : TI} {Q : VK} {j : Nat}
theorem g_lc (h : wi σ H fun J H1 => LcB J g tt te vs σ H1 Q) : tLc wi g tt te vs σ H Q := h
theorem c_L {l : Addr} (hx : SqL K H l xs) (h : LcB (Itl K l) g tt te vs σ H Q) : ∃ a, V.ref l = .ref a ∧ (∃ xs, SqL K H a xs) ∧ LcB (Itl K a) g tt te vs σ H Q := ⟨l, rfl, ⟨xs, hx⟩, h⟩
theorem c_T {l : Addr} (hx : SqT K H l xs) (h : LcB (Itt K l) g tt te vs σ H Q) : ∃ a, V.ref l = .ref a ∧ (∃ xs, SqT K H a xs) ∧ LcB (Itt K a) g tt te vs σ H Q := ⟨l, rfl, ⟨xs, hx⟩, h⟩
theorem c_S {p : List Nat} (h : LcB (Its (S p)) g tt te vs σ H Q) : ∃ z, V.str (S p) = .str z ∧ LcB (Its z) g tt te vs σ H Q := ⟨_, rfl, h⟩
theorem c_R1 {n : Int} (hn : -100000 ≤ n ∧ n ≤ 100000) (h : LcB (Itr 0 n.toNat) g tt te vs σ H Q) : ∃ j : Int, [V.int n] = [.int j] ∧ -(2 ^ 62) ≤ j ∧ j < 2 ^ 62 ∧ LcB (Itr 0 j.toNat) g tt te vs σ H Q := ⟨n, rfl, by omega, by omega, h⟩
theorem c_R2 {m n : Int} (hm : -100000 ≤ m ∧ m ≤ 100000) (hn : -100000 ≤ n ∧ n ≤ 100000) (h : LcB (Itr m (n - m).toNat) g tt te vs σ H Q) : ∃ i j : Int, [V.int m, V.int n] = [.int i, .int j] ∧ (-(2 ^ 62) ≤ i ∧ i < 2 ^ 62 ∧ -(2 ^ 62) ≤ j ∧ j < 2 ^ 62) ∧ LcB (Itr i (j - i).toNat) g tt te vs σ H Q := ⟨m, n, rfl, ⟨by omega, by omega, by omega, by omega⟩, h⟩
/-- each turn that passes f gives an item; Pv: the items made so far -/
theorem lc_by (I : ItOf J xs P) (hP : ∀ H1, Ex H H1 → P H1) (hz : xs.length ≤ 10000) (Pv : Nat → List V → Hp → Prop) (h0 : Pv 0 [] H) (hm : ∀ i ys H1 H2, ExN H1 H2 → Pv i ys H1 → Pv i ys H2) (hw : ∀ x, wipe ((wipe σ vs).set j (some x)) vs = wipe σ vs)
    (hs : ∀ i x ys H1, xs[i]? = some x → Ex H H1 → Pv i ys H1 → ∀ (no : Hp → Prop) (yes : V → Hp → Prop), (∀ H2, Ex H1 H2 → Pv (i + 1) ys H2 → no H2) → (∀ y H2, Ex H1 H2 → Pv (i + 1) (ys ++ [y]) H2 → yes y H2) →
      tt ((wipe σ vs).set j (some x)) H1 fun b H3 => if b = true then te ((wipe σ vs).set j (some x)) H3 yes else no H3)
    (hd : ∀ D ys H1, H D = none → Ex H H1 → H1 D = some (.lst ys) → Pv xs.length ys H1 → Q (.ref D) H1) : LcB J (gName j) tt te vs σ H Q := by
  intro D nD
  refine ⟨fun i m H1 => m = xs.length - i ∧ i ≤ xs.length ∧ Ex H H1 ∧ ∃ ys, ys.length ≤ i ∧ H1 D = some (.lst ys) ∧ Pv i ys H1, ⟨_, rfl, Nat.zero_le _, Ex.new nD, [], Nat.zero_le _, upd_same, hm 0 [] _ _ (exn (Ex.new nD)) h0⟩, ?_⟩
  rintro i m H1 ⟨rfl, hi, e1, ys, hl, hD, p⟩
  by_cases hlt : i < xs.length
  · refine .inr ⟨I.go i H1 (hP H1 e1) hlt, fun H' => Ex H H' ∧ ∃ ys, ys.length ≤ i + 1 ∧ H' D = some (.lst ys) ∧ Pv (i + 1) ys H', fun H' ⟨e2, zs, hl2, hz2, p2⟩ => ⟨xs.length - (i + 1), by omega, rfl, hlt, e2, zs, hl2, hz2, p2⟩, fun x H' y => ?_⟩
    obtain ⟨e, y3⟩ := I.yld i H1 x H' (hP H1 e1) hlt y
    subst e
    refine ⟨hw x, ?_⟩
    refine hs i x ys _ y3 e1 p _ _ (fun H2 e2 p2 => ?_) (fun y2 H2 e2 p2 => ?_)
    · exact ⟨ext e1 e2, ys, by omega, e2 _ _ hD, p2⟩
    · refine ⟨ys, e2 _ _ hD, Nat.lt_of_lt_of_le (show ys.length < 100000 by omega) (by decide), Ex.mut (ext e1 e2) nD, ys ++ [y2], by simp; omega, upd_same, hm _ _ _ _ (exn_l (e2 _ _ hD)) p2⟩
  · have e : i = xs.length := by omega
    subst e
    exact .inl ⟨I.stop H1 (hP H1 e1), hd D ys H1 nD e1 hD p⟩
end

theorem sg_at {cs : List Nat} {i : Nat} {x : V} (h : (cs.map sg)[i]? = some x) : ∃ c, cs[i]? = some c ∧ x = sg c := by
  rw [List.getElem?_map] at h
  cases e : cs[i]? with
  | none => rw [e] at h; cases h
  | some c =>
    rw [e] at h
    exact ⟨c, rfl, (Option.some.inj h).symm⟩
section
variable {K : PySem.W.Frag} {σ : L2.St} {H : Hp} {D : Ends} {te : TE} {ta : TA} {i j : Nat} {Q : VK} {QB : Bool → Hp → Prop}
theorem g_asg2 (h : te σ H fun v H1 => D.nx ((σ.set i (some v)).set j (some v)) H1) : tAsg2 te (gName i) (gName j) D σ H := h
theorem g_tg2 {t : Addr} {v w : V} {QS : L2.St → Hp → Prop} (h : SqT K H t [v, w]) (q : QS ((σ.set i (some v)).set j (some w)) H) : gTup K 2 (gCons (gName i) (gCons (gName j) gNil)) (.ref t) σ H QS := ⟨t, [v, w], rfl, h, rfl, v, [w], rfl, w, [], rfl, rfl, q⟩
theorem g_yes (h : QB true H) : tYes σ H QB := h
theorem g_par (h : ta σ H fun vs H1 => ∃ v w, vs = [v, w] ∧ D.nx ((σ.set i (some v)).set j (some w)) H1) : tPar i j ta D σ H := h
theorem ans_go {tt : TT} {b : Bool} (h1 : ∀ Q : Bool → Hp → Prop, Q b H → tt σ H Q) (h2 : QB b H) : tt σ H QB := h1 QB h2
theorem g_two {v w : V} {P : V → V → Prop} (h : P v w) : ∃ a b, [v, w] = [a, b] ∧ P a b := ⟨v, w, rfl, h⟩
theorem g_aug {x : V} {ti : TIp} (hs : σ[i]? = some (some x)) (h : te σ H fun y H1 => ti x y H1 fun z H2 => D.nx (σ.set i (some z)) H2) : tAug i te ti D σ H := ⟨x, hs, h⟩
theorem g_ipI {f : Int → Int → Int} {a b : Int} (h : Q (.int (f a b)) H) : ipI f (.int a) (.int b) H Q := ⟨a, b, rfl, rfl, h⟩
theorem g_ni2 {c d : Nat} {t : Addr} (hd : d = c ∨ d = 46) (h : Q (.bl false) (upd H t (.tup [sg c, .str (Str.ofString ".")]))) : rIn K true (sg d) (.ref t) (upd H t (.tup [sg c, .str (Str.ofString ".")])) Q := by
  rw [dot_is] at h ⊢
  refine g_niU (cs := [c, 46]) (.inl (.inl upd_same)) ?_
  rw [decide_eq_true (by simpa using hd)]
  exact h
end

theorem g_star {K : PySem.W.Frag} {te : TE} {t : TA} {σ : L2.St} {H : Hp} {QA : List V → Hp → Prop} (h : te σ H fun x H1 => ∃ p xs, x = V.ref p ∧ (SqT K H1 p xs ∨ SqL K H1 p xs) ∧ t σ H1 fun ys H2 => QA (xs ++ ys) H2) : StX.tStar K te t σ H QA := h
theorem g_mkK {C : Addr} {n m : Nat} {sp : Sp} {gV : List V → List V → List V} {E : XK} {t tk : TA} {σ : L2.St} {H : Hp} {Q : VK} (h : t σ H fun vs H1 => tk σ H1 fun zs H2 => vs.length = n ∧ zs.length = m ∧ ∀ x dx, H2 x = none → H2 dx = none → dx ≠ x →
  sp (gV (.ref x :: vs) zs) (upd (upd H2 dx (.own x)) x (.ins C dx [])) (fun v H3 => v = .non ∧ Q (.ref x) H3) E) : tMakeK C n m sp gV E t tk σ H Q := h

theorem g_cutM {t u : TS} {D : Ends} {σ : L2.St} {H : Hp} (Mid : L2.St → Hp → Prop) (h1 : t { D with nx := Mid } σ H) (h2 : ∀ σ' H', Mid σ' H' → u D σ' H') : Evl.tCut t u D σ H := ⟨Mid, h1, h2⟩
theorem da_t {p q : Prop} [Decidable p] [Decidable q] (h : p) : decide q = decide (p ∧ q) := by simp [h]
theorem da_f {p q : Prop} [Decidable p] [Decidable q] (h : ¬ p) : false = decide (p ∧ q) := by simp [h]

/-- an instance made with a star -/
def rMkSK (C : Addr) (sp : SpK) (vs zs : List V) (H : Hp) (Q : VK) : Prop := ∀ x dx, H x = none → H dx = none → dx ≠ x → sp (.ref x :: vs) zs (upd (upd H dx (.own x)) x (.ins C dx [])) (fun v H3 => v = .non ∧ Q (.ref x) H3) E0
theorem g_mkSK {C : Addr} {sp : SpK} {t tk : TA} {σ : L2.St} {H : Hp} {Q : VK} (h : t σ H fun vs H1 => tk σ H1 fun zs H2 => rMkSK C sp vs zs H2 Q) : tMakeSK C sp E0 t tk σ H Q := h
def rRevS (x : V) (H : Hp) (Q : VK) : Prop := ∃ z, x = .str z ∧ z.length ≤ sizeLine ∧ Q (.str (revS z)) H
theorem g_revS {te : TE} {σ : L2.St} {H : Hp} {Q : VK} (h : te σ H fun x H1 => rRevS x H1 Q) : tRevS te σ H Q := h
theorem m_revS {p : List Nat} {H : Hp} {Q : VK} (hz : p.length ≤ 100000) (h : Q (.str (S p.reverse)) H) : rRevS (.str (S p)) H Q := ⟨S p, rfl, by rw [SX.S_len]; exact Evl.sz_of hz, h⟩
def rRevT (K : PySem.W.Frag) (x : V) (H : Hp) (Q : VK) : Prop := ∃ a xs, x = .ref a ∧ SqT K H a xs ∧ ∀ p, H p = none → Q (.ref p) (upd H p (.tup xs.reverse))
theorem g_revT {K : PySem.W.Frag} {te : TE} {σ : L2.St} {H : Hp} {Q : VK} (h : te σ H fun x H1 => rRevT K x H1 Q) : tRevT K te σ H Q := h
theorem m_revT {K : PySem.W.Frag} {a : Addr} {xs : List V} {H : Hp} {Q : VK} (hx : SqT K H a xs) (h : ∀ p, H p = none → Q (.ref p) (upd H p (.tup xs.reverse))) : rRevT K (.ref a) H Q := ⟨a, xs, rfl, hx, h⟩
def rRevL (K : PySem.W.Frag) (x : V) (H : Hp) (Q : VK) : Prop := ∃ a xs, x = .ref a ∧ SqL K H a xs ∧ ∀ p, H p = none → Q (.ref p) (upd H p (.lst xs.reverse))
theorem g_revL {K : PySem.W.Frag} {te : TE} {σ : L2.St} {H : Hp} {Q : VK} (h : te σ H fun x H1 => rRevL K x H1 Q) : tRevL K te σ H Q := h
theorem m_revL {K : PySem.W.Frag} {a : Addr} {xs : List V} {H : Hp} {Q : VK} (hx : SqL K H a xs) (h : ∀ p, H p = none → Q (.ref p) (upd H p (.lst xs.reverse))) : rRevL K (.ref a) H Q := ⟨a, xs, rfl, hx, h⟩
def rCmK (C : Addr) (ta : TA) (tk : TA) (n : Nat) (sp : SpK) (x : V) (σ : L2.St) (H : Hp) (Q : VK) : Prop := x = .ref C ∧ ta σ H fun vs H2 => tk σ H2 fun zs H3 => zs.length = n ∧ sp (.ref C :: vs) zs H3 Q E0
theorem g_cmK {C : Addr} {sp : SpK} {te : TE} {ta tk : TA} {n : Nat} {σ : L2.St} {H : Hp} {Q : VK} (h : te σ H fun x H1 => rCmK C ta tk n sp x σ H1 Q) : tCMethK C sp E0 te ta tk n σ H Q := h
theorem m_cmK {C : Addr} {sp : SpK} {ta tk : TA} {n : Nat} {σ : L2.St} {H : Hp} {Q : VK} (h : ta σ H fun vs H2 => tk σ H2 fun zs H3 => zs.length = n ∧ sp (.ref C :: vs) zs H3 Q E0) : rCmK C ta tk n sp (.ref C) σ H Q := ⟨rfl, h⟩

/-! ### stretches -/
def StAt (K : PySem.W.Frag) (H : Hp) (a : Addr) (s : Int × Int) : Prop := ∃ dx, H a = some (.ins (c_Stretch K) dx [("low", .int s.1), ("high", .int s.2)])
section
variable {K : PySem.W.Frag} {mg : Str → Option Value} {H H' : Hp} {a : Addr} {s : Int × Int} {Q : VK}
theorem StAt.nono (h : StAt K H a s) (e : ExN H H') : StAt K H' a s := by
  obtain ⟨dx, h⟩ := h
  exact ⟨dx, e _ _ (fun _ q => by cases q) h⟩
theorem StAt.mono (h : StAt K H a s) (e : Ex H H') : StAt K H' a s := h.nono (exn e)
theorem r_low (T : TX K mg) (h : StAt K H a s) (q : Q (.int s.1) H) : rFld K "low" (.ref a) H Q := by
  obtain ⟨dx, h⟩ := h
  exact r_fld h T.cl_Stretch T.no_Stretch_low lk0 q
theorem r_high (T : TX K mg) (h : StAt K H a s) (q : Q (.int s.2) H) : rFld K "high" (.ref a) H Q := by
  obtain ⟨dx, h⟩ := h
  exact r_fld h T.cl_Stretch T.no_Stretch_high (lk1 (by decide +kernel) lk0) q
end
/-! ### the stepper -/
-- MACROS
local macro_rules | `(tactic| fail "in") => `(tactic| dsimp only [cxOf, Cx.nox, Cx.wish, L2.start, List.map, List.length_cons, List.length_nil, Nat.reduceAdd, Nat.reduceSub, List.replicate_succ, List.replicate_zero, List.cons_append, List.nil_append, List.append_nil])
local macro_rules | `(tactic| fail "ds") => `(tactic| dsimp only [List.set_cons_zero, List.set_cons_succ, List.cons_append, List.nil_append, List.append_nil])
local macro_rules | `(tactic| fail "ex") => `(tactic| first | exact exr _ | assumption | (refine ext ?_ (by assumption); fail "ex") | (refine ext ?_ (Ex.new (by assumption)); fail "ex") | (refine Ex.mut ?_ (by assumption); fail "ex"))
local macro_rules | `(tactic| fail "st") => `(tactic| first | assumption | (refine StAt.mono (by assumption) ?_; fail "ex"))
local macro_rules | `(tactic| fail "ho") => `(tactic| first | assumption | (refine HoleAt.mono (by assumption) ?_; fail "ex"))
local macro_rules | `(tactic| fail "si") => `(tactic| first | assumption | (refine SiteAt.mono (by assumption) ?_; fail "ex"))
local macro_rules | `(tactic| fail "bo") => `(tactic| first | assumption | (refine BoardAt.mono (by assumption) ?_; fail "ex"))
local macro_rules | `(tactic| fail "go1") => `(tactic| with_reducible first
  | apply g_seq | apply g_next | apply g_ret | apply g_drop | apply g_asg | apply g_asg2 | apply g_ifs | (refine g_var (by with_unfolding_all rfl) ?_) | apply g_c | apply g_op | apply g_rI0 | apply g_eqI | apply g_neI | apply g_eqS | apply g_neS
  | apply g_test | apply g_B | apply g_bl | apply g_and | apply g_or | apply g_not | apply g_andV | apply g_orV | apply g_notV | apply g_ife | apply g_nil | apply g_cons | apply g_call | apply g_mkSt | apply g_make | apply g_cb | apply g_bm | apply g_fld | apply g_con | apply g_met | apply g_chain | apply g_put | apply g_tup | apply g_lst
  | apply g_isI | apply g_isB | apply g_isS | apply g_isNon | apply g_notNon | apply g_str | apply g_inS | apply g_notInS | apply g_un | apply g_sl | apply g_pn | apply g_ps | apply g_in | apply g_for | apply g_iL | apply g_iT | apply g_iS | apply g_iR1 | apply g_iR2 | apply g_lc | apply w_S | apply c_S | apply g_yes | apply g_par | apply g_two | (refine g_aug (by with_unfolding_all rfl) ?_) | apply g_ipI | apply g_mkK | apply g_star | apply g_mkSK | apply g_revS | apply g_revT | apply g_revL | apply g_cmK | apply m_cmK | apply g_lc2 | apply g_lenSet
  | apply iteT | apply iteF | (refine y_if (by decide) ?_) | (refine n_if (by decide) ?_)
  | (refine sp_within (by fail "st") (by fail "st") ?_) | (refine met_St (by fail "st") (by decide +kernel) (by decide +kernel) ?_)
  | (refine r_must (by assumption) (by fail "ho") ?_; intro m hm) | (refine r_may (by assumption) (by fail "ho") ?_; intro m hm) | (refine r_site (by assumption) (by fail "ho") ?_) | (refine r_number (by assumption) (by fail "ho") ?_) | (refine r_hdepth (by assumption) (by fail "ho") ?_) | (refine r_hpat (by assumption) (by fail "ho") ?_) | (refine r_kind (by assumption) (by fail "ho") ?_)
  | (refine r_sname (by assumption) (by fail "si") ?_) | (refine r_spic (by assumption) (by fail "si") ?_) | (refine r_skind (by assumption) (by fail "si") ?_) | (refine r_sdepth (by assumption) (by fail "si") ?_) | (refine r_spat (by assumption) (by fail "si") ?_) | (refine r_sparts (by assumption) (by fail "si") ?_; intro pt hpt) | (refine r_sholes (by assumption) (by fail "si") ?_; intro hl has hhl hhas)
  | (refine r_blayers (by assumption) (by fail "bo") ?_) | (refine r_bsites (by assumption) (by fail "bo") ?_; intro st sts hst hsts) | (refine r_bholes (by assumption) (by fail "bo") ?_; intro bl bhs hbl hbhs)
  | (refine r_low (by assumption) (by fail "st") ?_) | (refine r_high (by assumption) (by fail "st") ?_))
local macro_rules | `(tactic| fail "go") => `(tactic| ((repeat (first | fail "go1" | (fail "ds"; fail "go1"))); (try fail "ds")))
local macro_rules | `(tactic| fail "sz") => `(tactic| (refine Evl.sz_of ?_; simp only [List.length_cons, List.length_nil, List.length_append, List.length_map, List.length_take, List.length_drop]; omega))
-- END MACROS
/-! ### is_integer -/
def spIsInt : Sp := fun vs H Q _ => ∃ v a b : Int, vs = [.int v, .int a, .int b] ∧ Q (.bl (decide (a ≤ v ∧ v ≤ b))) H
theorem sc_is_integer : FnScope ["value", "least", "most"] ["value", "least", "most"] (defScope s_is_integer) := C8.fnScope_by (by decide +kernel)
section
variable {P : Program} {w : World} {K : PySem.W.Frag} {mg : Str → Option Value} {base : Heap}
theorem ok_is_integer (T : TX K mg) : C8.Cal P w K mg base 1 "is_integer" spIsInt [] := by
  refine calD T.d_is_integer T.g_is_integer sc_is_integer (fun _ _ _ _ _ _ us hl => match us, hl with | [_, _, _], _ => rfl) (fun vs H Q E h => ?_) (fun cdv A outer s H vs Q E hr h => ?_)
  · obtain ⟨v, a, b, rfl, _⟩ := h
    rfl
  · obtain ⟨v, a, b, rfl, k⟩ := h
    refine ⟨_, (pss_one (ps_ret (pe_and (pe_callB call_isi (by rfl) T.b_isinstance (by decide +kernel) (pa_cons (pv 0) (pa_cons (pe_bltn (v := .ty "int") (by rfl) T.b_int (by decide +kernel) rfl) pa_nil))) (pe_and (pe_not (pe_callB call_isi (by rfl) T.b_isinstance (by decide +kernel) (pa_cons (pv 0) (pa_cons (pe_bltn (v := .ty "bool") (by rfl) T.b_bool (by decide +kernel) rfl) pa_nil)))) (pe_one (pe_chain op_le op_le (pv 1) (pv 0) (pv 2))))))), ?_⟩
    fail "go"
    refine g_if (fun h1 => ?_) (fun h1 => ?_)
    · fail "go"
      rw [show decide (v ≤ b) = decide (a ≤ v ∧ v ≤ b) from by simp [h1]]
      exact k
    · rw [show false = decide (a ≤ v ∧ v ≤ b) from by simp [h1]]
      exact k
end
end PN

/-! Stretches, nets, spans, rooms. -/
namespace PN
set_option maxRecDepth 100000
set_option maxHeartbeats 4000000
open PySem PySem.Spec PyProof.Rows L2
open Evl (Ex Ex.new Ex.mut ex_l ex_t fresh_back)
-- MACROS
local macro_rules | `(tactic| fail "in") => `(tactic| dsimp only [cxOf, Cx.nox, Cx.wish, L2.start, List.map, List.length_cons, List.length_nil, Nat.reduceAdd, Nat.reduceSub, List.replicate_succ, List.replicate_zero, List.cons_append, List.nil_append, List.append_nil])
local macro_rules | `(tactic| fail "ds") => `(tactic| dsimp only [List.set_cons_zero, List.set_cons_succ, List.cons_append, List.nil_append, List.append_nil])
local macro_rules | `(tactic| fail "ex") => `(tactic| first | exact exr _ | assumption | (refine ext ?_ (by assumption); fail "ex") | (refine ext ?_ (Ex.new (by assumption)); fail "ex") | (refine Ex.mut ?_ (by assumption); fail "ex"))
local macro_rules | `(tactic| fail "st") => `(tactic| first | assumption | (refine StAt.mono (by assumption) ?_; fail "ex"))
local macro_rules | `(tactic| fail "ho") => `(tactic| first | assumption | (refine HoleAt.mono (by assumption) ?_; fail "ex"))
local macro_rules | `(tactic| fail "si") => `(tactic| first | assumption | (refine SiteAt.mono (by assumption) ?_; fail "ex"))
local macro_rules | `(tactic| fail "bo") => `(tactic| first | assumption | (refine BoardAt.mono (by assumption) ?_; fail "ex"))
local macro_rules | `(tactic| fail "go1") => `(tactic| with_reducible first
  | apply g_seq | apply g_next | apply g_ret | apply g_drop | apply g_asg | apply g_asg2 | apply g_ifs | (refine g_var (by with_unfolding_all rfl) ?_) | apply g_c | apply g_op | apply g_rI0 | apply g_eqI | apply g_neI | apply g_eqS | apply g_neS
  | apply g_test | apply g_B | apply g_bl | apply g_and | apply g_or | apply g_not | apply g_andV | apply g_orV | apply g_notV | apply g_ife | apply g_nil | apply g_cons | apply g_call | apply g_mkSt | apply g_make | apply g_cb | apply g_bm | apply g_fld | apply g_con | apply g_met | apply g_chain | apply g_put | apply g_tup | apply g_lst
  | apply g_isI | apply g_isB | apply g_isS | apply g_isNon | apply g_notNon | apply g_str | apply g_inS | apply g_notInS | apply g_un | apply g_sl | apply g_pn | apply g_ps | apply g_in | apply g_for | apply g_iL | apply g_iT | apply g_iS | apply g_iR1 | apply g_iR2 | apply g_lc | apply w_S | apply c_S | apply g_yes | apply g_par | apply g_two | (refine g_aug (by with_unfolding_all rfl) ?_) | apply g_ipI | apply g_mkK | apply g_star | apply g_mkSK | apply g_revS | apply g_revT | apply g_revL | apply g_cmK | apply m_cmK | apply g_lc2 | apply g_lenSet
  | apply iteT | apply iteF | (refine y_if (by decide) ?_) | (refine n_if (by decide) ?_)
  | (refine sp_within (by fail "st") (by fail "st") ?_) | (refine met_St (by fail "st") (by decide +kernel) (by decide +kernel) ?_)
  | (refine r_must (by assumption) (by fail "ho") ?_; intro m hm) | (refine r_may (by assumption) (by fail "ho") ?_; intro m hm) | (refine r_site (by assumption) (by fail "ho") ?_) | (refine r_number (by assumption) (by fail "ho") ?_) | (refine r_hdepth (by assumption) (by fail "ho") ?_) | (refine r_hpat (by assumption) (by fail "ho") ?_) | (refine r_kind (by assumption) (by fail "ho") ?_)
  | (refine r_sname (by assumption) (by fail "si") ?_) | (refine r_spic (by assumption) (by fail "si") ?_) | (refine r_skind (by assumption) (by fail "si") ?_) | (refine r_sdepth (by assumption) (by fail "si") ?_) | (refine r_spat (by assumption) (by fail "si") ?_) | (refine r_sparts (by assumption) (by fail "si") ?_; intro pt hpt) | (refine r_sholes (by assumption) (by fail "si") ?_; intro hl has hhl hhas)
  | (refine r_blayers (by assumption) (by fail "bo") ?_) | (refine r_bsites (by assumption) (by fail "bo") ?_; intro st sts hst hsts) | (refine r_bholes (by assumption) (by fail "bo") ?_; intro bl bhs hbl hbhs)
  | (refine r_low (by assumption) (by fail "st") ?_) | (refine r_high (by assumption) (by fail "st") ?_))
local macro_rules | `(tactic| fail "go") => `(tactic| ((repeat (first | fail "go1" | (fail "ds"; fail "go1"))); (try fail "ds")))
local macro_rules | `(tactic| fail "sz") => `(tactic| (refine Evl.sz_of ?_; simp only [List.length_cons, List.length_nil, List.length_append, List.length_map, List.length_take, List.length_drop]; omega))
-- END MACROS
section
variable {P : Program} {w : World} {K : PySem.W.Frag} {mg : Str → Option Value} {base : Heap}

/-! ### Stretch -/
def spStInit (K : PySem.W.Frag) : Sp := fun vs H Q _ => ∃ (a dx : Addr) (lo hi : Int), vs = [.ref a, .int lo, .int hi] ∧ 1 ≤ lo ∧ lo ≤ hi ∧ hi ≤ 99 ∧ H a = some (.ins (c_Stretch K) dx []) ∧ Q .non (upd (upd H a (.ins (c_Stretch K) dx [("low", .int lo)])) a (.ins (c_Stretch K) dx [("low", .int lo), ("high", .int hi)]))
theorem sc_stretch_init : FnScope ["self", "low", "high"] ["self", "low", "high"] (defScope s_stretch_init) := C8.fnScope_by (by decide +kernel)
theorem ok_stretch_init (T : TX K mg) : C8.Mak P w K mg base 2 "Stretch" (c_Stretch K) (spStInit K) [] := by
  refine makD T.d_stretch_init T.mk_Stretch T.g_Stretch sc_stretch_init (fun _ _ _ _ _ _ us hl => match us, hl with | [_, _, _], _ => rfl) (fun vs H Q E h => ?_) (fun cdv A outer s H vs Q E hr h => ?_)
  · obtain ⟨a, dx, lo, hi, rfl, _⟩ := h
    rfl
  · obtain ⟨a, dx, lo, hi, rfl, h1, h2, h3, ha, k⟩ := h
    refine ⟨_, (pss_cons (ps_if (PW.pt (pw_or (pt_not (pt_val (C8.pe_c (ok_is_integer T) hr (by decide) (by rfl) (pa_cons (pv 1) (pa_cons pe_int (pa_cons (C8.pe_gc (by rfl) T.vMOST) pa_nil)))))) (pw_or1 (pt_not (pt_val (C8.pe_c (ok_is_integer T) hr (by decide) (by rfl) (pa_cons (pv 2) (pa_cons pe_int (pa_cons (C8.pe_gc (by rfl) T.vMOST) pa_nil))))))))) pss_never pss_nil)
      (pss_cons (ps_if (pt_cmpR op_gt (pv 1) (pv 2) (nomark _)) pss_never pss_nil)
      (pss_cons (ps_fld (pv 0) (pv 1) rfl)
      (pss_one (ps_fld (pv 0) (pv 2) rfl))))), ?_⟩
    fail "in"
    fail "go"
    refine ⟨_, _, _, rfl, ?_⟩
    rw [decide_eq_true (by omega : 1 ≤ lo ∧ lo ≤ 99)]
    fail "go"
    refine ⟨_, _, _, rfl, ?_⟩
    rw [decide_eq_true (by omega : 1 ≤ hi ∧ hi ≤ 99)]
    fail "go"
    rw [decide_eq_false (by omega : ¬ hi < lo)]
    fail "go"
    refine r_put ha T.cl_Stretch T.no_Stretch_low (by show 0 < 1000; decide) pun ?_
    fail "go"
    refine r_put upd_same T.cl_Stretch T.no_Stretch_high (by show 1 < 1000; decide) (pu1 (by decide +kernel) pun) ?_
    fail "go"
    exact k
/-- a stretch is made -/
def rMkSt (K : PySem.W.Frag) (x y : V) (H : Hp) (Q : VK) : Prop := ∀ a dx, H a = none → H dx = none → dx ≠ a → spStInit K [.ref a, x, y] (upd (upd H dx (.own a)) a (.ins (c_Stretch K) dx [])) (fun v H2 => v = .non ∧ Q (.ref a) H2) C8.E0
theorem g_mkSt {σ : L2.St} {H : Hp} {Q : VK} {ta tb : TE} (h : ta σ H fun x H1 => tb σ H1 fun y H2 => rMkSt K x y H2 Q) : tMake (c_Stretch K) (spStInit K) [] C8.E0 (tCons ta (tCons tb tNil)) σ H Q := h
theorem m_St {H : Hp} {Q : VK} {lo hi : Int} (h1 : 1 ≤ lo) (h2 : lo ≤ hi) (h3 : hi ≤ 99) (q : ∀ x H', H x = none → Ex H H' → StAt K H' x (lo, hi) → Q (.ref x) H') : rMkSt K (.int lo) (.int hi) H Q := by
  intro x dx nx ndx ne
  refine ⟨x, dx, lo, hi, rfl, h1, h2, h3, upd_same, rfl, q x _ nx (fun b o e => ?_) ⟨dx, upd_same⟩⟩
  have n1 : b ≠ x := fun z => by rw [z, nx] at e; cases e
  have n2 : b ≠ dx := fun z => by rw [z, ndx] at e; cases e
  rw [upd_ne n1, upd_ne n1, upd_ne n1, upd_ne n2]
  exact e
def spStEq (K : PySem.W.Frag) : Sp := fun vs H Q _ => ∃ (a b : Addr) (s t : Int × Int), vs = [.ref a, .ref b] ∧ StAt K H a s ∧ StAt K H b t ∧ Q (.bl (decide (s = t))) H
theorem sc_stretch_eq : FnScope ["self", "other"] ["self", "other"] (defScope s_stretch_eq) := C8.fnScope_by (by decide +kernel)
theorem isi_own {H : Hp} {Q : VK} {C a dx : Addr} {fs : List (Str × V)} (c : Cls K C) (i : Isi K C) (h : H a = some (.ins C dx fs)) (q : Q (.bl true) H) : rIsi K [.ref a, .ref C] H Q :=
  ⟨_, _, _, _, true, rfl, .own C, .base (.ins h c i.ha i.hn i.htk i.hm), kit_own, q⟩
theorem ok_stretch_eq (T : TX K mg) : ∃ fd, FnOk P w K mg base L2.CX0 1 (f_stretch_eq K) fd ["self", "other"] (spStEq K) ∧ Binds K fd ["self", "other"] [] := by
  refine fnRD T.d_stretch_eq sc_stretch_eq (fun _ _ _ _ _ _ us hl => match us, hl with | [_, _], _ => rfl) (fun vs H Q E h => ?_) (fun cdv A outer s H vs Q E hr h => ?_)
  · obtain ⟨a, b, s, t, rfl, _⟩ := h
    rfl
  · obtain ⟨a, b, s, t, rfl, ha, hb, k⟩ := h
    refine ⟨_, (pss_one (ps_ret (pe_and (pe_callB call_isi (by rfl) T.b_isinstance (by decide +kernel) (pa_cons (pv 1) (pa_cons (C8.pe_gc (v := .ref (c_Stretch K)) (by rfl) ⟨_, T.g_Stretch, rfl⟩) pa_nil))) (pe_and (pe_cmpR op_eq (pe_fld (pv 0) rfl) (pe_fld (pv 1) rfl) (nomark _)) (pe_one (pe_cmpR op_eq (pe_fld (pv 0) rfl) (pe_fld (pv 1) rfl) (nomark _))))))), ?_⟩
    fail "in"
    fail "go"
    obtain ⟨dy, hb'⟩ := id hb
    refine isi_own T.cl_Stretch T.isi_Stretch hb' ?_
    fail "go"
    refine g_if (fun h1 => ?_) (fun h1 => ?_)
    · fail "go"
      rw [show decide (s.2 = t.2) = decide (s = t) from by rw [decide_eq_decide, Prod.ext_iff]; simp [h1]]
      exact k
    · rw [show false = decide (s = t) from by
        symm
        rw [decide_eq_false_iff_not]
        exact fun e => h1 (by rw [e])]
      exact k
theorem fr_stretch_eq (T : TX K mg) : FnR P w K mg base L2.CX0 1 (f_stretch_eq K) (spStEq K) := by
  obtain ⟨fd, F, b⟩ := ok_stretch_eq (P := P) (w := w) (base := base) T
  exact (F.raw b .nil).imp fun vs H Q E h => by rw [List.append_nil]; exact h
def spWithin (K : PySem.W.Frag) : Sp := fun vs H Q _ => ∃ (a b : Addr) (s t : Int × Int), vs = [.ref a, .ref b] ∧ StAt K H a s ∧ StAt K H b t ∧ Q (.bl (decide (t.1 ≤ s.1 ∧ s.2 ≤ t.2))) H
theorem sc_stretch_within : FnScope ["self", "other"] ["self", "other"] (defScope s_stretch_within) := C8.fnScope_by (by decide +kernel)
theorem ok_stretch_within (T : TX K mg) : C8.Met P w K mg base 1 (c_Stretch K) "within" (spWithin K) [] := by
  refine metD T.d_stretch_within T.cl_Stretch T.me_stretch_within sc_stretch_within (fun _ _ _ _ _ _ us hl => match us, hl with | [_, _], _ => rfl) (fun vs H Q E h => ?_) (fun cdv A outer s H vs Q E hr h => ?_)
  · obtain ⟨a, b, s, t, rfl, _⟩ := h
    rfl
  · obtain ⟨a, b, s, t, rfl, ha, hb, k⟩ := h
    refine ⟨_, (pss_one (ps_ret (pe_and (pe_cmpR op_le (pe_fld (pv 1) rfl) (pe_fld (pv 0) rfl) (nomark _)) (pe_one (pe_cmpR op_le (pe_fld (pv 0) rfl) (pe_fld (pv 1) rfl) (nomark _)))))), ?_⟩
    fail "in"
    fail "go"
    refine g_if (fun h1 => ?_) (fun h1 => ?_)
    · fail "go"
      rw [show decide (s.2 ≤ t.2) = decide (t.1 ≤ s.1 ∧ s.2 ≤ t.2) from by simp [h1]]
      exact k
    · rw [show false = decide (t.1 ≤ s.1 ∧ s.2 ≤ t.2) from by simp [h1]]
      exact k
theorem sp_within {H : Hp} {Q : VK} {E : XK} {a b : Addr} {s t : Int × Int} (h1 : StAt K H a s) (h2 : StAt K H b t) (q : Q (.bl (decide (t.1 ≤ s.1 ∧ s.2 ≤ t.2))) H) : spWithin K [.ref a, .ref b] H Q E := ⟨a, b, s, t, rfl, h1, h2, q⟩
theorem met_St {H : Hp} {Q : VK} {E : XK} {a : Addr} {s : Int × Int} {m : Str} {t : TA} {sp : Sp} {dvs : List V} {σ : L2.St} (h : StAt K H a s) (h1 : (m == ("low" : Str)) = false) (h2 : (m == ("high" : Str)) = false) (q : t σ H fun vs H2 => sp (.ref a :: (vs ++ dvs)) H2 Q E) : rMet (c_Stretch K) m t sp dvs E (.ref a) σ H Q := by
  obtain ⟨dx, h⟩ := h
  exact ⟨a, dx, _, rfl, h, lk1 h1 (lk1 h2 lkn), q⟩
def spTurned (K : PySem.W.Frag) : Sp := fun vs H Q _ => ∃ (a : Addr) (n : Int) (s : Int × Int), vs = [.ref a, .int n] ∧ StAt K H a s ∧ 1 ≤ s.1 ∧ s.1 ≤ s.2 ∧ s.2 ≤ n ∧ n ≤ 99 ∧ ∀ x H', Ex H H' → StAt K H' x (turn n s) → Q (.ref x) H'
theorem sc_stretch_turned : FnScope ["self", "layers"] ["self", "layers"] (defScope s_stretch_turned) := C8.fnScope_by (by decide +kernel)
theorem ok_stretch_turned (T : TX K mg) : C8.Met P w K mg base 4 (c_Stretch K) "turned" (spTurned K) [] := by
  refine metD T.d_stretch_turned T.cl_Stretch T.me_stretch_turned sc_stretch_turned (fun _ _ _ _ _ _ us hl => match us, hl with | [_, _], _ => rfl) (fun vs H Q E h => ?_) (fun cdv A outer s H vs Q E hr h => ?_)
  · obtain ⟨a, n, s, rfl, _⟩ := h
    rfl
  · obtain ⟨a, n, s, rfl, ha, h1, h2, h3, h4, k⟩ := h
    refine ⟨_, (pss_one (ps_ret (C8.pe_mk (ok_stretch_init T) hr (by decide) (by rfl) (pa_cons (pe_op op_sub (pe_op op_add (pv 1) pe_int) (pe_fld (pv 0) rfl)) (pa_cons (pe_op op_sub (pe_op op_add (pv 1) pe_int) (pe_fld (pv 0) rfl)) pa_nil))))), ?_⟩
    fail "in"
    fail "go"
    exact m_St (by omega) (by omega) (by omega) fun x H' _ e q => k x H' e q
/-! ### nets -/
/-- for over a text -/
theorem for_str {p : List Nat} {g : TG} {tb : TS} {D : Ends} {σ : L2.St} {H : Hp} (Pv : Nat → L2.St → Hp → Prop) (h0 : Pv 0 σ H)
    (hs : ∀ i c σ H, p[i]? = some c → Pv i σ H → g (.str (S [c])) σ H fun σ2 H2 => tb { D with nx := Pv (i + 1), ct := Pv (i + 1), bk := D.nx } σ2 H2) (hd : ∀ σ H, Pv p.length σ H → D.nx σ H) :
    ∃ W : Nat → Nat → L2.St → Hp → Prop, (∃ m, W 0 m σ H) ∧ ∀ i m σ H, W i m σ H →
      ((Its (S p)).stop i H ∧ D.nx σ H) ∨ ((Its (S p)).go i H ∧ ∃ N : L2.St → Hp → Prop, (∀ σ' H', N σ' H' → ∃ m', m' < m ∧ W (i + 1) m' σ' H') ∧ ∀ x H', (Its (S p)).yld i H x H' → g x σ H' fun σ2 H2 => tb { D with nx := N, ct := N, bk := D.nx } σ2 H2) := by
  refine ⟨fun i m σ H => m = p.length - i ∧ i ≤ p.length ∧ Pv i σ H, ⟨p.length, by simp, Nat.zero_le _, h0⟩, ?_⟩
  rintro i m σ H ⟨rfl, hi, q⟩
  have sz : (S p).cps.size = p.length := by simp [S, SX.S]
  by_cases hlt : i < p.length
  · refine .inr ⟨by show i < (S p).cps.size; rw [sz]; exact hlt, Pv (i + 1), fun σ' H' p' => ⟨p.length - (i + 1), by omega, rfl, hlt, p'⟩, fun x H' y => ?_⟩
    obtain ⟨e, c, hc, ex⟩ := y
    subst e ex
    exact hs i c σ _ (by simpa [S, SX.S] using hc) q
  · have e : i = p.length := by omega
    subst e
    exact .inl ⟨by show (S p).cps.size ≤ _; rw [sz]; exact Nat.le_refl _, hd σ H q⟩
def spNets (K : PySem.W.Frag) : Sp := fun vs H Q _ => ∃ p : List Nat, vs = [.str (S p)] ∧ p.length ≤ 1000 ∧ ∀ l H', Ex H H' → H l = none → H' l = some (.lst ((netsOf p).map sg)) → Q (.ref l) H'
theorem sc_nets : FnScope ["picture", "found", "sign"] ["picture"] (defScope s_nets) := C8.fnScope_by (by decide +kernel)
theorem ok_nets (T : TX K mg) : C8.Cal P w K mg base 1 "nets" (spNets K) [] := by
  refine calD T.d_nets T.g_nets sc_nets (fun _ _ _ _ _ _ us hl => match us, hl with | [_], _ => rfl) (fun vs H Q E h => ?_) (fun cdv A outer s H vs Q E hr h => ?_)
  · obtain ⟨p, rfl, _⟩ := h
    rfl
  · obtain ⟨p, rfl, hz, k⟩ := h
    refine ⟨_, (pss_cons (ps_set (i := 1) sc_nets.nd rfl (by first | exact Or.inl rfl | exact Or.inr rfl) (pe_lst pa_nil))
      (pss_cons (ps_for PassesOwn.never rfl (pi_str (pv 0)) (pg_name (i := 2) sc_nets.nd rfl (by first | exact Or.inl rfl | exact Or.inr rfl)) (pss_one (ps_if (PW.pt (pw_and (pt_cmpR op_ne (pv 2) (C8.pe_gc (by rfl) T.vCLEAR) (nomark _)) (pw_and1 (pt_cmpR op_notIn_seq (pv 2) (pv 1) rfl)))) (pss_one (ps_expr (pe_bm PySem.F.plainAttrs_list PySem.F.slot_list_append PySem.F.type_list_append mt_append (pv 1) (pa_cons (pv 2) pa_nil)))) pss_nil)))
      (pss_one (ps_ret (pv 1))))), ?_⟩
    fail "in"
    fail "go"
    refine ⟨by fail "sz", fun l nl => ?_⟩
    refine ⟨_, rfl, S p, rfl, for_str (p := p) (fun i σ H' => ∃ z, σ = [some (.str (S p)), some (.ref l), z] ∧ Ex H H' ∧ H' l = some (.lst ((netsOf (p.take i)).map sg))) ⟨none, rfl, Ex.new nl, upd_same⟩ ?_ ?_⟩
    · rintro i c σ H1 hi ⟨z, rfl, e1, hl⟩
      have ilt : i < p.length := (List.getElem?_eq_some_iff.mp hi).1
      have et : p.take (i + 1) = p.take i ++ [c] := by rw [List.take_add_one, hi]; rfl
      have hn := nets_len (p.take i)
      rw [List.length_take] at hn
      show tIfS _ _ _ _ _ _
      fail "go"
      rw [sg_dot]
      refine g_ifn (fun h1 => ?_) (fun h1 => ?_)
      · fail "go"
        refine g_niL (cs := netsOf (p.take i)) (.inl (.inl hl)) ?_
        fail "go"
        refine g_ifn (fun h2 => ?_) (fun h2 => ?_)
        · fail "go"
          refine g_lst' (.inl (.inl hl)) ?_
          fail "go"
          refine g_app hl (by rw [List.length_map]; omega) ?_
          fail "go"
          refine ⟨_, rfl, Ex.mut e1 nl, ?_⟩
          rw [upd_same, et, netsOf_snoc, if_pos ⟨h1, h2⟩, List.map_append]
          rfl
        · fail "go"
          exact ⟨_, rfl, e1, by rw [hl, et, netsOf_snoc, if_neg (fun q => q.2 h2)]⟩
      · fail "go"
        exact ⟨_, rfl, e1, by rw [hl, et, netsOf_snoc, if_neg (fun q => q.1 h1)]⟩
    · rintro σ H1 ⟨z, rfl, e1, hl⟩
      fail "go"
      rw [List.take_length] at hl
      exact k l H1 e1 nl hl

/-! ### span, mixed, room -/
def spSpan (K : PySem.W.Frag) : Sp := fun vs H Q _ => ∃ (p : List Nat) (c : Nat), vs = [.str (S p), .str (S [c])] ∧ c ∈ p ∧ p.length ≤ 99 ∧ ∀ x H', Ex H H' → StAt K H' x (spanOf p c) → Q (.ref x) H'
theorem sc_span : FnScope ["picture", "net"] ["picture", "net"] (defScope s_span) := C8.fnScope_by (by decide +kernel)
theorem ok_span (T : TX K mg) : C8.Cal P w K mg base 4 "span" (spSpan K) [] := by
  refine calD T.d_span T.g_span sc_span (fun _ _ _ _ _ _ us hl => match us, hl with | [_, _], _ => rfl) (fun vs H Q E h => ?_) (fun cdv A outer s H vs Q E hr h => ?_)
  · obtain ⟨p, c, rfl, _⟩ := h
    rfl
  · obtain ⟨p, c, rfl, hc, hz, k⟩ := h
    refine ⟨_, (pss_one (ps_ret (C8.pe_mk (ok_stretch_init T) hr (by decide) (by rfl) (pa_cons (pe_op op_add (pe_bm PySem.F.plainAttrs_str PySem.F.slot_str_find PySem.F.type_str_find mt_findN (pv 0) (pa_cons (pv 1) pa_nil)) pe_int) (pa_cons (pe_op op_add (pe_bm PySem.F.plainAttrs_str PySem.F.slot_str_rfind PySem.F.type_str_rfind mt_rfindN (pv 0) (pa_cons (pv 1) pa_nil)) pe_int) pa_nil))))), ?_⟩
    have l1 := low_ge p c
    have l2 := low_le_high hc
    have l3 := high_le p c
    unfold lowOf at l1 l2
    unfold highOf at l2 l3
    fail "in"
    fail "go"
    refine g_find hc ?_
    fail "go"
    refine g_rfind hc ?_
    fail "go"
    refine m_St (by omega) (by omega) (by omega) fun x H' _ e q => k x H' e ?_
    have e2 : spanOf p c = ((p.idxOf c : Int) + 1, (p.length : Int) - (p.reverse.idxOf c : Int) - 1 + 1) := by
      unfold spanOf lowOf highOf
      rw [Int.sub_add_cancel]
    rw [e2]
    exact q
def spMixed (K : PySem.W.Frag) : Sp := fun vs H Q _ => ∃ p : List Nat, vs = [.str (S p)] ∧ NonMixed p ∧ p.length ≤ 99 ∧ ∀ H', Ex H H' → Q .non H'
theorem sc_mixed : FnScope ["picture", "net", "own", "sign"] ["picture"] (defScope s_mixed) := C8.fnScope_by (by decide +kernel)
theorem ok_mixed (T : TX K mg) : C8.Cal P w K mg base 5 "mixed" (spMixed K) [] := by
  refine calD T.d_mixed T.g_mixed sc_mixed (fun _ _ _ _ _ _ us hl => match us, hl with | [_], _ => rfl) (fun vs H Q E h => ?_) (fun cdv A outer s H vs Q E hr h => ?_)
  · obtain ⟨p, rfl, _⟩ := h
    rfl
  · obtain ⟨p, rfl, hn, hz, k⟩ := h
    refine ⟨_, (pss_cons (ps_for PassesOwn.never rfl (pi_list (C8.pe_c (ok_nets T) hr (by decide) (by rfl) (pa_cons (pv 0) pa_nil))) (pg_name (i := 1) sc_mixed.nd rfl (by first | exact Or.inl rfl | exact Or.inr rfl)) (pss_cons (ps_set (i := 2) sc_mixed.nd rfl (by first | exact Or.inl rfl | exact Or.inr rfl) (C8.pe_c (ok_span T) hr (by decide) (by rfl) (pa_cons (pv 0) (pa_cons (pv 1) pa_nil))))
      (pss_one (ps_for PassesOwn.never rfl (pi_str (pe_slice C8.sl_txt (pv 0) (po_some (pe_op op_sub (pe_fld (pv 2) rfl) pe_int)) (po_some (pe_fld (pv 2) rfl)))) (pg_name (i := 3) sc_mixed.nd rfl (by first | exact Or.inl rfl | exact Or.inr rfl)) (pss_one (ps_if (pt_cmpR op_notIn_seq (pv 3) (pe_tup (pa_cons (pv 1) (pa_cons (C8.pe_gc (by rfl) T.vCLEAR) pa_nil))) rfl) pss_never pss_nil))))))
      (pss_one (ps_ret pe_non))), ?_⟩
    fail "in"
    fail "go"
    refine ⟨p, rfl, by omega, fun l H1 e1 nl hl => ?_⟩
    fail "go"
    refine w_L (.inl (.inl hl)) ?_
    refine loop_by it_l (fun i σ H' => ∃ y z u, σ = [some (.str (S p)), y, z, u] ∧ Ex H1 H') ⟨none, none, none, rfl, exr _⟩ (fun i σ H' _ ⟨_, _, _, _, e⟩ => .inl (.inl (e _ _ hl))) ?_ ?_
    · rintro i x σ H2 hi ⟨y, z, u, rfl, e2⟩
      obtain ⟨c, hc, rfl⟩ := sg_at hi
      have hm := (mem_nets p c).mp (List.mem_of_getElem? hc)
      have b1 := low_ge p c
      have b2 := low_le_high hm.1
      have b3 := high_le p c
      show tSeq _ _ _ _ _
      fail "go"
      refine ⟨p, c, rfl, hm.1, hz, fun x H3 e3 hx => ?_⟩
      fail "go"
      refine g_slT (by omega) (by show 0 ≤ lowOf p c - 1; omega) (by show lowOf p c - 1 ≤ highOf p c; omega) b3 ?_
      fail "go"
      refine loop_by it_s (fun i σ H' => ∃ u, σ = [some (.str (S p)), some (sg c), some (.ref x), u] ∧ Ex H1 H') ⟨_, rfl, ext e2 e3⟩ (fun _ _ _ _ _ => trivial) ?_ ?_
      · rintro i x σ H4 hi ⟨u, rfl, e4⟩
        obtain ⟨d, hd, rfl⟩ := sg_at hi
        obtain ⟨q1, q2, q3⟩ := slice_at (p := p) (lo := lowOf p c) (hi := highOf p c) b1 hd
        show tIfS _ _ _ _ _ _
        fail "go"
        refine ⟨by fail "sz", fun t nt => ?_⟩
        refine g_ni2 (hn.between hm.2 hm.1 q1 (by omega) (by omega)) ?_
        fail "go"
        exact ⟨_, rfl, ext e4 (Ex.new nt)⟩
      · rintro σ H4 ⟨u, rfl, e4⟩
        exact ⟨_, _, _, rfl, e4⟩
    · rintro σ H2 ⟨y, z, u, rfl, e2⟩
      fail "go"
      exact k _ (ext e1 e2)
def spRoom (K : PySem.W.Frag) : Sp := fun vs H Q _ => ∃ (p : List Nat) (c : Nat), vs = [.str (S p), .str (S [c])] ∧ c ∈ p ∧ p.length ≤ 99 ∧ ∀ x H', Ex H H' → StAt K H' x (roomOf p c) → Q (.ref x) H'
theorem sc_room : FnScope ["picture", "net", "own", "low", "high"] ["picture", "net"] (defScope s_room) := C8.fnScope_by (by decide +kernel)
theorem atI_nn {α : Type} {xs : List α} {i : Int} {v : α} (h0 : 0 ≤ i) (h : xs[i.toNat]? = some v) : atI xs i = some v := by
  have hl := (List.getElem?_eq_some_iff.mp h).1
  unfold atI ixN
  rw [if_pos h0, if_pos (by omega)]
  exact h
theorem ok_room (T : TX K mg) : C8.Cal P w K mg base 5 "room" (spRoom K) [] := by
  refine calD T.d_room T.g_room sc_room (fun _ _ _ _ _ _ us hl => match us, hl with | [_, _], _ => rfl) (fun vs H Q E h => ?_) (fun cdv A outer s H vs Q E hr h => ?_)
  · obtain ⟨p, c, rfl, _⟩ := h
    rfl
  · obtain ⟨p, c, rfl, hc, hz, k⟩ := h
    refine ⟨_, (pss_cons (ps_set (i := 2) sc_room.nd rfl (by first | exact Or.inl rfl | exact Or.inr rfl) (C8.pe_c (ok_span T) hr (by decide) (by rfl) (pa_cons (pv 0) (pa_cons (pv 1) pa_nil))))
      (pss_cons (ps_par (i := 3) (j := 4) rfl sc_room.nd rfl rfl (by decide) rfl rfl (pa_cons (pe_fld (pv 2) rfl) (pa_cons (pe_fld (pv 2) rfl) pa_nil)) rfl)
      (pss_cons (ps_while PassesOwn.never (PW.pt (pw_and (pt_cmpR op_gt (pv 3) pe_int (nomark _)) (pw_and1 (pt_cmpR op_eq (pe_ix ix_str (pv 0) (pe_op op_sub (pv 3) pe_int) (fun _ _ => rfl)) (C8.pe_gc (by rfl) T.vCLEAR) (nomark _))))) (pss_one (ps_aug (i := 3) sc_room.nd rfl (by first | exact Or.inl rfl | exact Or.inr rfl) pe_int ip_sub)))
      (pss_cons (ps_while PassesOwn.never (PW.pt (pw_and (pt_cmpR op_lt (pv 4) (pe_callB call_lenT (by rfl) T.b_len PySem.boot_len (pa_cons (pv 0) pa_nil)) (nomark _)) (pw_and1 (pt_cmpR op_eq (pe_ix ix_str (pv 0) (pv 4) (fun _ _ => rfl)) (C8.pe_gc (by rfl) T.vCLEAR) (nomark _))))) (pss_one (ps_aug (i := 4) sc_room.nd rfl (by first | exact Or.inl rfl | exact Or.inr rfl) pe_int ip_add)))
      (pss_one (ps_ret (C8.pe_mk (ok_stretch_init T) hr (by decide) (by rfl) (pa_cons (pv 3) (pa_cons (pv 4) pa_nil))))))))), ?_⟩
    have b1 := low_ge p c
    have b2 := low_le_high hc
    have b3 := high_le p c
    fail "in"
    fail "go"
    refine ⟨p, c, rfl, hc, hz, fun x H1 e1 hx => ?_⟩
    fail "go"
    refine ⟨fun m σ H' => ∃ j : Nat, H' = H1 ∧ j ≤ runBack p (lowOf p c) ∧ m = runBack p (lowOf p c) - j ∧ σ = [some (.str (S p)), some (sg c), some (.ref x), some (.int (lowOf p c - j)), some (.int (highOf p c))], ⟨_, 0, rfl, Nat.zero_le _, rfl, by rw [show lowOf p c - ((0 : Nat) : Int) = lowOf p c by omega]; rfl⟩, ?_⟩
    rintro m σ H' ⟨j, rfl, hj, rfl, rfl⟩
    have hr := runBack_le p b1
    refine ans_go (b := decide (j < runBack p (lowOf p c))) (fun QB q => ?_) ?_
    · fail "go"
      refine g_if (fun h1 => ?_) (fun h1 => ?_)
      · have hat := back_at (p := p) (lo := lowOf p c) (j := j) b1 (by omega) (by omega)
        have hin : (lowOf p c - 2 - j).toNat < p.length := by omega
        fail "go"
        refine g_ixS (by omega) (c := p[(lowOf p c - 2 - j).toNat]) (atI_nn (by omega) (by rw [show lowOf p c - (j : Int) - 2 = lowOf p c - 2 - j by omega]; exact List.getElem?_eq_getElem hin)) ?_
        fail "go"
        rw [sg_dot]
        rw [List.getElem?_eq_getElem hin] at hat
        by_cases h2 : p[(lowOf p c - 2 - j).toNat] = 46
        · have hs := run_step (q := (p.take (lowOf p c - 1).toNat).reverse) (j := j) hj (by rw [hat, h2])
          rw [decide_eq_true h2]
          rwa [decide_eq_true (by rw [runBack_eq]; omega)] at q
        · have hs := run_stop (q := (p.take (lowOf p c - 1).toNat).reverse) (j := j) hj (fun d hd => by rw [hat] at hd; rw [← Option.some.inj hd]; exact h2)
          rw [decide_eq_false h2]
          rwa [decide_eq_false (by rw [runBack_eq]; omega)] at q
      · rwa [decide_eq_false (by omega)] at q
    refine g_if (fun h1 => ⟨_, fun _ _ n => n, ?_⟩) (fun h1 => ?_)
    · fail "go"
      refine ⟨runBack p (lowOf p c) - (j + 1), by omega, j + 1, rfl, by omega, rfl, ?_⟩
      rw [show lowOf p c - (j : Int) - 1 = lowOf p c - ((j + 1 : Nat) : Int) by omega]
    have ej : j = runBack p (lowOf p c) := by omega
    subst ej
    fail "go"
    refine ⟨fun m σ H2 => ∃ j : Nat, H2 = H' ∧ j ≤ runOn p (highOf p c) ∧ m = runOn p (highOf p c) - j ∧ σ = [some (.str (S p)), some (sg c), some (.ref x), some (.int (lowOf p c - (runBack p (lowOf p c) : Int))), some (.int (highOf p c + j))], ⟨_, 0, rfl, Nat.zero_le _, rfl, by rw [show highOf p c + ((0 : Nat) : Int) = highOf p c by omega]⟩, ?_⟩
    rintro m σ H2 ⟨j, rfl, hj, rfl, rfl⟩
    have b4 := high_ge hc
    have hr2 := runOn_le p (hi := highOf p c) (by omega) b3
    refine ans_go (b := decide (j < runOn p (highOf p c))) (fun QB q => ?_) ?_
    · fail "go"
      refine g_lenT (by omega) ?_
      fail "go"
      refine g_if (fun h1 => ?_) (fun h1 => ?_)
      · have hat := on_at (p := p) (hi := highOf p c) (j := j) (by omega)
        have hin : (highOf p c + j).toNat < p.length := by omega
        fail "go"
        refine g_ixS (by omega) (c := p[(highOf p c + j).toNat]) (atI_nn (by omega) (List.getElem?_eq_getElem hin)) ?_
        fail "go"
        rw [sg_dot]
        rw [List.getElem?_eq_getElem hin] at hat
        by_cases h2 : p[(highOf p c + j).toNat] = 46
        · have hs := run_step (q := p.drop (highOf p c).toNat) (j := j) hj (by rw [hat, h2])
          rw [decide_eq_true h2]
          rwa [decide_eq_true (by rw [runOn_eq]; omega)] at q
        · have hs := run_stop (q := p.drop (highOf p c).toNat) (j := j) hj (fun d hd => by rw [hat] at hd; rw [← Option.some.inj hd]; exact h2)
          rw [decide_eq_false h2]
          rwa [decide_eq_false (by rw [runOn_eq]; omega)] at q
      · rwa [decide_eq_false (by omega)] at q
    refine g_if (fun h1 => ⟨_, fun _ _ n => n, ?_⟩) (fun h1 => ?_)
    · fail "go"
      refine ⟨runOn p (highOf p c) - (j + 1), by omega, j + 1, rfl, by omega, rfl, ?_⟩
      rw [show highOf p c + (j : Int) + 1 = highOf p c + ((j + 1 : Nat) : Int) by omega]
    have ej : j = runOn p (highOf p c) := by omega
    subst ej
    fail "go"
    exact m_St (by omega) (by omega) (by omega) fun x H' _ e q => k x H' (ext e1 e) q
end
end PN

/-! Holes: their making, their sides, their barrels. -/
namespace PN
set_option maxRecDepth 100000
set_option maxHeartbeats 4000000
open PySem PySem.Spec PyProof.Rows L2
open Evl (Ex Ex.new Ex.mut ex_l ex_t fresh_back)
-- MACROS
local macro_rules | `(tactic| fail "in") => `(tactic| dsimp only [cxOf, Cx.nox, Cx.wish, L2.start, List.map, List.length_cons, List.length_nil, Nat.reduceAdd, Nat.reduceSub, List.replicate_succ, List.replicate_zero, List.cons_append, List.nil_append, List.append_nil])
local macro_rules | `(tactic| fail "ds") => `(tactic| dsimp only [List.set_cons_zero, List.set_cons_succ, List.cons_append, List.nil_append, List.append_nil])
local macro_rules | `(tactic| fail "ex") => `(tactic| first | exact exr _ | assumption | (refine ext ?_ (by assumption); fail "ex") | (refine ext ?_ (Ex.new (by assumption)); fail "ex") | (refine Ex.mut ?_ (by assumption); fail "ex"))
local macro_rules | `(tactic| fail "st") => `(tactic| first | assumption | (refine StAt.mono (by assumption) ?_; fail "ex"))
local macro_rules | `(tactic| fail "ho") => `(tactic| first | assumption | (refine HoleAt.mono (by assumption) ?_; fail "ex"))
local macro_rules | `(tactic| fail "si") => `(tactic| first | assumption | (refine SiteAt.mono (by assumption) ?_; fail "ex"))
local macro_rules | `(tactic| fail "bo") => `(tactic| first | assumption | (refine BoardAt.mono (by assumption) ?_; fail "ex"))
local macro_rules | `(tactic| fail "go1") => `(tactic| with_reducible first
  | apply g_seq | apply g_next | apply g_ret | apply g_drop | apply g_asg | apply g_asg2 | apply g_ifs | (refine g_var (by with_unfolding_all rfl) ?_) | apply g_c | apply g_op | apply g_rI0 | apply g_eqI | apply g_neI | apply g_eqS | apply g_neS
  | apply g_test | apply g_B | apply g_bl | apply g_and | apply g_or | apply g_not | apply g_andV | apply g_orV | apply g_notV | apply g_ife | apply g_nil | apply g_cons | apply g_call | apply g_mkSt | apply g_make | apply g_cb | apply g_bm | apply g_fld | apply g_con | apply g_met | apply g_chain | apply g_put | apply g_tup | apply g_lst
  | apply g_isI | apply g_isB | apply g_isS | apply g_isNon | apply g_notNon | apply g_str | apply g_inS | apply g_notInS | apply g_un | apply g_sl | apply g_pn | apply g_ps | apply g_in | apply g_for | apply g_iL | apply g_iT | apply g_iS | apply g_iR1 | apply g_iR2 | apply g_lc | apply w_S | apply c_S | apply g_yes | apply g_par | apply g_two | (refine g_aug (by with_unfolding_all rfl) ?_) | apply g_ipI | apply g_mkK | apply g_star | apply g_mkSK | apply g_revS | apply g_revT | apply g_revL | apply g_cmK | apply m_cmK | apply g_lc2 | apply g_lenSet
  | apply iteT | apply iteF | (refine y_if (by decide) ?_) | (refine n_if (by decide) ?_)
  | (refine sp_within (by fail "st") (by fail "st") ?_) | (refine met_St (by fail "st") (by decide +kernel) (by decide +kernel) ?_)
  | (refine r_must (by assumption) (by fail "ho") ?_; intro m hm) | (refine r_may (by assumption) (by fail "ho") ?_; intro m hm) | (refine r_site (by assumption) (by fail "ho") ?_) | (refine r_number (by assumption) (by fail "ho") ?_) | (refine r_hdepth (by assumption) (by fail "ho") ?_) | (refine r_hpat (by assumption) (by fail "ho") ?_) | (refine r_kind (by assumption) (by fail "ho") ?_)
  | (refine r_sname (by assumption) (by fail "si") ?_) | (refine r_spic (by assumption) (by fail "si") ?_) | (refine r_skind (by assumption) (by fail "si") ?_) | (refine r_sdepth (by assumption) (by fail "si") ?_) | (refine r_spat (by assumption) (by fail "si") ?_) | (refine r_sparts (by assumption) (by fail "si") ?_; intro pt hpt) | (refine r_sholes (by assumption) (by fail "si") ?_; intro hl has hhl hhas)
  | (refine r_blayers (by assumption) (by fail "bo") ?_) | (refine r_bsites (by assumption) (by fail "bo") ?_; intro st sts hst hsts) | (refine r_bholes (by assumption) (by fail "bo") ?_; intro bl bhs hbl hbhs)
  | (refine r_low (by assumption) (by fail "st") ?_) | (refine r_high (by assumption) (by fail "st") ?_))
local macro_rules | `(tactic| fail "go") => `(tactic| ((repeat (first | fail "go1" | (fail "ds"; fail "go1"))); (try fail "ds")))
local macro_rules | `(tactic| fail "sz") => `(tactic| (refine Evl.sz_of ?_; simp only [List.length_cons, List.length_nil, List.length_append, List.length_map, List.length_take, List.length_drop]; omega))
-- END MACROS
/-! ### the three kinds -/
inductive Kd where
  | thr | bli | eit
  deriving DecidableEq
def Kd.cls (K : PySem.W.Frag) : Kd → Addr
  | .thr => c_Through K
  | .bli => c_Blind K
  | .eit => c_Either K
def Kd.str : Kd → Str
  | .thr => "through"
  | .bli => "blind"
  | .eit => "either"
abbrev hoF (m y : Addr) (name : Str) (num depth pat : Int) : List (Str × V) := [("must", .ref m), ("may", .ref y), ("site", .str name), ("number", .int num), ("depth", .int depth), ("patience", .int pat)]
/-- a hole in the heap -/
def HoleAt (K : PySem.W.Frag) (H : Hp) (a : Addr) (kd : Kd) (c : Cut) (name : Str) (num depth pat : Int) : Prop := ∃ dx m y, H a = some (.ins (kd.cls K) dx (hoF m y name num depth pat)) ∧ StAt K H m c.1 ∧ StAt K H y c.2
section
variable {K : PySem.W.Frag} {mg : Str → Option Value} {H H' : Hp} {a : Addr} {kd : Kd} {c : Cut} {name : Str} {num depth pat : Int} {Q : VK}
theorem TX.cl (T : TX K mg) (kd : Kd) : Cls K (kd.cls K) := by cases kd <;> first | exact T.cl_Through | exact T.cl_Blind | exact T.cl_Either
theorem TX.nMust (T : TX K mg) (kd : Kd) : NoAttr K (kd.cls K) "must" := by cases kd <;> first | exact T.no_Through_must | exact T.no_Blind_must | exact T.no_Either_must
theorem TX.nMay (T : TX K mg) (kd : Kd) : NoAttr K (kd.cls K) "may" := by cases kd <;> first | exact T.no_Through_may | exact T.no_Blind_may | exact T.no_Either_may
theorem TX.nSite (T : TX K mg) (kd : Kd) : NoAttr K (kd.cls K) "site" := by cases kd <;> first | exact T.no_Through_site | exact T.no_Blind_site | exact T.no_Either_site
theorem TX.nNumber (T : TX K mg) (kd : Kd) : NoAttr K (kd.cls K) "number" := by cases kd <;> first | exact T.no_Through_number | exact T.no_Blind_number | exact T.no_Either_number
theorem TX.nDepth (T : TX K mg) (kd : Kd) : NoAttr K (kd.cls K) "depth" := by cases kd <;> first | exact T.no_Through_depth | exact T.no_Blind_depth | exact T.no_Either_depth
theorem TX.nPat (T : TX K mg) (kd : Kd) : NoAttr K (kd.cls K) "patience" := by cases kd <;> first | exact T.no_Through_patience | exact T.no_Blind_patience | exact T.no_Either_patience
theorem TX.kind (T : TX K mg) (kd : Kd) : ∃ u, Con K (kd.cls K) "KIND" (.str kd.str) u := by cases kd <;> first | exact T.kind_Through | exact T.kind_Blind | exact T.kind_Either
theorem HoleAt.nono (h : HoleAt K H a kd c name num depth pat) (e : ExN H H') : HoleAt K H' a kd c name num depth pat := by
  obtain ⟨dx, m, y, h1, h2, h3⟩ := h
  exact ⟨dx, m, y, e _ _ (fun _ q => by cases q) h1, h2.nono e, h3.nono e⟩
theorem HoleAt.mono (h : HoleAt K H a kd c name num depth pat) (e : Ex H H') : HoleAt K H' a kd c name num depth pat := h.nono (exn e)
theorem ho_must {m y : Addr} : (hoF m y name num depth pat).lookup ("must" : Str) = some (.ref m) := lk0
theorem ho_may {m y : Addr} : (hoF m y name num depth pat).lookup ("may" : Str) = some (.ref y) := lk1 (by decide +kernel) lk0
theorem ho_site {m y : Addr} : (hoF m y name num depth pat).lookup ("site" : Str) = some (.str name) := lk1 (by decide +kernel) (lk1 (by decide +kernel) lk0)
theorem ho_number {m y : Addr} : (hoF m y name num depth pat).lookup ("number" : Str) = some (.int num) := lk1 (by decide +kernel) (lk1 (by decide +kernel) (lk1 (by decide +kernel) lk0))
theorem ho_depth {m y : Addr} : (hoF m y name num depth pat).lookup ("depth" : Str) = some (.int depth) := lk1 (by decide +kernel) (lk1 (by decide +kernel) (lk1 (by decide +kernel) (lk1 (by decide +kernel) lk0)))
theorem ho_pat {m y : Addr} : (hoF m y name num depth pat).lookup ("patience" : Str) = some (.int pat) := lk1 (by decide +kernel) (lk1 (by decide +kernel) (lk1 (by decide +kernel) (lk1 (by decide +kernel) (lk1 (by decide +kernel) lk0))))
theorem ho_no {m y : Addr} {f : Str} (h1 : (f == ("must" : Str)) = false) (h2 : (f == ("may" : Str)) = false) (h3 : (f == ("site" : Str)) = false) (h4 : (f == ("number" : Str)) = false) (h5 : (f == ("depth" : Str)) = false) (h6 : (f == ("patience" : Str)) = false) :
    (hoF m y name num depth pat).lookup f = none := lk1 h1 (lk1 h2 (lk1 h3 (lk1 h4 (lk1 h5 (lk1 h6 lkn)))))
theorem r_must (T : TX K mg) (h : HoleAt K H a kd c name num depth pat) (q : ∀ m, StAt K H m c.1 → Q (.ref m) H) : rFld K "must" (.ref a) H Q := by
  obtain ⟨dx, m, y, h1, h2, h3⟩ := h
  exact r_fld h1 (T.cl kd) (T.nMust kd) ho_must (q m h2)
theorem r_may (T : TX K mg) (h : HoleAt K H a kd c name num depth pat) (q : ∀ y, StAt K H y c.2 → Q (.ref y) H) : rFld K "may" (.ref a) H Q := by
  obtain ⟨dx, m, y, h1, h2, h3⟩ := h
  exact r_fld h1 (T.cl kd) (T.nMay kd) ho_may (q y h3)
theorem r_site (T : TX K mg) (h : HoleAt K H a kd c name num depth pat) (q : Q (.str name) H) : rFld K "site" (.ref a) H Q := by
  obtain ⟨dx, m, y, h1, h2, h3⟩ := h
  exact r_fld h1 (T.cl kd) (T.nSite kd) ho_site q
theorem r_number (T : TX K mg) (h : HoleAt K H a kd c name num depth pat) (q : Q (.int num) H) : rFld K "number" (.ref a) H Q := by
  obtain ⟨dx, m, y, h1, h2, h3⟩ := h
  exact r_fld h1 (T.cl kd) (T.nNumber kd) ho_number q
theorem r_hdepth (T : TX K mg) (h : HoleAt K H a kd c name num depth pat) (q : Q (.int depth) H) : rFld K "depth" (.ref a) H Q := by
  obtain ⟨dx, m, y, h1, h2, h3⟩ := h
  exact r_fld h1 (T.cl kd) (T.nDepth kd) ho_depth q
theorem r_hpat (T : TX K mg) (h : HoleAt K H a kd c name num depth pat) (q : Q (.int pat) H) : rFld K "patience" (.ref a) H Q := by
  obtain ⟨dx, m, y, h1, h2, h3⟩ := h
  exact r_fld h1 (T.cl kd) (T.nPat kd) ho_pat q
theorem r_kind (T : TX K mg) (h : HoleAt K H a kd c name num depth pat) (q : Q (.str kd.str) H) : rCon K "KIND" (.ref a) H Q := by
  obtain ⟨dx, m, y, h1, h2, h3⟩ := h
  obtain ⟨u, k⟩ := T.kind kd
  exact ⟨a, _, dx, _, _, u, rfl, h1, T.cl kd, k, ho_no (by decide +kernel) (by decide +kernel) (by decide +kernel) (by decide +kernel) (by decide +kernel) (by decide +kernel), q⟩
end
section
variable {P : Program} {w : World} {K : PySem.W.Frag} {mg : Str → Option Value} {base : Heap}
/-! ### making -/
def spHoleInit (K : PySem.W.Frag) : Sp := fun vs H Q _ => ∃ (a dx m y : Addr) (kd : Kd) (name : Str) (num depth pat : Int), vs = [.ref a, .ref m, .ref y, .str name, .int num, .int depth, .int pat] ∧ H a = some (.ins (kd.cls K) dx []) ∧
  ∀ H', (∀ b, b ≠ a → H' b = H b) → H' a = some (.ins (kd.cls K) dx (hoF m y name num depth pat)) → Q .non H'
theorem sc_hole_init : FnScope ["self", "must", "may", "site", "number", "depth", "patience"] ["self", "must", "may", "site", "number", "depth", "patience"] (defScope s_hole_init) := C8.fnScope_by (by decide +kernel)
theorem ok_hole_init (T : TX K mg) : ∃ fd, FnOk P w K mg base L2.CX0 1 (f_hole_init K) fd ["self", "must", "may", "site", "number", "depth", "patience"] (spHoleInit K) ∧
    KBn K fd ["self", "must", "may", "site", "number", "depth", "patience"] 3 ["site", "number", "depth", "patience"] (fun us ws => us ++ ws) (fun vs zs => vs ++ zs) := by
  obtain ⟨fd, F⟩ := T.d_hole_init
  refine ⟨fd, fnD F sc_hole_init (fun vs H Q E h => ?_) (fun cdv A outer s H vs Q E hr h => ?_), ⟨fun s us ws X l1 l2 => ?_, fun r1 r2 => r1.append r2⟩⟩
  · obtain ⟨a, dx, m, y, kd, name, num, depth, pat, rfl, _⟩ := h
    rfl
  · obtain ⟨a, dx, m, y, kd, name, num, depth, pat, rfl, ha, k⟩ := h
    refine ⟨_, (pss_cons (ps_fld (pv 0) (pv 1) rfl)
      (pss_cons (ps_fld (pv 0) (pv 2) rfl)
      (pss_cons (ps_fld (pv 0) (pv 3) rfl)
      (pss_cons (ps_fld (pv 0) (pv 4) rfl)
      (pss_cons (ps_fld (pv 0) (pv 5) rfl)
      (pss_one (ps_fld (pv 0) (pv 6) rfl))))))), ?_⟩
    fail "in"
    fail "go"
    refine r_put ha (T.cl kd) (T.nMust kd) (by show 0 < 1000; decide) pun ?_
    fail "go"
    refine r_put upd_same (T.cl kd) (T.nMay kd) (by show 1 < 1000; decide) (pu1 (by decide +kernel) pun) ?_
    fail "go"
    refine r_put upd_same (T.cl kd) (T.nSite kd) (by show 2 < 1000; decide) (pu1 (by decide +kernel) (pu1 (by decide +kernel) pun)) ?_
    fail "go"
    refine r_put upd_same (T.cl kd) (T.nNumber kd) (by show 3 < 1000; decide) (pu1 (by decide +kernel) (pu1 (by decide +kernel) (pu1 (by decide +kernel) pun))) ?_
    fail "go"
    refine r_put upd_same (T.cl kd) (T.nDepth kd) (by show 4 < 1000; decide) (pu1 (by decide +kernel) (pu1 (by decide +kernel) (pu1 (by decide +kernel) (pu1 (by decide +kernel) pun)))) ?_
    fail "go"
    refine r_put upd_same (T.cl kd) (T.nPat kd) (by show 5 < 1000; decide) (pu1 (by decide +kernel) (pu1 (by decide +kernel) (pu1 (by decide +kernel) (pu1 (by decide +kernel) (pu1 (by decide +kernel) pun))))) ?_
    fail "go"
    exact k _ (fun b nb => by rw [upd_ne nb, upd_ne nb, upd_ne nb, upd_ne nb, upd_ne nb, upd_ne nb]) upd_same
  · obtain ⟨oc, od, dV, kV, doc, pm, an, cdv, ct, osl, rfl, lk, hcd, hD, hK⟩ := F.ex
    rcases hD with ⟨_, rfl⟩ | ⟨e, _⟩
    · match us, ws, l1, l2 with
      | [_, _, _], [_, _, _, _], _, _ => exact .of_eq rfl
    · exact absurd rfl e
/-- a hole is made -/
theorem m_Ho {H : Hp} {Q : VK} {kd : Kd} {c : Cut} {m y : Addr} {name : Str} {num depth pat : Int} (h1 : StAt K H m c.1) (h2 : StAt K H y c.2) (q : ∀ x H', H x = none → Ex H H' → HoleAt K H' x kd c name num depth pat → Q (.ref x) H') :
    ∀ x dx, H x = none → H dx = none → dx ≠ x → spHoleInit K [.ref x, .ref m, .ref y, .str name, .int num, .int depth, .int pat] (upd (upd H dx (.own x)) x (.ins (kd.cls K) dx [])) (fun v H2 => v = .non ∧ Q (.ref x) H2) E0 := by
  intro x dx nx ndx ne
  refine ⟨x, dx, m, y, kd, name, num, depth, pat, rfl, upd_same, fun H' hk ha => ⟨rfl, ?_⟩⟩
  have e : Ex H H' := fun b o e => by
    have n1 : b ≠ x := fun z => by rw [z, nx] at e; cases e
    have n2 : b ≠ dx := fun z => by rw [z, ndx] at e; cases e
    rw [hk b n1, upd_ne n1, upd_ne n2]
    exact e
  exact q x H' nx e ⟨dx, m, y, ha, h1.mono e, h2.mono e⟩
def spHoleOf (K : PySem.W.Frag) : Sp := fun vs H Q _ => ∃ (kd : Kd) (c : Cut) (m y : Addr) (name : Str) (num depth pat : Int), vs = [.str kd.str, .ref m, .ref y, .str name, .int num, .int depth, .int pat] ∧ StAt K H m c.1 ∧ StAt K H y c.2 ∧
  ∀ x H', H x = none → Ex H H' → HoleAt K H' x kd c name num depth pat → Q (.ref x) H'
theorem sc_hole_of : FnScope ["kind", "must", "may", "name", "number", "depth", "patience"] ["kind", "must", "may", "name", "number", "depth", "patience"] (defScope s_hole_of) := C8.fnScope_by (by decide +kernel)
theorem ok_hole_of (T : TX K mg) : C8.Cal P w K mg base 3 "hole_of" (spHoleOf K) [] := by
  obtain ⟨fd, F, B⟩ := ok_hole_init (P := P) (w := w) (base := base) T
  refine calD T.d_hole_of T.g_hole_of sc_hole_of (fun _ _ _ _ _ _ us hl => match us, hl with | [_, _, _, _, _, _, _], _ => rfl) (fun vs H Q E h => ?_) (fun cdv A outer s H vs Q E hr h => ?_)
  · obtain ⟨kd, c, m, y, name, num, depth, pat, rfl, _⟩ := h
    rfl
  · obtain ⟨kd, c, m, y, name, num, depth, pat, rfl, h1, h2, k⟩ := h
    refine ⟨_, (pss_cons (ps_if (pt_cmpR op_eq (pv 0) pe_str (nomark _)) (pss_one (ps_ret (pe_makeK (n := 2) T.mk_Through F (hr.mono (by decide)) (by rfl) T.g_Through B pass0 (pa_cons (pv 1) (pa_cons (pv 2) pa_nil)) (pk_cons (pv 3) (pk_cons (pv 4) (pk_cons (pv 5) (pk_cons (pv 6) pk_nil))))))) pss_nil)
      (pss_cons (ps_if (pt_cmpR op_eq (pv 0) pe_str (nomark _)) (pss_one (ps_ret (pe_makeK (n := 2) T.mk_Blind F (hr.mono (by decide)) (by rfl) T.g_Blind B pass0 (pa_cons (pv 1) (pa_cons (pv 2) pa_nil)) (pk_cons (pv 3) (pk_cons (pv 4) (pk_cons (pv 5) (pk_cons (pv 6) pk_nil))))))) pss_nil)
      (pss_one (ps_ret (pe_makeK (n := 2) T.mk_Either F (hr.mono (by decide)) (by rfl) T.g_Either B pass0 (pa_cons (pv 1) (pa_cons (pv 2) pa_nil)) (pk_cons (pv 3) (pk_cons (pv 4) (pk_cons (pv 5) (pk_cons (pv 6) pk_nil))))))))), ?_⟩
    fail "in"
    fail "go"
    cases kd with
    | thr =>
      refine y_if (by decide +kernel) ?_
      fail "go"
      exact ⟨rfl, rfl, m_Ho (kd := .thr) h1 h2 k⟩
    | bli =>
      refine n_if (by decide +kernel) ?_
      fail "go"
      exact ⟨rfl, rfl, m_Ho (kd := .bli) h1 h2 k⟩
    | eit =>
      refine n_if (by decide +kernel) ?_
      fail "go"
      exact ⟨rfl, rfl, m_Ho (kd := .eit) h1 h2 k⟩
/-! ### barrels -/
def upS : Str := "above"
def dnS : Str := "below"
def thS : Str := "through"
inductive Way where
  | thr | up | dn
  deriving DecidableEq
def Way.str : Way → Str
  | .thr => thS
  | .up => upS
  | .dn => dnS
def barrelM (must st : Int × Int) : Way → Int × Int
  | .thr => st
  | .up => (st.1, must.2)
  | .dn => (must.1, st.2)
/-- the piece and the must of a hole lie well -/
def WellIn (must st : Int × Int) (wy : Way) : Prop := 1 ≤ must.1 ∧ must.1 ≤ must.2 ∧ must.2 ≤ 99 ∧ 1 ≤ st.1 ∧ st.1 ≤ st.2 ∧ st.2 ≤ 99 ∧ (wy = .thr ∨ (st.1 ≤ must.1 ∧ must.2 ≤ st.2))
def spBarrelOf (K : PySem.W.Frag) : Sp := fun vs H Q _ => ∃ (m s : Addr) (must st : Int × Int) (wy : Way), vs = [.ref m, .ref s, .str wy.str] ∧ StAt K H m must ∧ StAt K H s st ∧ WellIn must st wy ∧ ∀ x H', Ex H H' → StAt K H' x (barrelM must st wy) → Q (.ref x) H'
theorem sc_barrel_of : FnScope ["must", "stretch", "side"] ["must", "stretch", "side"] (defScope s_barrel_of) := C8.fnScope_by (by decide +kernel)
theorem ok_barrel_of (T : TX K mg) : C8.Cal P w K mg base 4 "barrel_of" (spBarrelOf K) [] := by
  refine calD T.d_barrel_of T.g_barrel_of sc_barrel_of (fun _ _ _ _ _ _ us hl => match us, hl with | [_, _, _], _ => rfl) (fun vs H Q E h => ?_) (fun cdv A outer s H vs Q E hr h => ?_)
  · obtain ⟨m, s, must, st, wy, rfl, _⟩ := h
    rfl
  · obtain ⟨m, s, must, st, wy, rfl, hm, hs, ⟨w1, w2, w3, w4, w5, w6, w7⟩, k⟩ := h
    refine ⟨_, (pss_cons (ps_if (pt_cmpR op_eq (pv 2) pe_str (nomark _)) (pss_one (ps_ret (C8.pe_mk (ok_stretch_init T) hr (by decide) (by rfl) (pa_cons (pe_fld (pv 1) rfl) (pa_cons (pe_fld (pv 0) rfl) pa_nil))))) pss_nil)
      (pss_cons (ps_if (pt_cmpR op_eq (pv 2) pe_str (nomark _)) (pss_one (ps_ret (C8.pe_mk (ok_stretch_init T) hr (by decide) (by rfl) (pa_cons (pe_fld (pv 0) rfl) (pa_cons (pe_fld (pv 1) rfl) pa_nil))))) pss_nil)
      (pss_one (ps_ret (pv 1))))), ?_⟩
    fail "in"
    fail "go"
    cases wy with
    | thr =>
      refine n_if (by decide +kernel) ?_
      fail "go"
      exact k s _ (exr _) hs
    | up =>
      rcases w7 with w7 | ⟨w7, w8⟩
      · cases w7
      refine y_if (by decide +kernel) ?_
      fail "go"
      exact m_St (by omega) (by omega) (by omega) fun x H' _ e q => k x H' e q
    | dn =>
      rcases w7 with w7 | ⟨w7, w8⟩
      · cases w7
      refine n_if (by decide +kernel) ?_
      fail "go"
      exact m_St (by omega) (by omega) (by omega) fun x H' _ e q => k x H' e q
/-- barrel of a hole, of whatever class -/
def spBarrel (K : PySem.W.Frag) (kd : Kd) : Sp := fun vs H Q _ => ∃ (a s : Addr) (c : Cut) (name : Str) (num depth pat : Int) (st : Int × Int) (wy : Way), vs = [.ref a, .ref s, .str wy.str] ∧ HoleAt K H a kd c name num depth pat ∧ StAt K H s st ∧ WellIn c.1 st wy ∧
  ∀ x H', Ex H H' → StAt K H' x (barrelM c.1 st wy) → Q (.ref x) H'
theorem sc_hole_barrel : FnScope ["self", "stretch", "side"] ["self", "stretch", "side"] (defScope s_hole_barrel) := C8.fnScope_by (by decide +kernel)
theorem frOf {k : Nat} {f : Addr} {ps : List Str} {sp : Sp} (h : ∃ fd, FnOk P w K mg base L2.CX0 k f fd ps sp ∧ Binds K fd ps []) : FnR P w K mg base L2.CX0 k f sp := by
  obtain ⟨fd, F, b⟩ := h
  exact (F.raw b .nil).imp fun vs H Q E h => by rw [List.append_nil]; exact h
theorem metOf {k : Nat} {f C : Addr} {m : Str} {ps : List Str} {sp : Sp} (h : ∃ fd, FnOk P w K mg base L2.CX0 k f fd ps sp ∧ Binds K fd ps []) (c : Cls K C) (me : Meth K C m f) : C8.Met P w K mg base k C m sp [] := by
  obtain ⟨fd, F, b⟩ := h
  exact ⟨f, fd, ps, [], c, me, F, b, .nil⟩
theorem ok_hole_barrel0 (T : TX K mg) (kd : Kd) : ∃ fd, FnOk P w K mg base L2.CX0 5 (f_hole_barrel K) fd ["self", "stretch", "side"] (spBarrel K kd) ∧ Binds K fd ["self", "stretch", "side"] [] := by
  refine fnRD T.d_hole_barrel sc_hole_barrel (fun _ _ _ _ _ _ us hl => match us, hl with | [_, _, _], _ => rfl) (fun vs H Q E h => ?_) (fun cdv A outer s H vs Q E hr h => ?_)
  · obtain ⟨a, s, c, name, num, depth, pat, st, wy, rfl, _⟩ := h
    rfl
  · obtain ⟨a, s, c, name, num, depth, pat, st, wy, rfl, ha, hs, hw, k⟩ := h
    refine ⟨_, (pss_one (ps_ret (C8.pe_c (ok_barrel_of T) hr (by decide) (by rfl) (pa_cons (pe_fld (pv 0) rfl) (pa_cons (pv 1) (pa_cons (pv 2) pa_nil)))))), ?_⟩
    fail "in"
    fail "go"
    refine r_must T ha fun m hm => ?_
    fail "go"
    exact ⟨m, s, c.1, st, wy, rfl, hm, hs, hw, k⟩
theorem g_sup {C : Addr} {sp : Sp} {E : XK} {t : TA} {σ : L2.St} {H : Hp} {Q : VK} {a dx : Addr} {fs : List (Str × V)} (hσ : σ[0]? = some (some (.ref a))) (ha : H a = some (.ins C dx fs)) (h : t σ H fun vs H1 => sp (.ref a :: vs) H1 Q E) : tSup C sp E t σ H Q := ⟨a, dx, fs, hσ, ha, h⟩
/-- what a body that says super is run with -/
abbrev SupAt (K : PySem.W.Frag) (f D cda cc : Addr) (args : Arguments) : Prop :=
  (∃ (fo : Obj) (fd : FuncData), K.lookup f = some fo ∧ fo.data = .func fd ∧ fd.params = args) ∧ (∃ (cl : Value) (cld : Option Addr) (csl : Array (Option Value)), K.lookup cc = some ⟨cl, cld, .cell (some (.ref D)), csl⟩) ∧
      (∃ (ccl : Value) (cdd : Option Addr) (vs : Array Value) (ccs : Array (Option Value)) (tf : Tok), K.lookup cda = some ⟨ccl, cdd, .fields vs, ccs⟩ ∧ vs[2]? = some (.str "/claim/cut.py" tf))
theorem supD {x qual : Str} {D f : Addr} {args : Arguments} {body : List Stmt} {scope : Scope} {N ps : List Str} {k : Nat} {sp : Sp} {t : TS} (F : ∃ fd, SupD K x qual args body scope D f fd) (S : FnScopeS N ps scope)
    (b : ∀ (cc cda : Addr) (kV doc pm : Value) (an : Option Addr) (ct : Value) (us : List Value), us.length = ps.length → bindArgs (PySem.W.fnX x qual args body scope [("__class__", cc)] .none kV doc pm an (.ref cda) ct) ⟨us, []⟩ = pure (ps.zip us)) (len : ∀ vs H Q E, sp vs H Q E → vs.length = ps.length)
    (hbody : ∀ (cda cc : Addr) (A : Around) (outer : List Env) (s : Shared) (H : Hp), Room k (A.deeper (envS qual scope s.heap.objs.size f cda cc)) → SupAt K f D cda cc args → PSsA (cxS P w K mg base N qual scope f cda cc A outer s H) body body t)
    (hread : ∀ (H : Hp) (vs : List V) (Q : VK) (E : XK), sp vs H Q E → t { nx := fun _ H' => Q .non H', rt := Q } (L2.start N vs) H) : ∃ fd, FnOk P w K mg base L2.CX0 (k + 1) f fd ps sp ∧ Binds K fd ps [] := by
  obtain ⟨fd, F⟩ := F
  exact ⟨fd, F.ok S len (fun cda cc A outer s H vs Q E hr hf hcc hfile h => ⟨t, hbody cda cc A outer s H hr ⟨hf, hcc, hfile⟩, hread H vs Q E h⟩), F.binds b⟩
theorem supX {x qual : Str} {D f : Addr} {args : Arguments} {body : List Stmt} {scope : Scope} {N ps : List Str} {k : Nat} {sp : Sp} (F : ∃ fd, SupD K x qual args body scope D f fd) (S : FnScopeS N ps scope)
    (b : ∀ (cc cda : Addr) (kV doc pm : Value) (an : Option Addr) (ct : Value) (us : List Value), us.length = ps.length → bindArgs (PySem.W.fnX x qual args body scope [("__class__", cc)] .none kV doc pm an (.ref cda) ct) ⟨us, []⟩ = pure (ps.zip us)) (len : ∀ vs H Q E, sp vs H Q E → vs.length = ps.length)
    (hbody : ∀ (cda cc : Addr) (A : Around) (outer : List Env) (s : Shared) (H : Hp) (vs : List V) (Q : VK) (E : XK), Room k (A.deeper (envS qual scope s.heap.objs.size f cda cc)) → SupAt K f D cda cc args → sp vs H Q E →
      ∃ t, PSsA (cxS P w K mg base N qual scope f cda cc A outer s H) body body t ∧ t { nx := fun _ H' => Q .non H', rt := Q } (L2.start N vs) H) : ∃ fd, FnOk P w K mg base L2.CX0 (k + 1) f fd ps sp ∧ Binds K fd ps [] := by
  obtain ⟨fd, F⟩ := F
  exact ⟨fd, F.ok S len (fun cda cc A outer s H vs Q E hr hf hcc hfile h => hbody cda cc A outer s H vs Q E hr ⟨hf, hcc, hfile⟩ h), F.binds b⟩
theorem sc_through_barrel : FnScopeS ["self", "stretch", "side"] ["self", "stretch", "side"] (defScope s_through_barrel) := ⟨rfl, rfl, rfl, by decide +kernel, rfl, by decide +kernel, by decide +kernel, by decide +kernel, rfl, rfl⟩
theorem sc_blind_barrel : FnScopeS ["self", "stretch", "side"] ["self", "stretch", "side"] (defScope s_blind_barrel) := ⟨rfl, rfl, rfl, by decide +kernel, rfl, by decide +kernel, by decide +kernel, by decide +kernel, rfl, rfl⟩
theorem sc_either_barrel : FnScopeS ["self", "stretch", "side"] ["self", "stretch", "side"] (defScope s_either_barrel) := ⟨rfl, rfl, rfl, by decide +kernel, rfl, by decide +kernel, by decide +kernel, by decide +kernel, rfl, rfl⟩
theorem barrel_read {kd : Kd} (H : Hp) (vs : List V) (Q : VK) (E : XK) (h : spBarrel K kd vs H Q E) : tSeq (tRet (tSup (kd.cls K) (spBarrel K kd) E0 (tCons (tVar 1) (tCons (tVar 2) tNil)))) tNext { nx := fun _ H' => Q .non H', rt := Q } (L2.start ["self", "stretch", "side"] vs) H := by
  obtain ⟨a, s, c, name, num, depth, pat, st, wy, rfl, ha, hs, hw, k⟩ := h
  obtain ⟨dx, m, y, ha', hm, hy⟩ := id ha
  fail "in"
  fail "go"
  refine g_sup rfl ha' ?_
  fail "go"
  exact ⟨a, s, c, name, num, depth, pat, st, wy, rfl, ha, hs, hw, k⟩
theorem barrel_len {kd : Kd} (vs : List V) (H : Hp) (Q : VK) (E : XK) (h : spBarrel K kd vs H Q E) : vs.length = 3 := by
  obtain ⟨a, s, c, name, num, depth, pat, st, wy, rfl, _⟩ := h
  rfl
theorem ok_bar_th_th (hP : P = prg) (T : TX K mg) : ∃ fd, FnOk P w K mg base L2.CX0 6 (f_through_barrel K) fd ["self", "stretch", "side"] (spBarrel K .thr) ∧ Binds K fd ["self", "stretch", "side"] [] :=
  supD T.d_through_barrel sc_through_barrel (fun _ _ _ _ _ _ _ us hl => match us, hl with | [_, _, _], _ => rfl) barrel_len (fun cda cc A outer s H hr hf =>
    pssA_cons (psA_ret (peA_super hP sc_through_barrel rfl rfl rfl rfl hf.1 hf.2.1 hf.2.2 T.b_super T.noany T.su_Through_Through_barrel (by decide) (frOf (ok_hole_barrel0 T .thr)) hr pass0 (pa_cons (pv 1) (pa_cons (pv 2) pa_nil)))) pss_nil) (barrel_read (kd := .thr))
theorem ok_bar_bl_bl (hP : P = prg) (T : TX K mg) : ∃ fd, FnOk P w K mg base L2.CX0 6 (f_blind_barrel K) fd ["self", "stretch", "side"] (spBarrel K .bli) ∧ Binds K fd ["self", "stretch", "side"] [] :=
  supD T.d_blind_barrel sc_blind_barrel (fun _ _ _ _ _ _ _ us hl => match us, hl with | [_, _, _], _ => rfl) barrel_len (fun cda cc A outer s H hr hf =>
    pssA_cons (psA_ret (peA_super hP sc_blind_barrel rfl rfl rfl rfl hf.1 hf.2.1 hf.2.2 T.b_super T.noany T.su_Blind_Blind_barrel (by decide) (frOf (ok_hole_barrel0 T .bli)) hr pass0 (pa_cons (pv 1) (pa_cons (pv 2) pa_nil)))) pss_nil) (barrel_read (kd := .bli))
theorem ok_bar_ei_bl (hP : P = prg) (T : TX K mg) : ∃ fd, FnOk P w K mg base L2.CX0 6 (f_blind_barrel K) fd ["self", "stretch", "side"] (spBarrel K .eit) ∧ Binds K fd ["self", "stretch", "side"] [] :=
  supD T.d_blind_barrel sc_blind_barrel (fun _ _ _ _ _ _ _ us hl => match us, hl with | [_, _, _], _ => rfl) barrel_len (fun cda cc A outer s H hr hf =>
    pssA_cons (psA_ret (peA_super hP sc_blind_barrel rfl rfl rfl rfl hf.1 hf.2.1 hf.2.2 T.b_super T.noany T.su_Either_Blind_barrel (by decide) (frOf (ok_hole_barrel0 T .eit)) hr pass0 (pa_cons (pv 1) (pa_cons (pv 2) pa_nil)))) pss_nil) (barrel_read (kd := .eit))
theorem ok_bar_ei_th (hP : P = prg) (T : TX K mg) : ∃ fd, FnOk P w K mg base L2.CX0 7 (f_through_barrel K) fd ["self", "stretch", "side"] (spBarrel K .eit) ∧ Binds K fd ["self", "stretch", "side"] [] :=
  supD T.d_through_barrel sc_through_barrel (fun _ _ _ _ _ _ _ us hl => match us, hl with | [_, _, _], _ => rfl) barrel_len (fun cda cc A outer s H hr hf =>
    pssA_cons (psA_ret (peA_super hP sc_through_barrel rfl rfl rfl rfl hf.1 hf.2.1 hf.2.2 T.b_super T.noany T.su_Either_Through_barrel (by decide) (frOf (ok_bar_ei_bl hP T)) hr pass0 (pa_cons (pv 1) (pa_cons (pv 2) pa_nil)))) pss_nil) (barrel_read (kd := .eit))
theorem ok_bar_ei_ei (hP : P = prg) (T : TX K mg) : ∃ fd, FnOk P w K mg base L2.CX0 8 (f_either_barrel K) fd ["self", "stretch", "side"] (spBarrel K .eit) ∧ Binds K fd ["self", "stretch", "side"] [] :=
  supD T.d_either_barrel sc_either_barrel (fun _ _ _ _ _ _ _ us hl => match us, hl with | [_, _, _], _ => rfl) barrel_len (fun cda cc A outer s H hr hf =>
    pssA_cons (psA_ret (peA_super hP sc_either_barrel rfl rfl rfl rfl hf.1 hf.2.1 hf.2.2 T.b_super T.noany T.su_Either_Either_barrel (by decide) (frOf (ok_bar_ei_th hP T)) hr pass0 (pa_cons (pv 1) (pa_cons (pv 2) pa_nil)))) pss_nil) (barrel_read (kd := .eit))
theorem ok_hole_barrel (hP : P = prg) (T : TX K mg) (kd : Kd) : C8.Met P w K mg base 8 (kd.cls K) "barrel" (spBarrel K kd) [] := by
  cases kd with
  | thr =>
    obtain ⟨fd, F, b⟩ := ok_bar_th_th (P := P) (w := w) (base := base) hP T
    exact metOf ⟨fd, F.mono (by decide), b⟩ T.cl_Through T.me_through_barrel
  | bli =>
    obtain ⟨fd, F, b⟩ := ok_bar_bl_bl (P := P) (w := w) (base := base) hP T
    exact metOf ⟨fd, F.mono (by decide), b⟩ T.cl_Blind T.me_blind_barrel
  | eit =>
    obtain ⟨fd, F, b⟩ := ok_bar_ei_ei (P := P) (w := w) (base := base) hP T
    exact metOf ⟨fd, F.mono (by decide), b⟩ T.cl_Either T.me_either_barrel
end
end PN

/-! Sides; the cuts; the holes of a picture. -/
namespace PN
set_option maxRecDepth 100000
set_option maxHeartbeats 4000000
open PySem PySem.Spec PyProof.Rows L2
open Evl (Ex Ex.new Ex.mut ex_l ex_t fresh_back)
-- MACROS
local macro_rules | `(tactic| fail "in") => `(tactic| dsimp only [cxOf, Cx.nox, Cx.wish, L2.start, List.map, List.length_cons, List.length_nil, Nat.reduceAdd, Nat.reduceSub, List.replicate_succ, List.replicate_zero, List.cons_append, List.nil_append, List.append_nil])
local macro_rules | `(tactic| fail "ds") => `(tactic| dsimp only [List.set_cons_zero, List.set_cons_succ, List.cons_append, List.nil_append, List.append_nil])
local macro_rules | `(tactic| fail "ex") => `(tactic| first | exact exr _ | assumption | (refine ext ?_ (by assumption); fail "ex") | (refine ext ?_ (Ex.new (by assumption)); fail "ex") | (refine Ex.mut ?_ (by assumption); fail "ex"))
local macro_rules | `(tactic| fail "st") => `(tactic| first | assumption | (refine StAt.mono (by assumption) ?_; fail "ex"))
local macro_rules | `(tactic| fail "ho") => `(tactic| first | assumption | (refine HoleAt.mono (by assumption) ?_; fail "ex"))
local macro_rules | `(tactic| fail "si") => `(tactic| first | assumption | (refine SiteAt.mono (by assumption) ?_; fail "ex"))
local macro_rules | `(tactic| fail "bo") => `(tactic| first | assumption | (refine BoardAt.mono (by assumption) ?_; fail "ex"))
local macro_rules | `(tactic| fail "go1") => `(tactic| with_reducible first
  | apply g_seq | apply g_next | apply g_ret | apply g_drop | apply g_asg | apply g_asg2 | apply g_ifs | (refine g_var (by with_unfolding_all rfl) ?_) | apply g_c | apply g_op | apply g_rI0 | apply g_eqI | apply g_neI | apply g_eqS | apply g_neS
  | apply g_test | apply g_B | apply g_bl | apply g_and | apply g_or | apply g_not | apply g_andV | apply g_orV | apply g_notV | apply g_ife | apply g_nil | apply g_cons | apply g_call | apply g_mkSt | apply g_make | apply g_cb | apply g_bm | apply g_fld | apply g_con | apply g_met | apply g_chain | apply g_put | apply g_tup | apply g_lst
  | apply g_isI | apply g_isB | apply g_isS | apply g_isNon | apply g_notNon | apply g_str | apply g_inS | apply g_notInS | apply g_un | apply g_sl | apply g_pn | apply g_ps | apply g_in | apply g_for | apply g_iL | apply g_iT | apply g_iS | apply g_iR1 | apply g_iR2 | apply g_lc | apply w_S | apply c_S | apply g_yes | apply g_par | apply g_two | (refine g_aug (by with_unfolding_all rfl) ?_) | apply g_ipI | apply g_mkK | apply g_star | apply g_mkSK | apply g_revS | apply g_revT | apply g_revL | apply g_cmK | apply m_cmK | apply g_lc2 | apply g_lenSet
  | apply iteT | apply iteF | (refine y_if (by decide) ?_) | (refine n_if (by decide) ?_)
  | (refine sp_within (by fail "st") (by fail "st") ?_) | (refine met_St (by fail "st") (by decide +kernel) (by decide +kernel) ?_)
  | (refine r_must (by assumption) (by fail "ho") ?_; intro m hm) | (refine r_may (by assumption) (by fail "ho") ?_; intro m hm) | (refine r_site (by assumption) (by fail "ho") ?_) | (refine r_number (by assumption) (by fail "ho") ?_) | (refine r_hdepth (by assumption) (by fail "ho") ?_) | (refine r_hpat (by assumption) (by fail "ho") ?_) | (refine r_kind (by assumption) (by fail "ho") ?_)
  | (refine r_sname (by assumption) (by fail "si") ?_) | (refine r_spic (by assumption) (by fail "si") ?_) | (refine r_skind (by assumption) (by fail "si") ?_) | (refine r_sdepth (by assumption) (by fail "si") ?_) | (refine r_spat (by assumption) (by fail "si") ?_) | (refine r_sparts (by assumption) (by fail "si") ?_; intro pt hpt) | (refine r_sholes (by assumption) (by fail "si") ?_; intro hl has hhl hhas)
  | (refine r_blayers (by assumption) (by fail "bo") ?_) | (refine r_bsites (by assumption) (by fail "bo") ?_; intro st sts hst hsts) | (refine r_bholes (by assumption) (by fail "bo") ?_; intro bl bhs hbl hbhs)
  | (refine r_low (by assumption) (by fail "st") ?_) | (refine r_high (by assumption) (by fail "st") ?_))
local macro_rules | `(tactic| fail "go") => `(tactic| ((repeat (first | fail "go1" | (fail "ds"; fail "go1"))); (try fail "ds")))
local macro_rules | `(tactic| fail "sz") => `(tactic| (refine Evl.sz_of ?_; simp only [List.length_cons, List.length_nil, List.length_append, List.length_map, List.length_take, List.length_drop]; omega))
-- END MACROS
/-! ### sides -/
def inW (c : Cut) (st : Int × Int) : Bool := decide (st.1 ≤ c.1.1 ∧ c.1.2 ≤ st.2)
def thrW (c : Cut) (st : Int × Int) : Bool := inW c st && decide (c.2.1 ≤ st.1 ∧ st.2 ≤ c.2.2)
def upW (c : Cut) (depth : Int) (st : Int × Int) : Bool := inW c st && decide (c.2.1 ≤ st.1 ∧ c.1.2 - st.1 ≤ depth)
def dnW (c : Cut) (depth : Int) (st : Int × Int) : Bool := inW c st && decide (st.2 ≤ c.2.2 ∧ st.2 - c.1.1 ≤ depth)
def waysB (c : Cut) (depth : Int) (st : Int × Int) : List Way := (if upW c depth st then [.up] else []) ++ (if dnW c depth st then [.dn] else [])
def waysT (L : List Way) (c : Cut) (st : Int × Int) : List Way := if thrW c st then .thr :: L else L
def waysM : Kd → Cut → Int → Int × Int → List Way
  | .thr => fun c _ st => waysT [] c st
  | .bli => fun c d st => waysB c d st
  | .eit => fun c d st => waysT (waysB c d st) c st
abbrev wv (w : Way) : V := .str w.str
abbrev WF := Cut → Int → Int × Int → List Way
def spSides (K : PySem.W.Frag) (kd : Kd) (L : WF) : Sp := fun vs H Q _ => ∃ (a s : Addr) (c : Cut) (name : Str) (num depth pat : Int) (st : Int × Int), vs = [.ref a, .ref s] ∧ HoleAt K H a kd c name num depth pat ∧ StAt K H s st ∧ ∀ r H', Ex H H' → SqT K H' r ((L c depth st).map wv) → Q (.ref r) H'
section
variable {P : Program} {w : World} {K : PySem.W.Frag} {mg : Str → Option Value} {base : Heap}
theorem sc_hole_sides : FnScope ["self", "stretch"] ["self", "stretch"] (defScope s_hole_sides) := C8.fnScope_by (by decide +kernel)
theorem ok_hole_sides0 (T : TX K mg) (kd : Kd) : ∃ fd, FnOk P w K mg base L2.CX0 1 (f_hole_sides K) fd ["self", "stretch"] (spSides K kd fun _ _ _ => []) ∧ Binds K fd ["self", "stretch"] [] := by
  refine fnRD T.d_hole_sides sc_hole_sides (fun _ _ _ _ _ _ us hl => match us, hl with | [_, _], _ => rfl) (fun vs H Q E h => ?_) (fun cdv A outer s H vs Q E hr h => ?_)
  · obtain ⟨a, s, c, name, num, depth, pat, st, rfl, _⟩ := h
    rfl
  · obtain ⟨a, s, c, name, num, depth, pat, st, rfl, ha, hs, k⟩ := h
    refine ⟨_, (pss_one (ps_ret (pe_tup pa_nil))), ?_⟩
    fail "in"
    fail "go"
    refine ⟨by fail "sz", fun r nr => ?_⟩
    exact k r _ (Ex.new nr) (.inl (.inl upd_same))
theorem sc_blind_sides : FnScopeS ["self", "stretch", "found"] ["self", "stretch"] (defScope s_blind_sides) := ⟨rfl, rfl, rfl, by decide +kernel, rfl, by decide +kernel, by decide +kernel, by decide +kernel, rfl, rfl⟩
theorem sc_through_sides : FnScopeS ["self", "stretch", "further"] ["self", "stretch"] (defScope s_through_sides) := ⟨rfl, rfl, rfl, by decide +kernel, rfl, by decide +kernel, by decide +kernel, by decide +kernel, rfl, rfl⟩
theorem sc_either_sides : FnScopeS ["self", "stretch"] ["self", "stretch"] (defScope s_either_sides) := ⟨rfl, rfl, rfl, by decide +kernel, rfl, by decide +kernel, by decide +kernel, by decide +kernel, rfl, rfl⟩
theorem sides_len {kd : Kd} {L : WF} (vs : List V) (H : Hp) (Q : VK) (E : XK) (h : spSides K kd L vs H Q E) : vs.length = 2 := by
  obtain ⟨a, s, c, name, num, depth, pat, st, rfl, _⟩ := h
  rfl
theorem ok_side_bl (hP : P = prg) (T : TX K mg) (kd : Kd) (U : Sup K (kd.cls K) (c_Blind K) "sides" (f_hole_sides K)) : ∃ fd, FnOk P w K mg base L2.CX0 2 (f_blind_sides K) fd ["self", "stretch"] (spSides K kd waysB) ∧ Binds K fd ["self", "stretch"] [] := by
  refine supX T.d_blind_sides sc_blind_sides (fun _ _ _ _ _ _ _ us hl => match us, hl with | [_, _], _ => rfl) sides_len (fun cda cc A outer s₀ H vs Q E hr hf h => ?_)
  · refine ⟨_, pssA_cons (psA_set (i := 2) sc_blind_sides.nd rfl rfl (peA_callTy call_listQ (by rfl) T.b_list (by decide +kernel) (peA_super hP sc_blind_sides rfl rfl rfl rfl hf.1 hf.2.1 hf.2.2 T.b_super T.noany U (by decide) (frOf (ok_hole_sides0 T kd)) hr pass0 (pa_cons (pv 1) pa_nil))))
      (Evl.pss_cut (ps_if (pt_val (C8.pe_mt (ok_stretch_within T) hr (by decide) (pe_fld (pv 0) rfl) (pa_cons (pv 1) pa_nil))) (Evl.pss_cut (ps_if (PW.pt (pw_and (pt_cmpR op_le (pe_fld (pe_fld (pv 0) rfl) rfl) (pe_fld (pv 1) rfl) (nomark _)) (pw_and1 (pt_cmpR op_le (pe_op op_sub (pe_fld (pe_fld (pv 0) rfl) rfl) (pe_fld (pv 1) rfl)) (pe_fld (pv 0) rfl) (nomark _))))) (pss_one (ps_expr (pe_bm PySem.F.plainAttrs_list PySem.F.slot_list_append PySem.F.type_list_append mt_append (pv 2) (pa_cons pe_str pa_nil)))) pss_nil)
      (pss_one (ps_if (PW.pt (pw_and (pt_cmpR op_le (pe_fld (pv 1) rfl) (pe_fld (pe_fld (pv 0) rfl) rfl) (nomark _)) (pw_and1 (pt_cmpR op_le (pe_op op_sub (pe_fld (pv 1) rfl) (pe_fld (pe_fld (pv 0) rfl) rfl)) (pe_fld (pv 0) rfl) (nomark _))))) (pss_one (ps_expr (pe_bm PySem.F.plainAttrs_list PySem.F.slot_list_append PySem.F.type_list_append mt_append (pv 2) (pa_cons pe_str pa_nil)))) pss_nil))) pss_nil)
      (pss_one (ps_ret (pe_callTy call_tupQ (by rfl) T.b_tuple (by decide +kernel) (pa_cons (pv 2) pa_nil))))), ?_⟩
    obtain ⟨a, s, c, name, num, depth, pat, st, rfl, ha, hs, k⟩ := h
    obtain ⟨dx, m, y, ha', hm, hy⟩ := id ha
    dsimp only [cxS]
    fail "in"
    fail "go"
    refine g_sup rfl ha' ?_
    fail "go"
    refine ⟨a, s, c, name, num, depth, pat, st, rfl, ha, hs, fun r H1 e1 hr => ?_⟩
    fail "go"
    refine g_listU hr fun l nl => ?_
    fail "go"
    have nl0 : H l = none := fresh_back e1 nl
    have e2 : Ex H (upd H1 l (.lst (List.map wv []))) := ext e1 (Ex.new nl)
    refine g_cutM (fun σ Hc => Ex H Hc ∧ Hc l = some (.lst ((waysB c depth st).map wv)) ∧ σ = [some (.ref a), some (.ref s), some (.ref l)]) ?_ ?_
    rotate_left
    · rintro σ Hc ⟨e3, hl, rfl⟩
      fail "go"
      refine g_tupL (.inl (.inl hl)) fun r nr => ?_
      exact k r _ (ext e3 (Ex.new nr)) (.inl (.inl upd_same))
    fail "go"
    rw [show decide (st.1 ≤ c.1.1 ∧ c.1.2 ≤ st.2) = inW c st from rfl]
    cases hw : inW c st with
    | false =>
      refine n_if rfl ?_
      fail "go"
      refine ⟨e2, ?_, rfl⟩
      unfold waysB upW dnW
      rw [hw]
      exact upd_same
    | true =>
      refine y_if rfl ?_
      refine g_cutM (fun σ Hc => ∃ L : List Way, L.length ≤ 1 ∧ Ex H Hc ∧ Hc l = some (.lst (L.map wv)) ∧ σ = [some (.ref a), some (.ref s), some (.ref l)] ∧ waysB c depth st = L ++ (if dnW c depth st then [.dn] else [])) ?_ ?_
      · refine g_ifs (ans_go (b := decide (c.2.1 ≤ st.1 ∧ c.1.2 - st.1 ≤ depth)) (fun QB q => ?_) ?_)
        · fail "go"
          refine g_if (fun h1 => ?_) (fun h1 => ?_)
          · fail "go"
            rwa [← da_t h1] at q
          · rwa [← da_f h1] at q
        · refine g_if (fun h1 => ?_) (fun h1 => ?_)
          · fail "go"
            refine g_lst' (.inl (.inl upd_same)) ?_
            fail "go"
            refine g_app upd_same (by simp) ?_
            fail "go"
            refine ⟨[.up], by simp, Ex.mut e2 nl0, upd_same, rfl, ?_⟩
            unfold waysB upW
            rw [hw, decide_eq_true h1]
            rfl
          · fail "go"
            refine ⟨[], by simp, e2, upd_same, rfl, ?_⟩
            unfold waysB upW
            rw [hw, decide_eq_false h1]
            rfl
      · rintro σ Hc ⟨L, hL, e3, hl, rfl, hB⟩
        refine g_ifs (ans_go (b := decide (st.2 ≤ c.2.2 ∧ st.2 - c.1.1 ≤ depth)) (fun QB q => ?_) ?_)
        · fail "go"
          refine g_if (fun h1 => ?_) (fun h1 => ?_)
          · fail "go"
            rwa [← da_t h1] at q
          · rwa [← da_f h1] at q
        · refine g_if (fun h1 => ?_) (fun h1 => ?_)
          · fail "go"
            refine g_lst' (.inl (.inl hl)) ?_
            fail "go"
            refine g_app hl (by rw [List.length_map]; omega) ?_
            fail "go"
            refine ⟨Ex.mut e3 nl0, ?_, rfl⟩
            rw [hB]
            unfold dnW
            rw [hw, decide_eq_true h1, List.map_append]
            exact upd_same
          · fail "go"
            refine ⟨e3, ?_, rfl⟩
            rw [hB]
            unfold dnW
            rw [hw, decide_eq_false h1]
            show Hc l = some (.lst (List.map wv (L ++ [])))
            rw [List.append_nil]
            exact hl
theorem ok_side_th (hP : P = prg) (T : TX K mg) (kd : Kd) (L : WF) (hL : ∀ c d st, (L c d st).length ≤ 10) {g : Addr} (U : Sup K (kd.cls K) (c_Through K) "sides" g) (G : FnR P w K mg base L2.CX0 2 g (spSides K kd L)) : ∃ fd, FnOk P w K mg base L2.CX0 3 (f_through_sides K) fd ["self", "stretch"] (spSides K kd fun c d st => waysT (L c d st) c st) ∧ Binds K fd ["self", "stretch"] [] := by
  refine supX T.d_through_sides sc_through_sides (fun _ _ _ _ _ _ _ us hl => match us, hl with | [_, _], _ => rfl) sides_len (fun cda cc A outer s₀ H vs Q E hr hf h => ?_)
  · refine ⟨_, pssA_cons (psA_set (i := 2) sc_through_sides.nd rfl rfl (peA_super hP sc_through_sides rfl rfl rfl rfl hf.1 hf.2.1 hf.2.2 T.b_super T.noany U (by decide) G hr pass0 (pa_cons (pv 1) pa_nil)))
      (pss_cons (ps_if (PW.pt (pw_and (pt_val (C8.pe_mt (ok_stretch_within T) hr (by decide) (pe_fld (pv 0) rfl) (pa_cons (pv 1) pa_nil))) (pw_and1 (pt_val (C8.pe_mt (ok_stretch_within T) hr (by decide) (pv 1) (pa_cons (pe_fld (pv 0) rfl) pa_nil)))))) (pss_one (ps_ret (pe_tup (pa_cons pe_str (StX.pa_star (pv 2) pa_nil))))) pss_nil)
      (pss_one (ps_ret (pv 2)))), ?_⟩
    obtain ⟨a, s, c, name, num, depth, pat, st, rfl, ha, hs, k⟩ := h
    obtain ⟨dx, m, y, ha', hm, hy⟩ := id ha
    dsimp only [cxS]
    fail "in"
    fail "go"
    refine g_sup rfl ha' ?_
    fail "go"
    refine ⟨a, s, c, name, num, depth, pat, st, rfl, ha, hs, fun r H1 e1 hr => ?_⟩
    fail "go"
    refine g_if (fun h1 => ?_) (fun h1 => ?_)
    · fail "go"
      refine g_if (fun h2 => ?_) (fun h2 => ?_)
      · fail "go"
        refine ⟨r, _, rfl, .inl hr, ?_⟩
        fail "go"
        refine ⟨Evl.sz_of (by have := hL c depth st; simp; omega), fun q nq => ?_⟩
        refine k q _ (ext e1 (Ex.new nq)) (.inl (.inl ?_))
        show _ = some (HO.tup (List.map wv (waysT (L c depth st) c st)))
        unfold waysT thrW inW
        rw [decide_eq_true h1, decide_eq_true h2, upd_same, List.append_nil]
        rfl
      · fail "go"
        refine k r _ e1 ?_
        show SqT K H1 r (List.map wv (waysT (L c depth st) c st))
        unfold waysT thrW
        rw [decide_eq_false h2, Bool.and_false]
        exact hr
    · fail "go"
      refine k r _ e1 ?_
      show SqT K H1 r (List.map wv (waysT (L c depth st) c st))
      unfold waysT thrW inW
      rw [decide_eq_false h1, Bool.false_and]
      exact hr
theorem ok_side_ei (hP : P = prg) (T : TX K mg) (L : WF) (G : FnR P w K mg base L2.CX0 3 (f_through_sides K) (spSides K .eit L)) : ∃ fd, FnOk P w K mg base L2.CX0 4 (f_either_sides K) fd ["self", "stretch"] (spSides K .eit L) ∧ Binds K fd ["self", "stretch"] [] := by
  refine supX T.d_either_sides sc_either_sides (fun _ _ _ _ _ _ _ us hl => match us, hl with | [_, _], _ => rfl) sides_len (fun cda cc A outer s₀ H vs Q E hr hf h => ?_)
  · refine ⟨_, pssA_cons (psA_ret (peA_super hP sc_either_sides rfl rfl rfl rfl hf.1 hf.2.1 hf.2.2 T.b_super T.noany T.su_Either_Either_sides (by decide) G hr pass0 (pa_cons (pv 1) pa_nil))) pss_nil, ?_⟩
    obtain ⟨a, s, c, name, num, depth, pat, st, rfl, ha, hs, k⟩ := h
    obtain ⟨dx, m, y, ha', hm, hy⟩ := id ha
    fail "in"
    fail "go"
    refine g_sup rfl ha' ?_
    fail "go"
    exact ⟨a, s, c, name, num, depth, pat, st, rfl, ha, hs, k⟩
theorem waysB_len (c : Cut) (d : Int) (st : Int × Int) : (waysB c d st).length ≤ 2 := by
  unfold waysB
  rw [List.length_append]
  split <;> split <;> simp
theorem ok_hole_sides (hP : P = prg) (T : TX K mg) (kd : Kd) : C8.Met P w K mg base 4 (kd.cls K) "sides" (spSides K kd (waysM kd)) [] := by
  cases kd with
  | thr =>
    obtain ⟨fd, F, b⟩ := ok_side_th (P := P) (w := w) (base := base) hP T .thr (fun _ _ _ => []) (fun _ _ _ => Nat.zero_le _) T.su_Through_Through_sides ((frOf (ok_hole_sides0 T .thr)).mono (by decide))
    exact metOf ⟨fd, F.mono (by decide), b⟩ T.cl_Through T.me_through_sides
  | bli =>
    obtain ⟨fd, F, b⟩ := ok_side_bl (P := P) (w := w) (base := base) hP T .bli T.su_Blind_Blind_sides
    exact metOf ⟨fd, F.mono (by decide), b⟩ T.cl_Blind T.me_blind_sides
  | eit =>
    obtain ⟨fd, F, b⟩ := ok_side_ei (P := P) (w := w) (base := base) hP T _ (frOf (ok_side_th hP T .eit waysB (fun c d st => Nat.le_trans (waysB_len c d st) (by decide)) T.su_Either_Through_sides (frOf (ok_side_bl hP T .eit T.su_Either_Blind_sides))))
    exact metOf ⟨fd, F, b⟩ T.cl_Either T.me_either_sides
end
end PN

/-! The cuts; the holes of a picture. -/
namespace PN
set_option maxRecDepth 100000
set_option maxHeartbeats 4000000
open PySem PySem.Spec PyProof.Rows L2
open Evl (Ex Ex.new Ex.mut ex_l ex_t fresh_back)
-- MACROS
local macro_rules | `(tactic| fail "in") => `(tactic| dsimp only [cxOf, Cx.nox, Cx.wish, L2.start, List.map, List.length_cons, List.length_nil, Nat.reduceAdd, Nat.reduceSub, List.replicate_succ, List.replicate_zero, List.cons_append, List.nil_append, List.append_nil])
local macro_rules | `(tactic| fail "ds") => `(tactic| dsimp only [List.set_cons_zero, List.set_cons_succ, List.cons_append, List.nil_append, List.append_nil])
local macro_rules | `(tactic| fail "ex") => `(tactic| first | exact exr _ | assumption | (refine ext ?_ (by assumption); fail "ex") | (refine ext ?_ (Ex.new (by assumption)); fail "ex") | (refine Ex.mut ?_ (by assumption); fail "ex"))
local macro_rules | `(tactic| fail "st") => `(tactic| first | assumption | (refine StAt.mono (by assumption) ?_; fail "ex"))
local macro_rules | `(tactic| fail "ho") => `(tactic| first | assumption | (refine HoleAt.mono (by assumption) ?_; fail "ex"))
local macro_rules | `(tactic| fail "si") => `(tactic| first | assumption | (refine SiteAt.mono (by assumption) ?_; fail "ex"))
local macro_rules | `(tactic| fail "bo") => `(tactic| first | assumption | (refine BoardAt.mono (by assumption) ?_; fail "ex"))
local macro_rules | `(tactic| fail "go1") => `(tactic| with_reducible first
  | apply g_seq | apply g_next | apply g_ret | apply g_drop | apply g_asg | apply g_asg2 | apply g_ifs | (refine g_var (by with_unfolding_all rfl) ?_) | apply g_c | apply g_op | apply g_rI0 | apply g_eqI | apply g_neI | apply g_eqS | apply g_neS
  | apply g_test | apply g_B | apply g_bl | apply g_and | apply g_or | apply g_not | apply g_andV | apply g_orV | apply g_notV | apply g_ife | apply g_nil | apply g_cons | apply g_call | apply g_mkSt | apply g_make | apply g_cb | apply g_bm | apply g_fld | apply g_con | apply g_met | apply g_chain | apply g_put | apply g_tup | apply g_lst
  | apply g_isI | apply g_isB | apply g_isS | apply g_isNon | apply g_notNon | apply g_str | apply g_inS | apply g_notInS | apply g_un | apply g_sl | apply g_pn | apply g_ps | apply g_in | apply g_for | apply g_iL | apply g_iT | apply g_iS | apply g_iR1 | apply g_iR2 | apply g_lc | apply w_S | apply c_S | apply g_yes | apply g_par | apply g_two | (refine g_aug (by with_unfolding_all rfl) ?_) | apply g_ipI | apply g_mkK | apply g_star | apply g_mkSK | apply g_revS | apply g_revT | apply g_revL | apply g_cmK | apply m_cmK | apply g_lc2 | apply g_lenSet
  | apply iteT | apply iteF | (refine y_if (by decide) ?_) | (refine n_if (by decide) ?_)
  | (refine sp_within (by fail "st") (by fail "st") ?_) | (refine met_St (by fail "st") (by decide +kernel) (by decide +kernel) ?_)
  | (refine r_must (by assumption) (by fail "ho") ?_; intro m hm) | (refine r_may (by assumption) (by fail "ho") ?_; intro m hm) | (refine r_site (by assumption) (by fail "ho") ?_) | (refine r_number (by assumption) (by fail "ho") ?_) | (refine r_hdepth (by assumption) (by fail "ho") ?_) | (refine r_hpat (by assumption) (by fail "ho") ?_) | (refine r_kind (by assumption) (by fail "ho") ?_)
  | (refine r_sname (by assumption) (by fail "si") ?_) | (refine r_spic (by assumption) (by fail "si") ?_) | (refine r_skind (by assumption) (by fail "si") ?_) | (refine r_sdepth (by assumption) (by fail "si") ?_) | (refine r_spat (by assumption) (by fail "si") ?_) | (refine r_sparts (by assumption) (by fail "si") ?_; intro pt hpt) | (refine r_sholes (by assumption) (by fail "si") ?_; intro hl has hhl hhas)
  | (refine r_blayers (by assumption) (by fail "bo") ?_) | (refine r_bsites (by assumption) (by fail "bo") ?_; intro st sts hst hsts) | (refine r_bholes (by assumption) (by fail "bo") ?_; intro bl bhs hbl hbhs)
  | (refine r_low (by assumption) (by fail "st") ?_) | (refine r_high (by assumption) (by fail "st") ?_))
local macro_rules | `(tactic| fail "go") => `(tactic| ((repeat (first | fail "go1" | (fail "ds"; fail "go1"))); (try fail "ds")))
local macro_rules | `(tactic| fail "sz") => `(tactic| (refine Evl.sz_of ?_; simp only [List.length_cons, List.length_nil, List.length_append, List.length_map, List.length_take, List.length_drop]; omega))
-- END MACROS
/-! ### two lists, item by item -/
def All2 {α β : Type} (R : Nat → α → β → Prop) (xs : List α) (ys : List β) : Prop := xs.length = ys.length ∧ ∀ i x y, xs[i]? = some x → ys[i]? = some y → R i x y
section
variable {α β : Type} {R R' : Nat → α → β → Prop} {xs : List α} {ys : List β}
theorem All2.nil : All2 R [] [] := ⟨rfl, fun i x y h => by simp at h⟩
theorem All2.snoc {x : α} {y : β} (h : All2 R xs ys) (q : R xs.length x y) : All2 R (xs ++ [x]) (ys ++ [y]) := by
  refine ⟨by simp [h.1], fun i a b ha hb => ?_⟩
  rcases Nat.lt_trichotomy i xs.length with z | z | z
  · rw [List.getElem?_append_left z] at ha
    rw [List.getElem?_append_left (by rw [← h.1]; exact z)] at hb
    exact h.2 i a b ha hb
  · subst z
    have e : xs.length = ys.length := h.1
    rw [List.getElem?_concat_length] at ha
    rw [e, List.getElem?_concat_length] at hb
    rw [← Option.some.inj ha, ← Option.some.inj hb]
    exact q
  · rw [List.getElem?_eq_none (by simp; omega)] at ha
    cases ha
theorem All2.imp (h : All2 R xs ys) (q : ∀ i x y, R i x y → R' i x y) : All2 R' xs ys := ⟨h.1, fun i x y a b => q i x y (h.2 i x y a b)⟩
theorem All2.get (h : All2 R xs ys) {i : Nat} {y : β} (hy : ys[i]? = some y) : ∃ x, xs[i]? = some x ∧ R i x y := by
  have hl := (List.getElem?_eq_some_iff.mp hy).1
  have hx : i < xs.length := by rw [h.1]; exact hl
  exact ⟨xs[i], List.getElem?_eq_getElem hx, h.2 i _ y (List.getElem?_eq_getElem hx) hy⟩
theorem All2.getL (h : All2 R xs ys) {i : Nat} {x : α} (hx : xs[i]? = some x) : ∃ y, ys[i]? = some y ∧ R i x y := by
  have hl := (List.getElem?_eq_some_iff.mp hx).1
  have hy : i < ys.length := by rw [← h.1]; exact hl
  exact ⟨ys[i], List.getElem?_eq_getElem hy, h.2 i x _ hx (List.getElem?_eq_getElem hy)⟩
end
abbrev rfs (as : List Addr) : List V := as.map V.ref
abbrev nts (ns : List Int) : List V := ns.map V.int
theorem rf_at {as : List Addr} {i : Nat} {x : V} (h : (rfs as)[i]? = some x) : ∃ a, as[i]? = some a ∧ x = .ref a := by
  unfold rfs at h
  rw [List.getElem?_map] at h
  cases e : as[i]? with
  | none => rw [e] at h; cases h
  | some c =>
    rw [e] at h
    exact ⟨c, rfl, (Option.some.inj h).symm⟩
theorem nt_at {as : List Int} {i : Nat} {x : V} (h : (nts as)[i]? = some x) : ∃ a, as[i]? = some a ∧ x = .int a := by
  unfold nts at h
  rw [List.getElem?_map] at h
  cases e : as[i]? with
  | none => rw [e] at h; cases h
  | some c =>
    rw [e] at h
    exact ⟨c, rfl, (Option.some.inj h).symm⟩
theorem take_snoc {α : Type} {l : List α} {i : Nat} {x : α} (h : l[i]? = some x) : l.take (i + 1) = l.take i ++ [x] := by
  rw [List.take_add_one, h]
  rfl
section
variable {K : PySem.W.Frag}
def PairAt (K : PySem.W.Frag) (H : Hp) (_ : Nat) (t : Addr) (c : Cut) : Prop := ∃ a b, SqT K H t [.ref a, .ref b] ∧ StAt K H a c.1 ∧ StAt K H b c.2
theorem PairAt.nono {H H' : Hp} {i : Nat} {t : Addr} {c : Cut} (h : PairAt K H i t c) (e : ExN H H') : PairAt K H' i t c := by
  obtain ⟨a, b, h1, h2, h3⟩ := h
  exact ⟨a, b, exn_u e h1, h2.nono e, h3.nono e⟩
/-- a good cutting: stretches within 1 .. 99, the parts rising -/
structure CutOk (must may : Int × Int) (parts : List Int) : Prop where
  a : 1 ≤ may.1
  b : may.1 ≤ must.1
  c : must.1 < must.2
  d : must.2 ≤ may.2
  e : may.2 ≤ 99
  up : parts.Pairwise (· < ·)
  few : parts.length ≤ 100
def spCutAt (K : PySem.W.Frag) : Sp := fun vs H Q _ => ∃ (m y pt : Addr) (must may : Int × Int) (parts : List Int), vs = [.ref m, .ref y, .ref pt] ∧ StAt K H m must ∧ StAt K H y may ∧ SqT K H pt (nts parts) ∧ CutOk must may parts ∧
  ∀ l H' ts, Ex H H' → H l = none → H' l = some (.lst (rfs ts)) → All2 (PairAt K H') ts (cutAt must may parts) → Q (.ref l) H'
end
section
variable {P : Program} {w : World} {K : PySem.W.Frag} {mg : Str → Option Value} {base : Heap}
theorem sc_cut_at : FnScope ["must", "may", "layers", "ends", "layer", "found", "low", "least"] ["must", "may", "layers"] (defScope s_cut_at) := C8.fnScope_by (by decide +kernel)
theorem ok_cut_at (T : TX K mg) : C8.Cal P w K mg base 4 "cut_at" (spCutAt K) [] := by
  refine calD T.d_cut_at T.g_cut_at sc_cut_at (fun _ _ _ _ _ _ us hl => match us, hl with | [_, _, _], _ => rfl) (fun vs H Q E h => ?_) (fun cdv A outer s H vs Q E hr h => ?_)
  · obtain ⟨m, y, pt, must, may, parts, rfl, _⟩ := h
    rfl
  · obtain ⟨m, y, pt, must, may, parts, rfl, hm, hy, hp, ok, k⟩ := h
    refine ⟨_, (pss_cons (ps_setLc (i := 3) (own := [("layer", 4)]) (g := gName 4) (tt := (tTest (tChain (rI0 fun i j => .bl (decide (i < j))) (rI0 fun i j => .bl (decide (i < j))) (tFld K (tVar 0) "low") (tVar 4) (tFld K (tVar 0) "high")))) (te := (tVar 4)) (by rfl) sc_cut_at.nd rfl rfl (sw_true rfl rfl rfl (by decide +kernel)) (pi_tup (pv 2)) (blkOk_by (own := [("layer", 4)]) (N := ["must", "may", "layers", "ends", "layer", "found", "low", "least"]) (sc := defScope s_cut_at) (by decide +kernel)) (fun _ _ _ _ _ => (pg_name (i := 4) sc_cut_at.nd rfl (by first | exact Or.inl rfl | exact Or.inr rfl))) (fun _ _ _ _ _ => pts_one (pt_chain op_lt op_lt (pe_fld (pv 0) rfl) (pv 4) (pe_fld (pv 0) rfl))) (fun _ _ _ _ _ => (pv 4)))
      (pss_cons (ps_set (i := 5) sc_cut_at.nd rfl (by first | exact Or.inl rfl | exact Or.inr rfl) (pe_lst pa_nil))
      (pss_cons (ps_par (i := 6) (j := 7) rfl sc_cut_at.nd rfl rfl (by decide) rfl rfl (pa_cons (pe_fld (pv 0) rfl) (pa_cons (pe_fld (pv 1) rfl) pa_nil)) rfl)
      (pss_cons (ps_for PassesOwn.never rfl (pi_list (pv 3)) (pg_name (i := 4) sc_cut_at.nd rfl (by first | exact Or.inl rfl | exact Or.inr rfl)) (pss_cons (ps_expr (pe_bm PySem.F.plainAttrs_list PySem.F.slot_list_append PySem.F.type_list_append mt_append (pv 5) (pa_cons (pe_tup (pa_cons (C8.pe_mk (ok_stretch_init T) hr (by decide) (by rfl) (pa_cons (pv 6) (pa_cons (pv 4) pa_nil))) (pa_cons (C8.pe_mk (ok_stretch_init T) hr (by decide) (by rfl) (pa_cons (pv 7) (pa_cons (pv 4) pa_nil))) pa_nil))) pa_nil)))
      (pss_one (ps_asg2 (pv 4) (pg_name (i := 6) sc_cut_at.nd rfl (by first | exact Or.inl rfl | exact Or.inr rfl)) (pg_name (i := 7) sc_cut_at.nd rfl (by first | exact Or.inl rfl | exact Or.inr rfl))))))
      (pss_cons (ps_expr (pe_bm PySem.F.plainAttrs_list PySem.F.slot_list_append PySem.F.type_list_append mt_append (pv 5) (pa_cons (pe_tup (pa_cons (C8.pe_mk (ok_stretch_init T) hr (by decide) (by rfl) (pa_cons (pv 6) (pa_cons (pe_fld (pv 0) rfl) pa_nil))) (pa_cons (C8.pe_mk (ok_stretch_init T) hr (by decide) (by rfl) (pa_cons (pv 7) (pa_cons (pe_fld (pv 1) rfl) pa_nil))) pa_nil))) pa_nil)))
      (pss_one (ps_ret (pv 5)))))))), ?_⟩
    fail "in"
    fail "go"
    refine c_T hp ?_
    have hfew := ok.few
    refine lc_by (H := H) it_t (fun H1 e => exn_u (exn e) hp) (by rw [List.length_map]; omega) (fun i ys _ => ys = nts ((parts.take i).filter fun e => decide (must.1 < e ∧ e < must.2))) rfl (fun _ _ _ _ _ h => h) (fun x => rfl) ?_ ?_
    · rintro i x ys H1 hi e1 rfl no yes hno hyes
      obtain ⟨e, he, rfl⟩ := nt_at hi
      fail "go"
      refine g_if (fun h1 => ?_) (fun h1 => ?_)
      · fail "go"
        refine g_if (fun h2 => ?_) (fun h2 => ?_)
        · fail "go"
          refine hyes _ _ (exr _) ?_
          rw [take_snoc he, List.filter_append, List.filter_cons, if_pos (by simp [h1, h2])]
          simp [nts]
        · fail "go"
          refine hno _ (exr _) ?_
          rw [take_snoc he, List.filter_append, List.filter_cons, if_neg (by simp [h1, h2])]
          simp [nts]
      · fail "go"
        refine hno _ (exr _) ?_
        rw [take_snoc he, List.filter_append, List.filter_cons, if_neg (by simp [h1])]
        simp [nts]
    · rintro D ys H1 nD e1 hD rfl
      rw [List.length_map, List.take_length] at hD
      fail "go"
      refine ⟨by fail "sz", fun l nl => ?_⟩
      fail "go"
      have e2 : Ex H1 (upd H1 l (.lst [])) := Ex.new nl
      have hD2 := e2 _ _ hD
      refine w_L (.inl (.inl hD2)) ?_
      have hes : ∀ e ∈ parts.filter (fun e => decide (must.1 < e ∧ e < must.2)), must.1 < e ∧ e < must.2 := fun e he => by simpa using (List.mem_filter.mp he).2
      have hup : (parts.filter (fun e => decide (must.1 < e ∧ e < must.2))).Pairwise (· < ·) := ok.up.filter _
      have hlen : (parts.filter (fun e => decide (must.1 < e ∧ e < must.2))).length ≤ 100 := Nat.le_trans (List.length_filter_le _ _) hfew
      have hcut : cutAt must may parts = cutGo must.1 may.1 must.2 may.2 (parts.filter (fun e => decide (must.1 < e ∧ e < must.2))) := rfl
      revert hcut hD hD2 hes hup hlen
      generalize parts.filter (fun e => decide (must.1 < e ∧ e < must.2)) = es
      intro hD hD2 hes hup hlen hcut
      obtain ⟨ok1, ok2, ok3, ok4, ok5, _, _⟩ := ok
      refine loop_by it_l (fun i σ H' => ∃ (lo le : Int) (z : Option V) (ts : List Addr) (done : List Cut), σ = [some (.ref m), some (.ref y), some (.ref pt), some (.ref D), z, some (.ref l), some (.int lo), some (.int le)] ∧ Ex H1 H' ∧ H' l = some (.lst (rfs ts)) ∧
        All2 (PairAt K H') ts done ∧ cutGo must.1 may.1 must.2 may.2 es = done ++ cutGo lo le must.2 may.2 (es.drop i) ∧ may.1 ≤ le ∧ le ≤ lo ∧ lo < must.2 ∧ (∀ e ∈ es.drop i, lo < e) ∧ ts.length = i)
        ⟨must.1, may.1, none, [], [], rfl, e2, upd_same, All2.nil, rfl, Int.le_refl _, ok2, ok3, fun e he => (hes e he).1, rfl⟩
        (fun i σ H' _ ⟨_, _, _, _, _, _, e, _⟩ => .inl (.inl (e _ _ hD))) ?_ ?_
      · rintro i x σ H2 hi ⟨lo, le, z, ts, done, rfl, e3, hl, ha, hc, q1, q2, q3, q4, q5⟩
        obtain ⟨e, he, rfl⟩ := nt_at hi
        have hlt := (List.getElem?_eq_some_iff.mp he).1
        have hmem := List.mem_of_getElem? he
        have hdrop : es.drop i = e :: es.drop (i + 1) := by
          rw [List.drop_eq_getElem_cons hlt]
          congr 1
          rw [List.getElem?_eq_getElem hlt] at he
          exact Option.some.inj he
        have hup2 : (e :: es.drop (i + 1)).Pairwise (· < ·) := by
          rw [← hdrop]
          exact hup.sublist (List.drop_sublist i es)
        have hlo : lo < e := q4 e (by rw [hdrop]; exact List.mem_cons_self)
        have hb := hes e hmem
        show tSeq _ _ _ _ _
        fail "go"
        refine g_lst' (.inl (.inl hl)) ?_
        fail "go"
        refine m_St (by omega) (by omega) (by omega) fun a H3 na e4 sa => ?_
        fail "go"
        refine m_St (by omega) (by omega) (by omega) fun b H4 nb e5 sb => ?_
        fail "go"
        refine ⟨by fail "sz", fun t nt => ?_⟩
        have e6 : Ex H2 (upd H4 t (.tup [.ref a, .ref b])) := ext e4 (ext e5 (Ex.new nt))
        fail "go"
        refine g_app (e6 _ _ hl) (by rw [List.length_map]; omega) ?_
        fail "go"
        have hl6 := e6 _ _ hl
        have e7 := exn_l (ys := rfs ts ++ [.ref t]) hl6
        refine ⟨e, e, _, ts ++ [t], done ++ [((lo, e), (le, e))], rfl, Ex.mut (ext e3 e6) nl, ?_, ?_, ?_, by omega, Int.le_refl _, hb.2, (List.pairwise_cons.mp hup2).1, by simp [q5]⟩
        · rw [upd_same]
          simp [rfs]
        · refine (ha.imp fun j x y q => PairAt.nono (q.nono (exn e6)) e7).snoc ?_
          exact PairAt.nono (H := upd H4 t (.tup [.ref a, .ref b])) ⟨a, b, .inl (.inl upd_same), (sa.mono e5).mono (Ex.new nt), sb.mono (Ex.new nt)⟩ e7
        · rw [hc, hdrop, List.append_assoc]
          rfl
      · rintro σ H2 ⟨lo, le, z, ts, done, rfl, e3, hl, ha, hc, q1, q2, q3, q4, q5⟩
        rw [List.length_map, List.drop_length] at hc
        rw [List.length_map] at q5
        fail "go"
        refine g_lst' (.inl (.inl hl)) ?_
        fail "go"
        refine m_St (by omega) (by omega) (by omega) fun a H3 na e4 sa => ?_
        fail "go"
        refine m_St (by omega) (by omega) (by omega) fun b H4 nb e5 sb => ?_
        fail "go"
        refine ⟨by fail "sz", fun t nt => ?_⟩
        have e6 : Ex H2 (upd H4 t (.tup [.ref a, .ref b])) := ext e4 (ext e5 (Ex.new nt))
        fail "go"
        refine g_app (e6 _ _ hl) (by rw [List.length_map]; omega) ?_
        fail "go"
        have hl6 := e6 _ _ hl
        have e7 := exn_l (ys := rfs ts ++ [.ref t]) hl6
        refine k l _ (ts ++ [t]) (ext e1 (Ex.mut (ext e3 e6) nl)) (fresh_back e1 nl) (by rw [upd_same]; simp [rfs]) ?_
        rw [hcut, hc]
        refine (ha.imp fun j x y q => PairAt.nono (q.nono (exn e6)) e7).snoc ?_
        exact PairAt.nono (H := upd H4 t (.tup [.ref a, .ref b])) ⟨a, b, .inl (.inl upd_same), (sa.mono e5).mono (Ex.new nt), sb.mono (Ex.new nt)⟩ e7
end
end PN

/-! The holes of a picture. -/
namespace PN
set_option maxRecDepth 100000
set_option maxHeartbeats 4000000
open PySem PySem.Spec PyProof.Rows L2
open Evl (Ex Ex.new Ex.mut ex_l ex_t fresh_back)
-- MACROS
local macro_rules | `(tactic| fail "in") => `(tactic| dsimp only [cxOf, Cx.nox, Cx.wish, L2.start, List.map, List.length_cons, List.length_nil, Nat.reduceAdd, Nat.reduceSub, List.replicate_succ, List.replicate_zero, List.cons_append, List.nil_append, List.append_nil])
local macro_rules | `(tactic| fail "ds") => `(tactic| dsimp only [List.set_cons_zero, List.set_cons_succ, List.cons_append, List.nil_append, List.append_nil])
local macro_rules | `(tactic| fail "ex") => `(tactic| first | exact exr _ | assumption | (refine ext ?_ (by assumption); fail "ex") | (refine ext ?_ (Ex.new (by assumption)); fail "ex") | (refine Ex.mut ?_ (by assumption); fail "ex"))
local macro_rules | `(tactic| fail "st") => `(tactic| first | assumption | (refine StAt.mono (by assumption) ?_; fail "ex"))
local macro_rules | `(tactic| fail "ho") => `(tactic| first | assumption | (refine HoleAt.mono (by assumption) ?_; fail "ex"))
local macro_rules | `(tactic| fail "si") => `(tactic| first | assumption | (refine SiteAt.mono (by assumption) ?_; fail "ex"))
local macro_rules | `(tactic| fail "bo") => `(tactic| first | assumption | (refine BoardAt.mono (by assumption) ?_; fail "ex"))
local macro_rules | `(tactic| fail "go1") => `(tactic| with_reducible first
  | apply g_seq | apply g_next | apply g_ret | apply g_drop | apply g_asg | apply g_asg2 | apply g_ifs | (refine g_var (by with_unfolding_all rfl) ?_) | apply g_c | apply g_op | apply g_rI0 | apply g_eqI | apply g_neI | apply g_eqS | apply g_neS
  | apply g_test | apply g_B | apply g_bl | apply g_and | apply g_or | apply g_not | apply g_andV | apply g_orV | apply g_notV | apply g_ife | apply g_nil | apply g_cons | apply g_call | apply g_mkSt | apply g_make | apply g_cb | apply g_bm | apply g_fld | apply g_con | apply g_met | apply g_chain | apply g_put | apply g_tup | apply g_lst
  | apply g_isI | apply g_isB | apply g_isS | apply g_isNon | apply g_notNon | apply g_str | apply g_inS | apply g_notInS | apply g_un | apply g_sl | apply g_pn | apply g_ps | apply g_in | apply g_for | apply g_iL | apply g_iT | apply g_iS | apply g_iR1 | apply g_iR2 | apply g_lc | apply w_S | apply c_S | apply g_yes | apply g_par | apply g_two | (refine g_aug (by with_unfolding_all rfl) ?_) | apply g_ipI | apply g_mkK | apply g_star | apply g_mkSK | apply g_revS | apply g_revT | apply g_revL | apply g_cmK | apply m_cmK | apply g_lc2 | apply g_lenSet
  | apply iteT | apply iteF | (refine y_if (by decide) ?_) | (refine n_if (by decide) ?_)
  | (refine sp_within (by fail "st") (by fail "st") ?_) | (refine met_St (by fail "st") (by decide +kernel) (by decide +kernel) ?_)
  | (refine r_must (by assumption) (by fail "ho") ?_; intro m hm) | (refine r_may (by assumption) (by fail "ho") ?_; intro m hm) | (refine r_site (by assumption) (by fail "ho") ?_) | (refine r_number (by assumption) (by fail "ho") ?_) | (refine r_hdepth (by assumption) (by fail "ho") ?_) | (refine r_hpat (by assumption) (by fail "ho") ?_) | (refine r_kind (by assumption) (by fail "ho") ?_)
  | (refine r_sname (by assumption) (by fail "si") ?_) | (refine r_spic (by assumption) (by fail "si") ?_) | (refine r_skind (by assumption) (by fail "si") ?_) | (refine r_sdepth (by assumption) (by fail "si") ?_) | (refine r_spat (by assumption) (by fail "si") ?_) | (refine r_sparts (by assumption) (by fail "si") ?_; intro pt hpt) | (refine r_sholes (by assumption) (by fail "si") ?_; intro hl has hhl hhas)
  | (refine r_blayers (by assumption) (by fail "bo") ?_) | (refine r_bsites (by assumption) (by fail "bo") ?_; intro st sts hst hsts) | (refine r_bholes (by assumption) (by fail "bo") ?_; intro bl bhs hbl hbhs)
  | (refine r_low (by assumption) (by fail "st") ?_) | (refine r_high (by assumption) (by fail "st") ?_))
local macro_rules | `(tactic| fail "go") => `(tactic| ((repeat (first | fail "go1" | (fail "ds"; fail "go1"))); (try fail "ds")))
local macro_rules | `(tactic| fail "sz") => `(tactic| (refine Evl.sz_of ?_; simp only [List.length_cons, List.length_nil, List.length_append, List.length_map, List.length_take, List.length_drop]; omega))
-- END MACROS
def HolesAt (K : PySem.W.Frag) (H : Hp) (has : List Addr) (kd : Kd) (name : Str) (depth pat : Int) (cuts : List Cut) : Prop := All2 (fun i a c => HoleAt K H a kd c name (i : Int) depth pat) has cuts
theorem HolesAt.nono {K : PySem.W.Frag} {H H' : Hp} {has : List Addr} {kd : Kd} {name : Str} {depth pat : Int} {cuts : List Cut} (h : HolesAt K H has kd name depth pat cuts) (e : ExN H H') : HolesAt K H' has kd name depth pat cuts := h.imp fun _ _ _ q => q.nono e
def spHolesOf (K : PySem.W.Frag) : Sp := fun vs H Q _ => ∃ (name : Str) (p : List Nat) (pt : Addr) (kd : Kd) (depth pat : Int) (parts : List Int), vs = [.str name, .str (S p), .ref pt, .str kd.str, .int depth, .int pat] ∧ SqT K H pt (nts parts) ∧ parts.Pairwise (· < ·) ∧ parts.length ≤ 100 ∧ p.length ≤ 99 ∧ (holesOf p parts).length ≤ 5000 ∧
  ∀ r H' has, Ex H H' → SqT K H' r (rfs has) → HolesAt K H' has kd name depth pat (holesOf p parts) → Q (.ref r) H'
/-- the holes of the first nets -/
def blk (p : List Nat) (parts : List Int) (c : Nat) : List Cut := if lowOf p c < highOf p c then cutAt (spanOf p c) (roomOf p c) parts else []
theorem holesOf_eq (p : List Nat) (parts : List Int) : holesOf p parts = (netsOf p).flatMap (blk p parts) := rfl
theorem flat_len {p : List Nat} {parts : List Int} (i : Nat) : (((netsOf p).take i).flatMap (blk p parts)).length ≤ (holesOf p parts).length := by
  rw [holesOf_eq]
  conv => rhs; rw [← List.take_append_drop i (netsOf p), List.flatMap_append, List.length_append]
  omega
theorem flat_snoc {p : List Nat} {parts : List Int} {i c : Nat} (h : (netsOf p)[i]? = some c) : ((netsOf p).take (i + 1)).flatMap (blk p parts) = ((netsOf p).take i).flatMap (blk p parts) ++ blk p parts c := by
  rw [take_snoc h, List.flatMap_append]
  simp
section
variable {P : Program} {w : World} {K : PySem.W.Frag} {mg : Str → Option Value} {base : Heap}
theorem sc_holes_of : FnScope ["name", "picture", "parts", "kind", "depth", "patience", "found", "net", "own", "must", "may"] ["name", "picture", "parts", "kind", "depth", "patience"] (defScope s_holes_of) := C8.fnScope_by (by decide +kernel)
theorem ok_holes_of (T : TX K mg) : C8.Cal P w K mg base 6 "holes_of" (spHolesOf K) [] := by
  refine calD T.d_holes_of T.g_holes_of sc_holes_of (fun _ _ _ _ _ _ us hl => match us, hl with | [_, _, _, _, _, _], _ => rfl) (fun vs H Q E h => ?_) (fun cdv A outer s H vs Q E hr h => ?_)
  · obtain ⟨name, p, pt, kd, depth, pat, parts, rfl, _⟩ := h
    rfl
  · obtain ⟨name, p, pt, kd, depth, pat, parts, rfl, hp, hup, hfew, hz, hmost, k⟩ := h
    refine ⟨_, (pss_cons (ps_set (i := 6) sc_holes_of.nd rfl (by first | exact Or.inl rfl | exact Or.inr rfl) (pe_lst pa_nil))
      (pss_cons (ps_for PassesOwn.never rfl (pi_list (C8.pe_c (ok_nets T) hr (by decide) (by rfl) (pa_cons (pv 1) pa_nil))) (pg_name (i := 7) sc_holes_of.nd rfl (by first | exact Or.inl rfl | exact Or.inr rfl)) (pss_cons (ps_set (i := 8) sc_holes_of.nd rfl (by first | exact Or.inl rfl | exact Or.inr rfl) (C8.pe_c (ok_span T) hr (by decide) (by rfl) (pa_cons (pv 1) (pa_cons (pv 7) pa_nil))))
      (pss_one (ps_if (pt_cmpR op_lt (pe_fld (pv 8) rfl) (pe_fld (pv 8) rfl) (nomark _)) (pss_one (ps_for PassesOwn.never rfl (pi_list (C8.pe_c (ok_cut_at T) hr (by decide) (by rfl) (pa_cons (pv 8) (pa_cons (C8.pe_c (ok_room T) hr (by decide) (by rfl) (pa_cons (pv 1) (pa_cons (pv 7) pa_nil))) (pa_cons (pv 2) pa_nil))))) (pg_tup rfl (pgs_cons (pg_name (i := 9) sc_holes_of.nd rfl (by first | exact Or.inl rfl | exact Or.inr rfl)) (pgs_cons (pg_name (i := 10) sc_holes_of.nd rfl (by first | exact Or.inl rfl | exact Or.inr rfl)) pgs_nil))) (pss_one (ps_expr (pe_bm PySem.F.plainAttrs_list PySem.F.slot_list_append PySem.F.type_list_append mt_append (pv 6) (pa_cons (C8.pe_c (ok_hole_of T) hr (by decide) (by rfl) (pa_cons (pv 3) (pa_cons (pv 9) (pa_cons (pv 10) (pa_cons (pv 0) (pa_cons (pe_callB call_lenQ (by rfl) T.b_len PySem.boot_len (pa_cons (pv 6) pa_nil)) (pa_cons (pv 4) (pa_cons (pv 5) pa_nil)))))))) pa_nil)))))) pss_nil))))
      (pss_one (ps_ret (pe_callTy call_tupQ (by rfl) T.b_tuple (by decide +kernel) (pa_cons (pv 6) pa_nil)))))), ?_⟩
    fail "in"
    fail "go"
    refine ⟨by fail "sz", fun l nl => ?_⟩
    fail "go"
    have e1 : Ex H (upd H l (.lst [])) := Ex.new nl
    refine ⟨p, rfl, by omega, fun ln H1 e2 nln hln => ?_⟩
    fail "go"
    have hl1 : H1 l = some (.lst (rfs [])) := e2 _ _ upd_same
    have nlnl : ln ≠ l := fun q => by rw [q, upd_same] at nln; cases nln
    refine w_L (.inl (.inl hln)) ?_
    refine loop_by it_l (fun i σ H' => ∃ (z1 z2 z3 z4 : Option V) (has : List Addr), σ = [some (.str name), some (.str (S p)), some (.ref pt), some (.str kd.str), some (.int depth), some (.int pat), some (.ref l), z1, z2, z3, z4] ∧ Ex H H' ∧ H' ln = some (.lst ((netsOf p).map sg)) ∧
      H' l = some (.lst (rfs has)) ∧ HolesAt K H' has kd name depth pat (((netsOf p).take i).flatMap (blk p parts))) ⟨none, none, none, none, [], rfl, ext e1 e2, hln, hl1, All2.nil⟩ (fun i σ H' _ ⟨_, _, _, _, _, _, _, e, _⟩ => .inl (.inl e)) ?_ ?_
    · rintro i x σ H2 hi ⟨z1, z2, z3, z4, has, rfl, e3, hln2, hl2, hh⟩
      obtain ⟨c, hc, rfl⟩ := sg_at hi
      have hm := ((mem_nets p c).mp (List.mem_of_getElem? hc)).1
      have hfl := flat_len (p := p) (parts := parts) (i + 1)
      rw [flat_snoc hc, List.length_append] at hfl
      rw [flat_snoc hc]
      show tSeq _ _ _ _ _
      fail "go"
      refine ⟨p, c, rfl, hm, hz, fun x H3 e4 hx => ?_⟩
      fail "go"
      refine g_if (fun h1 => ?_) (fun h1 => ?_)
      · have eb : blk p parts c = cutAt (spanOf p c) (roomOf p c) parts := if_pos h1
        fail "go"
        refine ⟨p, c, rfl, hm, hz, fun y H4 e5 hy => ?_⟩
        fail "go"
        have e6 : Ex H2 H4 := ext e4 e5
        refine ⟨x, y, pt, spanOf p c, roomOf p c, parts, rfl, hx.mono e5, hy, exn_u (exn (ext e3 e6)) hp, ⟨room_ge p c, room_low p c, h1, room_high p c, by have := room_le hm; omega, hup, hfew⟩, fun l2 H5 ts e7 nl2 hl2b ha => ?_⟩
        fail "go"
        have e8 : Ex H2 H5 := ext e6 e7
        have n2 : l2 ≠ l := fun q => by rw [q, e6 _ _ hl2] at nl2; cases nl2
        have n3 : ln ≠ l := nlnl
        refine w_L (.inl (.inl hl2b)) ?_
        refine loop_by it_l (fun j σ H' => ∃ (z3 z4 : Option V) (has : List Addr), σ = [some (.str name), some (.str (S p)), some (.ref pt), some (.str kd.str), some (.int depth), some (.int pat), some (.ref l), some (sg c), some (.ref x), z3, z4] ∧ Ex H H' ∧ ExN H5 H' ∧ H' ln = some (.lst ((netsOf p).map sg)) ∧
          H' l2 = some (.lst (rfs ts)) ∧ H' l = some (.lst (rfs has)) ∧ HolesAt K H' has kd name depth pat (((netsOf p).take i).flatMap (blk p parts) ++ (cutAt (spanOf p c) (roomOf p c) parts).take j))
          ⟨_, _, has, rfl, ext e3 e8, exn (exr _), e8 _ _ hln2, hl2b, e8 _ _ hl2, by rw [List.take_zero, List.append_nil]; exact hh.nono (exn e8)⟩ (fun i σ H' _ ⟨_, _, _, _, _, _, _, e, _⟩ => .inl (.inl e)) ?_ ?_
        · rintro j x2 σ H6 hj ⟨z3, z4, has2, rfl, e9, e10, hln6, hl26, hl6, hh6⟩
          obtain ⟨t, ht, rfl⟩ := rf_at hj
          obtain ⟨cut, hcut, a, b, st, sa, sb⟩ := ha.getL ht
          refine g_tg2 (exn_u e10 st) ?_
          have hlen : has2.length ≤ 5000 := by
            have := hh6.1
            rw [List.length_append, List.length_take] at this
            rw [eb] at hfl
            omega
          fail "go"
          refine g_lst' (.inl (.inl hl6)) ?_
          fail "go"
          refine g_lenL (.inl (.inl hl6)) ?_
          fail "go"
          refine ⟨kd, cut, a, b, name, _, depth, pat, rfl, sa.nono e10, sb.nono e10, fun h H7 nh e11 hh7 => ?_⟩
          fail "go"
          have hl7 := e11 _ _ hl6
          refine g_app hl7 (by rw [List.length_map]; omega) ?_
          fail "go"
          have e12 := exn_l (ys := rfs has2 ++ [.ref h]) hl7
          have nl0 : H l = none := nl
          refine ⟨_, _, has2 ++ [h], rfl, Ex.mut (ext e9 e11) nl0, exn_t (exn_t e10 (exn e11)) e12, by rw [upd_ne n3]; exact e11 _ _ hln6, by rw [upd_ne n2]; exact e11 _ _ hl26, by rw [upd_same]; simp [rfs], ?_⟩
          rw [take_snoc hcut, ← List.append_assoc]
          refine (hh6.nono (exn_t (exn e11) e12)).snoc ?_
          rw [List.length_map] at hh7
          exact hh7.nono e12
        · rintro σ H6 ⟨z3, z4, has2, rfl, e9, e10, hln6, hl26, hl6, hh6⟩
          refine ⟨_, _, _, _, has2, rfl, e9, hln6, hl6, ?_⟩
          rw [List.length_map, ha.1, List.take_length] at hh6
          rw [eb]
          exact hh6
      · have eb : blk p parts c = [] := if_neg h1
        fail "go"
        refine ⟨_, _, _, _, has, rfl, ext e3 e4, e4 _ _ hln2, e4 _ _ hl2, ?_⟩
        rw [eb, List.append_nil]
        exact hh.nono (exn e4)
    · rintro σ H2 ⟨z1, z2, z3, z4, has, rfl, e3, hln2, hl2, hh⟩
      rw [List.length_map, List.take_length] at hh
      fail "go"
      refine g_tupL (.inl (.inl hl2)) fun r nr => ?_
      exact k r _ has (ext e3 (Ex.new nr)) (.inl (.inl upd_same)) (hh.nono (exn (Ex.new nr)))
end
end PN

/-! The looks at a site's values. -/
namespace PN
set_option maxRecDepth 100000
set_option maxHeartbeats 4000000
open PySem PySem.Spec PyProof.Rows L2
open Evl (Ex Ex.new Ex.mut ex_l ex_t fresh_back)
-- MACROS
local macro_rules | `(tactic| fail "in") => `(tactic| dsimp only [cxOf, Cx.nox, Cx.wish, L2.start, List.map, List.length_cons, List.length_nil, Nat.reduceAdd, Nat.reduceSub, List.replicate_succ, List.replicate_zero, List.cons_append, List.nil_append, List.append_nil])
local macro_rules | `(tactic| fail "ds") => `(tactic| dsimp only [List.set_cons_zero, List.set_cons_succ, List.cons_append, List.nil_append, List.append_nil])
local macro_rules | `(tactic| fail "ex") => `(tactic| first | exact exr _ | assumption | (refine ext ?_ (by assumption); fail "ex") | (refine ext ?_ (Ex.new (by assumption)); fail "ex") | (refine Ex.mut ?_ (by assumption); fail "ex"))
local macro_rules | `(tactic| fail "st") => `(tactic| first | assumption | (refine StAt.mono (by assumption) ?_; fail "ex"))
local macro_rules | `(tactic| fail "ho") => `(tactic| first | assumption | (refine HoleAt.mono (by assumption) ?_; fail "ex"))
local macro_rules | `(tactic| fail "si") => `(tactic| first | assumption | (refine SiteAt.mono (by assumption) ?_; fail "ex"))
local macro_rules | `(tactic| fail "bo") => `(tactic| first | assumption | (refine BoardAt.mono (by assumption) ?_; fail "ex"))
local macro_rules | `(tactic| fail "go1") => `(tactic| with_reducible first
  | apply g_seq | apply g_next | apply g_ret | apply g_drop | apply g_asg | apply g_asg2 | apply g_ifs | (refine g_var (by with_unfolding_all rfl) ?_) | apply g_c | apply g_op | apply g_rI0 | apply g_eqI | apply g_neI | apply g_eqS | apply g_neS
  | apply g_test | apply g_B | apply g_bl | apply g_and | apply g_or | apply g_not | apply g_andV | apply g_orV | apply g_notV | apply g_ife | apply g_nil | apply g_cons | apply g_call | apply g_mkSt | apply g_make | apply g_cb | apply g_bm | apply g_fld | apply g_con | apply g_met | apply g_chain | apply g_put | apply g_tup | apply g_lst
  | apply g_isI | apply g_isB | apply g_isS | apply g_isNon | apply g_notNon | apply g_str | apply g_inS | apply g_notInS | apply g_un | apply g_sl | apply g_pn | apply g_ps | apply g_in | apply g_for | apply g_iL | apply g_iT | apply g_iS | apply g_iR1 | apply g_iR2 | apply g_lc | apply w_S | apply c_S | apply g_yes | apply g_par | apply g_two | (refine g_aug (by with_unfolding_all rfl) ?_) | apply g_ipI | apply g_mkK | apply g_star | apply g_mkSK | apply g_revS | apply g_revT | apply g_revL | apply g_cmK | apply m_cmK | apply g_lc2 | apply g_lenSet
  | apply iteT | apply iteF | (refine y_if (by decide) ?_) | (refine n_if (by decide) ?_)
  | (refine sp_within (by fail "st") (by fail "st") ?_) | (refine met_St (by fail "st") (by decide +kernel) (by decide +kernel) ?_)
  | (refine r_must (by assumption) (by fail "ho") ?_; intro m hm) | (refine r_may (by assumption) (by fail "ho") ?_; intro m hm) | (refine r_site (by assumption) (by fail "ho") ?_) | (refine r_number (by assumption) (by fail "ho") ?_) | (refine r_hdepth (by assumption) (by fail "ho") ?_) | (refine r_hpat (by assumption) (by fail "ho") ?_) | (refine r_kind (by assumption) (by fail "ho") ?_)
  | (refine r_sname (by assumption) (by fail "si") ?_) | (refine r_spic (by assumption) (by fail "si") ?_) | (refine r_skind (by assumption) (by fail "si") ?_) | (refine r_sdepth (by assumption) (by fail "si") ?_) | (refine r_spat (by assumption) (by fail "si") ?_) | (refine r_sparts (by assumption) (by fail "si") ?_; intro pt hpt) | (refine r_sholes (by assumption) (by fail "si") ?_; intro hl has hhl hhas)
  | (refine r_blayers (by assumption) (by fail "bo") ?_) | (refine r_bsites (by assumption) (by fail "bo") ?_; intro st sts hst hsts) | (refine r_bholes (by assumption) (by fail "bo") ?_; intro bl bhs hbl hbhs)
  | (refine r_low (by assumption) (by fail "st") ?_) | (refine r_high (by assumption) (by fail "st") ?_))
local macro_rules | `(tactic| fail "go") => `(tactic| ((repeat (first | fail "go1" | (fail "ds"; fail "go1"))); (try fail "ds")))
local macro_rules | `(tactic| fail "sz") => `(tactic| (refine Evl.sz_of ?_; simp only [List.length_cons, List.length_nil, List.length_append, List.length_map, List.length_take, List.length_drop]; omega))
-- END MACROS
def lettersL : List Nat := [97, 98, 99, 100, 101, 102, 103, 104, 105, 106, 107, 108, 109, 110, 111, 112, 113, 114, 115, 116, 117, 118, 119, 120, 121, 122]
theorem letters_is : Str.ofString "abcdefghijklmnopqrstuvwxyz" = S lettersL := by kernel_rfl
theorem letter_in {c : Nat} (h1 : 97 ≤ c) (h2 : c ≤ 122) : c ∈ lettersL := by
  have : ∀ k, k < 26 → 97 + k ∈ lettersL := by decide
  have := this (c - 97) (by omega)
  rwa [show 97 + (c - 97) = c by omega] at this
theorem in_letter : ∀ c ∈ lettersL, 97 ≤ c ∧ c ≤ 122 := by decide
theorem let_dec {c : Nat} : decide (c ∈ (Str.ofString "abcdefghijklmnopqrstuvwxyz").1.toList) = decide (97 ≤ c ∧ c ≤ 122) := by
  rw [letters_is, decide_eq_decide]
  exact ⟨fun m => in_letter c m, fun m => letter_in m.1 m.2⟩
abbrev bls (bs : List Bool) : List V := bs.map V.bl
theorem g_all {K : PySem.W.Frag} {H : Hp} {Q : VK} {a : Addr} {bs : List Bool} (h : SqL K H a (bls bs)) (q : Q (.bl (bs.all id)) H) : rAll K [.ref a] H Q := ⟨a, bs, rfl, h, q⟩
theorem all_rep (n : Nat) : (List.replicate n true).all id = true := by
  rw [List.all_eq_true]
  intro x hx
  exact List.eq_of_mem_replicate hx
theorem rep_snoc (n : Nat) : bls (List.replicate n true) ++ [V.bl true] = bls (List.replicate (n + 1) true) := by
  rw [List.replicate_succ', bls, bls, List.map_append]
  rfl
structure NameOk (n : List Nat) : Prop where
  lo : 1 ≤ n.length
  hi : n.length ≤ 8
  ch : ∀ c ∈ n, 97 ≤ c ∧ c ≤ 122
structure PicOk (p : List Nat) : Prop where
  lo : 2 ≤ p.length
  hi : p.length ≤ 16
  ch : ∀ c ∈ p, (97 ≤ c ∧ c ≤ 122) ∨ c = 46
def PartOk (p : List Nat) (k : Int) : Prop := 1 ≤ k ∧ k ≤ p.length ∧ ∃ c, p[(k - 1).toNat]? = some c ∧ c ≠ 46 ∧ lowOf p c < k ∧ k < highOf p c
section
variable {P : Program} {w : World} {K : PySem.W.Frag} {mg : Str → Option Value} {base : Heap}
def spIsName : Sp := fun vs H Q _ => ∃ n : List Nat, vs = [.str (S n)] ∧ NameOk n ∧ ∀ H', Ex H H' → Q (.bl true) H'
theorem sc_is_name : FnScope ["value", "char"] ["value"] (defScope s_is_name) := C8.fnScope_by (by decide +kernel)
theorem ok_is_name (T : TX K mg) : C8.Cal P w K mg base 1 "is_name" spIsName [] := by
  refine calD T.d_is_name T.g_is_name sc_is_name (fun _ _ _ _ _ _ us hl => match us, hl with | [_], _ => rfl) (fun vs H Q E h => ?_) (fun cdv A outer s H vs Q E hr h => ?_)
  · obtain ⟨n, rfl, _⟩ := h
    rfl
  · obtain ⟨n, rfl, ⟨h1, h2, h3⟩, k⟩ := h
    refine ⟨_, (pss_cons (ps_if (PW.pt (pw_or (pt_not (pt_val (pe_callB call_isi (by rfl) T.b_isinstance (by decide +kernel) (pa_cons (pv 0) (pa_cons (pe_bltn (v := .ty "str") (by rfl) T.b_str (by decide +kernel) rfl) pa_nil))))) (pw_or1 (pt_not (pt_chain op_le op_le pe_int (pe_callB call_lenT (by rfl) T.b_len PySem.boot_len (pa_cons (pv 0) pa_nil)) (C8.pe_gc (by rfl) T.vLET)))))) pss_never pss_nil)
      (pss_one (ps_ret (pe_callB (cr_all rfl) (by rfl) T.b_all (by decide +kernel) (pa_cons (pe_lc (own := [("char", 1)]) (g := gName 1) (tt := tYes) (te := (tOp rInS (tVar 1) (tC (.str "abcdefghijklmnopqrstuvwxyz")))) (by rfl) sc_is_name.nd (pi_str (pv 0)) (blkOk_by (own := [("char", 1)]) (N := ["value", "char"]) (sc := defScope s_is_name) (by decide +kernel)) (fun _ _ _ _ _ => (pg_name (i := 1) sc_is_name.nd rfl (by first | exact Or.inl rfl | exact Or.inr rfl))) (fun _ _ _ _ _ => pts_nil) (fun _ _ _ _ _ => (pe_cmpR op_inS (pv 1) (C8.pe_gc (by rfl) T.vLETTERS) rfl))) pa_nil))))), ?_⟩
    fail "in"
    fail "go"
    refine g_lenT (by omega) ?_
    fail "go"
    refine y_if (decide_eq_true (by omega)) ?_
    fail "go"
    rw [decide_eq_true (by omega : (n.length : Int) ≤ 8)]
    fail "go"
    refine lc_by (H := H) it_s (fun H1 e => trivial) (by rw [List.length_map]; omega) (fun i ys _ => ys = bls (List.replicate i true)) rfl (fun _ _ _ _ _ h => h) (fun x => rfl) ?_ ?_
    · rintro i x ys H1 hi e1 rfl no yes hno hyes
      obtain ⟨c, hc, rfl⟩ := sg_at hi
      fail "go"
      rw [let_dec, decide_eq_true (h3 c (List.mem_of_getElem? hc))]
      exact hyes _ _ (exr _) (rep_snoc i)
    · rintro D ys H1 nD e1 hD rfl
      fail "go"
      refine g_all (.inl (.inl hD)) ?_
      rw [all_rep]
      fail "go"
      exact k _ e1
def spIsPicture : Sp := fun vs H Q _ => ∃ n : List Nat, vs = [.str (S n)] ∧ PicOk n ∧ ∀ H', Ex H H' → Q (.bl true) H'
theorem sc_is_picture : FnScope ["value", "char"] ["value"] (defScope s_is_picture) := C8.fnScope_by (by decide +kernel)
theorem ok_is_picture (T : TX K mg) : C8.Cal P w K mg base 1 "is_picture" spIsPicture [] := by
  refine calD T.d_is_picture T.g_is_picture sc_is_picture (fun _ _ _ _ _ _ us hl => match us, hl with | [_], _ => rfl) (fun vs H Q E h => ?_) (fun cdv A outer s H vs Q E hr h => ?_)
  · obtain ⟨n, rfl, _⟩ := h
    rfl
  · obtain ⟨n, rfl, ⟨h1, h2, h3⟩, k⟩ := h
    refine ⟨_, (pss_cons (ps_if (PW.pt (pw_or (pt_not (pt_val (pe_callB call_isi (by rfl) T.b_isinstance (by decide +kernel) (pa_cons (pv 0) (pa_cons (pe_bltn (v := .ty "str") (by rfl) T.b_str (by decide +kernel) rfl) pa_nil))))) (pw_or1 (pt_not (pt_chain op_le op_le pe_int (pe_callB call_lenT (by rfl) T.b_len PySem.boot_len (pa_cons (pv 0) pa_nil)) pe_int))))) pss_never pss_nil)
      (pss_one (ps_ret (pe_callB (cr_all rfl) (by rfl) T.b_all (by decide +kernel) (pa_cons (pe_lc (own := [("char", 1)]) (g := gName 1) (tt := tYes) (te := (tOrV (tOp rInS (tVar 1) (tC (.str "abcdefghijklmnopqrstuvwxyz"))) (tOp rEq (tVar 1) (tC (.str "."))))) (by rfl) sc_is_picture.nd (pi_str (pv 0)) (blkOk_by (own := [("char", 1)]) (N := ["value", "char"]) (sc := defScope s_is_picture) (by decide +kernel)) (fun _ _ _ _ _ => (pg_name (i := 1) sc_is_picture.nd rfl (by first | exact Or.inl rfl | exact Or.inr rfl))) (fun _ _ _ _ _ => pts_nil) (fun _ _ _ _ _ => (pe_or (pe_cmpR op_inS (pv 1) (C8.pe_gc (by rfl) T.vLETTERS) rfl) (pe_one (pe_cmpR op_eq (pv 1) (C8.pe_gc (by rfl) T.vCLEAR) (nomark _)))))) pa_nil))))), ?_⟩
    fail "in"
    fail "go"
    refine g_lenT (by omega) ?_
    fail "go"
    refine y_if (decide_eq_true (by omega)) ?_
    fail "go"
    rw [decide_eq_true (by omega : (n.length : Int) ≤ 16)]
    fail "go"
    refine lc_by (H := H) it_s (fun H1 e => trivial) (by rw [List.length_map]; omega) (fun i ys _ => ys = bls (List.replicate i true)) rfl (fun _ _ _ _ _ h => h) (fun x => rfl) ?_ ?_
    · rintro i x ys H1 hi e1 rfl no yes hno hyes
      obtain ⟨c, hc, rfl⟩ := sg_at hi
      fail "go"
      rw [let_dec]
      refine g_if (fun h => ?_) (fun h => ?_)
      · exact hyes _ _ (exr _) (rep_snoc i)
      · fail "go"
        rw [sg_dot, decide_eq_true ((h3 c (List.mem_of_getElem? hc)).resolve_left h)]
        exact hyes _ _ (exr _) (rep_snoc i)
    · rintro D ys H1 nD e1 hD rfl
      fail "go"
      refine g_all (.inl (.inl hD)) ?_
      rw [all_rep]
      fail "go"
      exact k _ e1
def spIsPart (K : PySem.W.Frag) : Sp := fun vs H Q _ => ∃ (p : List Nat) (a : Int), vs = [.str (S p), .int a] ∧ PartOk p a ∧ p.length ≤ 99 ∧ ∀ H', Ex H H' → Q (.bl true) H'
theorem sc_is_part : FnScope ["picture", "value", "own"] ["picture", "value"] (defScope s_is_part) := C8.fnScope_by (by decide +kernel)
theorem ok_is_part (T : TX K mg) : C8.Cal P w K mg base 5 "is_part" (spIsPart K) [] := by
  refine calD T.d_is_part T.g_is_part sc_is_part (fun _ _ _ _ _ _ us hl => match us, hl with | [_, _], _ => rfl) (fun vs H Q E h => ?_) (fun cdv A outer s H vs Q E hr h => ?_)
  · obtain ⟨p, a, rfl, _⟩ := h
    rfl
  · obtain ⟨p, a, rfl, ⟨h1, h2, c, hc, nc, h3, h4⟩, hz, k⟩ := h
    refine ⟨_, (pss_cons (ps_if (PW.pt (pw_or (pt_not (pt_val (C8.pe_c (ok_is_integer T) hr (by decide) (by rfl) (pa_cons (pv 1) (pa_cons pe_int (pa_cons (pe_callB call_lenT (by rfl) T.b_len PySem.boot_len (pa_cons (pv 0) pa_nil)) pa_nil)))))) (pw_or1 (pt_cmpR op_eq (pe_ix ix_str (pv 0) (pe_op op_sub (pv 1) pe_int) (fun _ _ => rfl)) (C8.pe_gc (by rfl) T.vCLEAR) (nomark _))))) pss_never pss_nil)
      (pss_cons (ps_set (i := 2) sc_is_part.nd rfl (by first | exact Or.inl rfl | exact Or.inr rfl) (C8.pe_c (ok_span T) hr (by decide) (by rfl) (pa_cons (pv 0) (pa_cons (pe_ix ix_str (pv 0) (pe_op op_sub (pv 1) pe_int) (fun _ _ => rfl)) pa_nil))))
      (pss_one (ps_ret (pe_chain op_lt op_lt (pe_fld (pv 2) rfl) (pv 1) (pe_fld (pv 2) rfl)))))), ?_⟩
    have hm := List.mem_of_getElem? hc
    fail "in"
    fail "go"
    refine g_lenT (by omega) ?_
    fail "go"
    refine ⟨_, _, _, rfl, ?_⟩
    rw [decide_eq_true (⟨h1, h2⟩ : 1 ≤ a ∧ a ≤ (p.length : Int))]
    fail "go"
    refine g_ixS (by omega) (atI_nn (by omega) hc) ?_
    fail "go"
    rw [sg_dot, decide_eq_false nc]
    fail "go"
    refine g_ixS (by omega) (atI_nn (by omega) hc) ?_
    fail "go"
    refine ⟨p, c, rfl, hm, hz, fun x H1 e1 hx => ?_⟩
    fail "go"
    rw [decide_eq_true (show (spanOf p c).1 < a from h3)]
    fail "go"
    rw [decide_eq_true (show a < (spanOf p c).2 from h4)]
    exact k _ e1
def spAreParts (K : PySem.W.Frag) : Sp := fun vs H Q _ => ∃ (p : List Nat) (pt : Addr) (parts : List Int), vs = [.str (S p), .ref pt] ∧ SqT K H pt (nts parts) ∧ (∀ a ∈ parts, PartOk p a) ∧ parts.Pairwise (· < ·) ∧ parts.length ≤ 100 ∧ p.length ≤ 99 ∧ ∀ H', Ex H H' → Q (.bl true) H'
theorem sc_are_parts : FnScope ["picture", "parts", "part", "at"] ["picture", "parts"] (defScope s_are_parts) := C8.fnScope_by (by decide +kernel)
theorem ok_are_parts (T : TX K mg) : C8.Cal P w K mg base 6 "are_parts" (spAreParts K) [] := by
  refine calD T.d_are_parts T.g_are_parts sc_are_parts (fun _ _ _ _ _ _ us hl => match us, hl with | [_, _], _ => rfl) (fun vs H Q E h => ?_) (fun cdv A outer s H vs Q E hr h => ?_)
  · obtain ⟨p, pt, parts, rfl, _⟩ := h
    rfl
  · obtain ⟨p, pt, parts, rfl, hp, hok, hup, hfew, hz, k⟩ := h
    refine ⟨_, (pss_cons (ps_if (pt_not (pt_val (pe_callB (cr_all rfl) (by rfl) T.b_all (by decide +kernel) (pa_cons (pe_lc (own := [("part", 2)]) (g := gName 2) (tt := tYes) (te := (tCall (spIsPart K) [] C8.E0 (tCons (tVar 0) (tCons (tVar 2) tNil)))) (by rfl) sc_are_parts.nd (pi_tup (pv 1)) (blkOk_by (own := [("part", 2)]) (N := ["picture", "parts", "part", "at"]) (sc := defScope s_are_parts) (by decide +kernel)) (fun _ _ _ _ _ => (pg_name (i := 2) sc_are_parts.nd rfl (by first | exact Or.inl rfl | exact Or.inr rfl))) (fun _ _ _ _ _ => pts_nil) (fun _ _ _ _ _ => (C8.pe_c (ok_is_part T) hr (by decide) (by rfl) (pa_cons (pv 0) (pa_cons (pv 2) pa_nil))))) pa_nil)))) pss_never pss_nil)
      (pss_one (ps_ret (pe_callB (cr_all rfl) (by rfl) T.b_all (by decide +kernel) (pa_cons (pe_lc (own := [("at", 3)]) (g := gName 3) (tt := tYes) (te := (tOp (rI0 fun i j => .bl (decide (i < j))) (tOp (rIxT K) (tVar 1) (tVar 3)) (tOp (rIxT K) (tVar 1) (tOp (rI0 fun i j => .int (i + j)) (tVar 3) (tC (.int 1)))))) (by rfl) sc_are_parts.nd (pi_range1 (by rfl) T.b_range (pa_cons (pe_op op_sub (pe_callB call_lenQ (by rfl) T.b_len PySem.boot_len (pa_cons (pv 1) pa_nil)) pe_int) pa_nil)) (blkOk_by (own := [("at", 3)]) (N := ["picture", "parts", "part", "at"]) (sc := defScope s_are_parts) (by decide +kernel)) (fun _ _ _ _ _ => (pg_name (i := 3) sc_are_parts.nd rfl (by first | exact Or.inl rfl | exact Or.inr rfl))) (fun _ _ _ _ _ => pts_nil) (fun _ _ _ _ _ => (pe_cmpR op_lt (pe_ix ix_tup (pv 1) (pv 3) (fun _ _ => rfl)) (pe_ix ix_tup (pv 1) (pe_op op_add (pv 3) pe_int) (fun _ _ => rfl)) (nomark _)))) pa_nil))))), ?_⟩
    fail "in"
    fail "go"
    refine c_T hp ?_
    refine lc_by (H := H) it_t (fun H1 e => exn_u (exn e) hp) (by rw [List.length_map]; omega) (fun i ys _ => ys = bls (List.replicate i true)) rfl (fun _ _ _ _ _ h => h) (fun x => rfl) ?_ ?_
    · rintro i x ys H1 hi e1 rfl no yes hno hyes
      obtain ⟨a, ha, rfl⟩ := nt_at hi
      fail "go"
      exact ⟨p, a, rfl, hok a (List.mem_of_getElem? ha), hz, fun H2 e2 => hyes _ _ e2 (rep_snoc i)⟩
    · rintro D ys H1 nD e1 hD rfl
      fail "go"
      refine g_all (.inl (.inl hD)) ?_
      rw [all_rep]
      fail "go"
      have hp1 := exn_u (exn e1) hp
      refine g_lenU hp1 ?_
      fail "go"
      refine c_R1 (by rw [List.length_map]; omega) ?_
      refine lc_by (H := H1) it_r (fun H1 e => trivial) (by rw [ivs_len, List.length_map]; omega) (fun i ys _ => ys = bls (List.replicate i true)) rfl (fun _ _ _ _ _ h => h) (fun x => rfl) ?_ ?_
      · rintro i x ys H2 hi e2 rfl no yes hno hyes
        obtain ⟨hlt, rfl⟩ := ivs_at hi
        rw [List.length_map] at hlt
        have hp2 := exn_u (exn e2) hp1
        have i1 : i < parts.length := by omega
        have i2 : i + 1 < parts.length := by omega
        fail "go"
        refine g_ixT hp2 (atI_nn (v := .int parts[i]) (by omega) (by rw [show ((0 : Int) + (i : Int)).toNat = i by omega, List.getElem?_map, List.getElem?_eq_getElem i1]; rfl)) ?_
        fail "go"
        refine g_ixT hp2 (atI_nn (v := .int parts[i + 1]) (by omega) (by rw [show ((0 : Int) + (i : Int) + 1).toNat = i + 1 by omega, List.getElem?_map, List.getElem?_eq_getElem i2]; rfl)) ?_
        fail "go"
        rw [decide_eq_true (List.pairwise_iff_getElem.mp hup i (i + 1) i1 i2 (by omega))]
        exact hyes _ _ (exr _) (rep_snoc i)
      · rintro D2 ys H2 nD2 e2 hD2 rfl
        fail "go"
        refine g_all (.inl (.inl hD2)) ?_
        rw [all_rep]
        exact k _ (ext e1 e2)
end
end PN

/-! Sites. -/
namespace PN
set_option maxRecDepth 100000
set_option maxHeartbeats 4000000
open PySem PySem.Spec PyProof.Rows L2
open Evl (Ex Ex.new Ex.mut ex_l ex_t fresh_back)
-- MACROS
local macro_rules | `(tactic| fail "in") => `(tactic| dsimp only [cxOf, Cx.nox, Cx.wish, L2.start, List.map, List.length_cons, List.length_nil, Nat.reduceAdd, Nat.reduceSub, List.replicate_succ, List.replicate_zero, List.cons_append, List.nil_append, List.append_nil])
local macro_rules | `(tactic| fail "ds") => `(tactic| dsimp only [List.set_cons_zero, List.set_cons_succ, List.cons_append, List.nil_append, List.append_nil])
local macro_rules | `(tactic| fail "ex") => `(tactic| first | exact exr _ | assumption | (refine ext ?_ (by assumption); fail "ex") | (refine ext ?_ (Ex.new (by assumption)); fail "ex") | (refine Ex.mut ?_ (by assumption); fail "ex"))
local macro_rules | `(tactic| fail "st") => `(tactic| first | assumption | (refine StAt.mono (by assumption) ?_; fail "ex"))
local macro_rules | `(tactic| fail "ho") => `(tactic| first | assumption | (refine HoleAt.mono (by assumption) ?_; fail "ex"))
local macro_rules | `(tactic| fail "si") => `(tactic| first | assumption | (refine SiteAt.mono (by assumption) ?_; fail "ex"))
local macro_rules | `(tactic| fail "bo") => `(tactic| first | assumption | (refine BoardAt.mono (by assumption) ?_; fail "ex"))
local macro_rules | `(tactic| fail "go1") => `(tactic| with_reducible first
  | apply g_seq | apply g_next | apply g_ret | apply g_drop | apply g_asg | apply g_asg2 | apply g_ifs | (refine g_var (by with_unfolding_all rfl) ?_) | apply g_c | apply g_op | apply g_rI0 | apply g_eqI | apply g_neI | apply g_eqS | apply g_neS
  | apply g_test | apply g_B | apply g_bl | apply g_and | apply g_or | apply g_not | apply g_andV | apply g_orV | apply g_notV | apply g_ife | apply g_nil | apply g_cons | apply g_call | apply g_mkSt | apply g_make | apply g_cb | apply g_bm | apply g_fld | apply g_con | apply g_met | apply g_chain | apply g_put | apply g_tup | apply g_lst
  | apply g_isI | apply g_isB | apply g_isS | apply g_isNon | apply g_notNon | apply g_str | apply g_inS | apply g_notInS | apply g_un | apply g_sl | apply g_pn | apply g_ps | apply g_in | apply g_for | apply g_iL | apply g_iT | apply g_iS | apply g_iR1 | apply g_iR2 | apply g_lc | apply w_S | apply c_S | apply g_yes | apply g_par | apply g_two | (refine g_aug (by with_unfolding_all rfl) ?_) | apply g_ipI | apply g_mkK | apply g_star | apply g_mkSK | apply g_revS | apply g_revT | apply g_revL | apply g_cmK | apply m_cmK | apply g_lc2 | apply g_lenSet
  | apply iteT | apply iteF | (refine y_if (by decide) ?_) | (refine n_if (by decide) ?_)
  | (refine sp_within (by fail "st") (by fail "st") ?_) | (refine met_St (by fail "st") (by decide +kernel) (by decide +kernel) ?_)
  | (refine r_must (by assumption) (by fail "ho") ?_; intro m hm) | (refine r_may (by assumption) (by fail "ho") ?_; intro m hm) | (refine r_site (by assumption) (by fail "ho") ?_) | (refine r_number (by assumption) (by fail "ho") ?_) | (refine r_hdepth (by assumption) (by fail "ho") ?_) | (refine r_hpat (by assumption) (by fail "ho") ?_) | (refine r_kind (by assumption) (by fail "ho") ?_)
  | (refine r_sname (by assumption) (by fail "si") ?_) | (refine r_spic (by assumption) (by fail "si") ?_) | (refine r_skind (by assumption) (by fail "si") ?_) | (refine r_sdepth (by assumption) (by fail "si") ?_) | (refine r_spat (by assumption) (by fail "si") ?_) | (refine r_sparts (by assumption) (by fail "si") ?_; intro pt hpt) | (refine r_sholes (by assumption) (by fail "si") ?_; intro hl has hhl hhas)
  | (refine r_blayers (by assumption) (by fail "bo") ?_) | (refine r_bsites (by assumption) (by fail "bo") ?_; intro st sts hst hsts) | (refine r_bholes (by assumption) (by fail "bo") ?_; intro bl bhs hbl hbhs)
  | (refine r_low (by assumption) (by fail "st") ?_) | (refine r_high (by assumption) (by fail "st") ?_))
local macro_rules | `(tactic| fail "go") => `(tactic| ((repeat (first | fail "go1" | (fail "ds"; fail "go1"))); (try fail "ds")))
local macro_rules | `(tactic| fail "sz") => `(tactic| (refine Evl.sz_of ?_; simp only [List.length_cons, List.length_nil, List.length_append, List.length_map, List.length_take, List.length_drop]; omega))
-- END MACROS
structure Row where
  name : List Nat
  pic : List Nat
  kd : Kd
  depth : Int
  pat : Int
  parts : List Int
structure RowOk (r : Row) : Prop where
  name : NameOk r.name
  pic : PicOk r.pic
  mix : NonMixed r.pic
  d1 : 1 ≤ r.depth
  d2 : r.depth ≤ 15
  p1 : 0 ≤ r.pat
  p2 : r.pat ≤ 15
  part : ∀ a ∈ r.parts, PartOk r.pic a
  up : r.parts.Pairwise (· < ·)
  few : r.parts.length ≤ 2
def Row.holes (r : Row) : List Cut := holesOf r.pic r.parts
theorem RowOk.most {r : Row} (h : RowOk r) : (holesOf r.pic r.parts).length ≤ 48 := by
  have h1 := holes_len r.pic r.parts
  have h2 := h.pic.hi
  have h3 := h.few
  have : r.pic.length * (r.parts.length + 1) ≤ 16 * 3 := Nat.mul_le_mul h2 (by omega)
  omega
/-! ### turned over -/
def mirror (r : Row) : Row := { r with pic := r.pic.reverse, parts := turnParts r.pic.length r.parts }
theorem mirror_mirror (r : Row) : mirror (mirror r) = r := by
  unfold mirror
  simp only [List.reverse_reverse, List.length_reverse]
  rw [turnParts_turn]
theorem PartOk.turn {p : List Nat} {a : Int} (h : PartOk p a) : PartOk p.reverse (p.length + 1 - a) := by
  obtain ⟨h1, h2, c, hc, nc, h3, h4⟩ := h
  refine ⟨by omega, by rw [List.length_reverse]; omega, c, ?_, nc, by rw [low_rev]; omega, by rw [high_rev]; omega⟩
  rw [List.getElem?_reverse (by omega), show p.length - 1 - ((p.length : Int) + 1 - a - 1).toNat = (a - 1).toNat by omega]
  exact hc
theorem turn_up {n : Int} {l : List Int} (h : l.Pairwise (· < ·)) : (turnParts n l).Pairwise (· < ·) := by
  unfold turnParts
  rw [List.pairwise_reverse, List.pairwise_map]
  exact h.imp fun q => by omega
theorem RowOk.mirror {r : Row} (h : RowOk r) : RowOk (mirror r) where
  name := h.name
  pic := ⟨by show 2 ≤ r.pic.reverse.length; rw [List.length_reverse]; exact h.pic.lo, by show r.pic.reverse.length ≤ 16; rw [List.length_reverse]; exact h.pic.hi, fun c hc => h.pic.ch c (List.mem_reverse.mp hc)⟩
  mix := h.mix.rev
  d1 := h.d1
  d2 := h.d2
  p1 := h.p1
  p2 := h.p2
  part := fun a ha => by
    have ha : a ∈ (r.parts.map fun e => (r.pic.length : Int) + 1 - e).reverse := ha
    rw [List.mem_reverse, List.mem_map] at ha
    obtain ⟨b, hb, rfl⟩ := ha
    exact (h.part b hb).turn
  up := turn_up h.up
  few := by
    show (r.parts.map fun e => (r.pic.length : Int) + 1 - e).reverse.length ≤ 2
    rw [List.length_reverse, List.length_map]
    exact h.few
theorem mirror_holes {r : Row} (h : RowOk r) : (mirror r).holes = (r.holes.map (turnCut r.pic.length)).reverse := holes_rev h.mix r.parts

/-! ### data that is equal -/
theorem lay_ints : ∀ ns : List Int, PyData.canLayAll0 (ns.map PyData.int) = true
  | [] => by simp [PyData.canLayAll0]
  | n :: ns => by
    rw [List.map_cons, PyData.canLayAll0, lay_ints ns]
    simp [PyData.canLay0]
theorem deep_ints : ∀ ns : List Int, PyData.depthAll (ns.map PyData.int) = 0
  | [] => by simp [PyData.depthAll]
  | n :: ns => by
    rw [List.map_cons, PyData.depthAll, deep_ints ns]
    simp [PyData.depth]
theorem shaped_tup (ns : List Int) : SeqAt.shaped (.tuple (ns.map PyData.int)) = true := by
  unfold SeqAt.shaped
  rw [PyData.canLay0, lay_ints, PyData.depth, deep_ints]
  rfl
theorem shaped_lst (ns : List Int) : SeqAt.shaped (.list (ns.map PyData.int)) = true := by
  unfold SeqAt.shaped
  rw [PyData.canLay0, lay_ints, PyData.depth, deep_ints]
  rfl
theorem g_neSame {K : PySem.W.Frag} {H : Hp} {Q : VK} {x y : V} {d : PyData} (h1 : Dp K H x d) (h2 : Dp K H y d) (hs : SeqAt.shaped d = true) (q : Q (.bl false) H) : rNeD K x y H Q :=
  ⟨d, d, h1, h2, hs, hs, by rw [SeqAt.eqv_refl d (SeqAt.canLay_of_shaped hs)]; exact q⟩
theorem dp_ints {K : PySem.W.Frag} {H : Hp} : ∀ ns : List Int, DpAll K H (nts ns) (ns.map PyData.int)
  | [] => .nil
  | n :: ns => .cons (.int n) (dp_ints ns)
theorem g_neP {K : PySem.W.Frag} {H : Hp} {Q : VK} {a b : Addr} {ns : List Int} (h1 : SqT K H a (nts ns)) (h2 : SqT K H b (nts ns)) (q : Q (.bl false) H) : rNeD K (.ref a) (.ref b) H Q :=
  g_neSame (.tup h1 (dp_ints ns)) (.tup h2 (dp_ints ns)) (shaped_tup ns) q

/-! ### sites in the heap -/
abbrev siF (name pic : List Nat) (pt : Addr) (kd : Kd) (depth pat : Int) (hl : Addr) : List (Str × V) := [("name", .str (S name)), ("picture", .str (S pic)), ("parts", .ref pt), ("kind", .str kd.str), ("depth", .int depth), ("patience", .int pat), ("holes", .ref hl)]
def SiteAt (K : PySem.W.Frag) (H : Hp) (a : Addr) (r : Row) : Prop := ∃ dx pt hl has, H a = some (.ins (c_Site K) dx (siF r.name r.pic pt r.kd r.depth r.pat hl)) ∧ SqT K H pt (nts r.parts) ∧ SqT K H hl (rfs has) ∧ HolesAt K H has r.kd (S r.name) r.depth r.pat (holesOf r.pic r.parts)
section
variable {K : PySem.W.Frag} {mg : Str → Option Value} {H H' : Hp} {a : Addr} {r : Row} {Q : VK}
theorem SiteAt.nono (h : SiteAt K H a r) (e : ExN H H') : SiteAt K H' a r := by
  obtain ⟨dx, pt, hl, has, h1, h2, h3, h4⟩ := h
  exact ⟨dx, pt, hl, has, e _ _ (fun _ q => by cases q) h1, exn_u e h2, exn_u e h3, h4.nono e⟩
theorem SiteAt.mono (h : SiteAt K H a r) (e : Ex H H') : SiteAt K H' a r := h.nono (exn e)
section
variable {name pic : List Nat} {pt hl : Addr} {kd : Kd} {depth pat : Int}
theorem si_name : (siF name pic pt kd depth pat hl).lookup ("name" : Str) = some (.str (S name)) := lk0
theorem si_pic : (siF name pic pt kd depth pat hl).lookup ("picture" : Str) = some (.str (S pic)) := lk1 (by decide +kernel) lk0
theorem si_parts : (siF name pic pt kd depth pat hl).lookup ("parts" : Str) = some (.ref pt) := lk1 (by decide +kernel) (lk1 (by decide +kernel) lk0)
theorem si_kind : (siF name pic pt kd depth pat hl).lookup ("kind" : Str) = some (.str kd.str) := lk1 (by decide +kernel) (lk1 (by decide +kernel) (lk1 (by decide +kernel) lk0))
theorem si_depth : (siF name pic pt kd depth pat hl).lookup ("depth" : Str) = some (.int depth) := lk1 (by decide +kernel) (lk1 (by decide +kernel) (lk1 (by decide +kernel) (lk1 (by decide +kernel) lk0)))
theorem si_pat : (siF name pic pt kd depth pat hl).lookup ("patience" : Str) = some (.int pat) := lk1 (by decide +kernel) (lk1 (by decide +kernel) (lk1 (by decide +kernel) (lk1 (by decide +kernel) (lk1 (by decide +kernel) lk0))))
theorem si_holes : (siF name pic pt kd depth pat hl).lookup ("holes" : Str) = some (.ref hl) := lk1 (by decide +kernel) (lk1 (by decide +kernel) (lk1 (by decide +kernel) (lk1 (by decide +kernel) (lk1 (by decide +kernel) (lk1 (by decide +kernel) lk0)))))
theorem si_no {f : Str} (h1 : (f == ("name" : Str)) = false) (h2 : (f == ("picture" : Str)) = false) (h3 : (f == ("parts" : Str)) = false) (h4 : (f == ("kind" : Str)) = false) (h5 : (f == ("depth" : Str)) = false) (h6 : (f == ("patience" : Str)) = false) (h7 : (f == ("holes" : Str)) = false) :
    (siF name pic pt kd depth pat hl).lookup f = none := lk1 h1 (lk1 h2 (lk1 h3 (lk1 h4 (lk1 h5 (lk1 h6 (lk1 h7 lkn))))))
end
theorem r_sname (T : TX K mg) (h : SiteAt K H a r) (q : Q (.str (S r.name)) H) : rFld K "name" (.ref a) H Q := by
  obtain ⟨dx, pt, hl, has, h1, h2⟩ := h
  exact r_fld h1 T.cl_Site T.no_Site_name si_name q
theorem r_spic (T : TX K mg) (h : SiteAt K H a r) (q : Q (.str (S r.pic)) H) : rFld K "picture" (.ref a) H Q := by
  obtain ⟨dx, pt, hl, has, h1, h2⟩ := h
  exact r_fld h1 T.cl_Site T.no_Site_picture si_pic q
theorem r_skind (T : TX K mg) (h : SiteAt K H a r) (q : Q (.str r.kd.str) H) : rFld K "kind" (.ref a) H Q := by
  obtain ⟨dx, pt, hl, has, h1, h2⟩ := h
  exact r_fld h1 T.cl_Site T.no_Site_kind si_kind q
theorem r_sdepth (T : TX K mg) (h : SiteAt K H a r) (q : Q (.int r.depth) H) : rFld K "depth" (.ref a) H Q := by
  obtain ⟨dx, pt, hl, has, h1, h2⟩ := h
  exact r_fld h1 T.cl_Site T.no_Site_depth si_depth q
theorem r_spat (T : TX K mg) (h : SiteAt K H a r) (q : Q (.int r.pat) H) : rFld K "patience" (.ref a) H Q := by
  obtain ⟨dx, pt, hl, has, h1, h2⟩ := h
  exact r_fld h1 T.cl_Site T.no_Site_patience si_pat q
theorem r_sparts (T : TX K mg) (h : SiteAt K H a r) (q : ∀ pt, SqT K H pt (nts r.parts) → Q (.ref pt) H) : rFld K "parts" (.ref a) H Q := by
  obtain ⟨dx, pt, hl, has, h1, h2, h3⟩ := h
  exact r_fld h1 T.cl_Site T.no_Site_parts si_parts (q pt h2)
theorem r_sholes (T : TX K mg) (h : SiteAt K H a r) (q : ∀ hl has, SqT K H hl (rfs has) → HolesAt K H has r.kd (S r.name) r.depth r.pat (holesOf r.pic r.parts) → Q (.ref hl) H) : rFld K "holes" (.ref a) H Q := by
  obtain ⟨dx, pt, hl, has, h1, h2, h3, h4⟩ := h
  exact r_fld h1 T.cl_Site T.no_Site_holes si_holes (q hl has h3 h4)
theorem met_Si {E : XK} {m : Str} {t : TA} {sp : Sp} {dvs : List V} {σ : L2.St} (h : SiteAt K H a r) (h1 : (m == ("name" : Str)) = false) (h2 : (m == ("picture" : Str)) = false) (h3 : (m == ("parts" : Str)) = false) (h4 : (m == ("kind" : Str)) = false) (h5 : (m == ("depth" : Str)) = false) (h6 : (m == ("patience" : Str)) = false) (h7 : (m == ("holes" : Str)) = false)
    (q : t σ H fun vs H2 => sp (.ref a :: (vs ++ dvs)) H2 Q E) : rMet (c_Site K) m t sp dvs E (.ref a) σ H Q := by
  obtain ⟨dx, pt, hl, has, h, _⟩ := h
  exact ⟨a, dx, _, rfl, h, si_no h1 h2 h3 h4 h5 h6 h7, q⟩
/-! a store to another object -/
theorem StAt.put {m : Addr} {s : Int × Int} {C dx : Addr} {fs : List (Str × V)} {o : HO} (h : StAt K H m s) (ha : H a = some (.ins C dx fs)) (hf : fs.lookup ("low" : Str) = none) : StAt K (upd H a o) m s := by
  obtain ⟨dy, h⟩ := h
  refine ⟨dy, ?_⟩
  rw [upd_ne (fun q => ?_)]
  · exact h
  · rw [q, ha] at h
    have e : fs = [(("low" : Str), V.int s.1), (("high" : Str), V.int s.2)] := by
      injection h with h
      injection h
    rw [e, lk0] at hf
    cases hf
theorem HoleAt.put {x : Addr} {kd : Kd} {c : Cut} {name : Str} {num depth pat : Int} {C dx : Addr} {fs : List (Str × V)} {o : HO} (h : HoleAt K H x kd c name num depth pat) (ha : H a = some (.ins C dx fs)) (hf : fs.lookup ("low" : Str) = none) (hf2 : fs.lookup ("must" : Str) = none) : HoleAt K (upd H a o) x kd c name num depth pat := by
  obtain ⟨dy, m, y, h1, h2, h3⟩ := h
  refine ⟨dy, m, y, ?_, h2.put ha hf, h3.put ha hf⟩
  rw [upd_ne (fun q => ?_)]
  · exact h1
  · rw [q, ha] at h1
    have e : fs = hoF m y name num depth pat := by
      injection h1 with h1
      injection h1
    rw [e, ho_must] at hf2
    cases hf2
theorem sqt_put {x : Addr} {xs : List V} {C dx : Addr} {fs : List (Str × V)} {o : HO} (h : SqT K H x xs) (ha : H a = some (.ins C dx fs)) : SqT K (upd H a o) x xs := by
  rcases h with (h | ⟨u, h⟩) | h
  · refine .inl (.inl ?_)
    rw [upd_ne (fun q => by rw [q, ha] at h; cases h)]
    exact h
  · refine .inl (.inr ⟨u, ?_⟩)
    rw [upd_ne (fun q => by rw [q, ha] at h; cases h)]
    exact h
  · exact .inr h
end
section
variable {P : Program} {w : World} {K : PySem.W.Frag} {mg : Str → Option Value} {base : Heap}
/-! ### fault_of_site -/
theorem g_niKinds {H : Hp} {Q : VK} (T : TX K mg) {kd : Kd} (q : Q (.bl false) H) : rIn K true (.str kd.str) (.ref (He.ga K "KINDS")) H Q := by
  refine ⟨_, _, rfl, .inr (T.kinds H), rfl, rfl, ?_⟩
  rw [if_pos rfl, show inV (.str kd.str) [.str "through", .str "blind", .str "either"] = true from by cases kd <;> decide +kernel]
  exact q
def spFault (K : PySem.W.Frag) : Sp := fun vs H Q _ => ∃ (r : Row) (pt : Addr), vs = [.str (S r.name), .str (S r.pic), .ref pt, .str r.kd.str, .int r.depth, .int r.pat] ∧ RowOk r ∧ SqT K H pt (nts r.parts) ∧ ∀ H', Ex H H' → Q .non H'
theorem sc_fault_of_site : FnScope ["name", "picture", "parts", "kind", "depth", "patience"] ["name", "picture", "parts", "kind", "depth", "patience"] (defScope s_fault_of_site) := C8.fnScope_by (by decide +kernel)
theorem ok_fault_of_site (T : TX K mg) : C8.Cal P w K mg base 7 "fault_of_site" (spFault K) [] := by
  refine calD T.d_fault_of_site T.g_fault_of_site sc_fault_of_site (fun _ _ _ _ _ _ us hl => match us, hl with | [_, _, _, _, _, _], _ => rfl) (fun vs H Q E h => ?_) (fun cdv A outer s H vs Q E hr h => ?_)
  · obtain ⟨r, pt, rfl, _⟩ := h
    rfl
  · obtain ⟨r, pt, rfl, ok, hp, k⟩ := h
    refine ⟨_, (pss_cons (ps_if (pt_not (pt_val (C8.pe_c (ok_is_name T) hr (by decide) (by rfl) (pa_cons (pv 0) pa_nil)))) pss_never pss_nil)
      (pss_cons (ps_if (pt_not (pt_val (C8.pe_c (ok_is_picture T) hr (by decide) (by rfl) (pa_cons (pv 1) pa_nil)))) pss_never pss_nil)
      (pss_cons (ps_if (pt_cmpR op_notN1 (C8.pe_c (ok_mixed T) hr (by decide) (by rfl) (pa_cons (pv 1) pa_nil)) pe_non (nomark _)) pss_never pss_nil)
      (pss_cons (ps_if (PW.pt (pw_or (pt_not (pt_val (pe_callB call_isi (by rfl) T.b_isinstance (by decide +kernel) (pa_cons (pv 3) (pa_cons (pe_bltn (v := .ty "str") (by rfl) T.b_str (by decide +kernel) rfl) pa_nil))))) (pw_or1 (pt_cmpR op_notIn_seq (pv 3) (C8.pe_gc (v := .ref (He.ga K "KINDS")) (by rfl) ⟨_, T.g_KINDS, rfl⟩) rfl)))) pss_never pss_nil)
      (pss_cons (ps_if (pt_not (pt_val (C8.pe_c (ok_is_integer T) hr (by decide) (by rfl) (pa_cons (pv 4) (pa_cons pe_int (pa_cons (C8.pe_gc (by rfl) T.vNUM) pa_nil)))))) pss_never pss_nil)
      (pss_cons (ps_if (pt_not (pt_val (C8.pe_c (ok_is_integer T) hr (by decide) (by rfl) (pa_cons (pv 5) (pa_cons pe_int (pa_cons (C8.pe_gc (by rfl) T.vNUM) pa_nil)))))) pss_never pss_nil)
      (pss_one (ps_ret (pe_ifExp (pt_val (C8.pe_c (ok_are_parts T) hr (by decide) (by rfl) (pa_cons (pv 1) (pa_cons (pv 2) pa_nil)))) pe_non pe_str))))))))), ?_⟩
    have hi := ok.pic.hi
    fail "in"
    fail "go"
    refine ⟨r.name, rfl, ok.name, fun H1 e1 => ?_⟩
    fail "go"
    refine ⟨r.pic, rfl, ok.pic, fun H2 e2 => ?_⟩
    fail "go"
    refine ⟨r.pic, rfl, ok.mix, by omega, fun H3 e3 => ?_⟩
    fail "go"
    refine g_niKinds T ?_
    fail "go"
    refine ⟨_, _, _, rfl, ?_⟩
    rw [decide_eq_true (⟨ok.d1, ok.d2⟩ : 1 ≤ r.depth ∧ r.depth ≤ 15)]
    fail "go"
    refine ⟨_, _, _, rfl, ?_⟩
    rw [decide_eq_true (⟨ok.p1, ok.p2⟩ : 0 ≤ r.pat ∧ r.pat ≤ 15)]
    fail "go"
    refine ⟨r.pic, pt, r.parts, rfl, exn_u (exn (by fail "ex" : Ex H H3)) hp, ok.part, ok.up, by have := ok.few; omega, by omega, fun H4 e4 => ?_⟩
    fail "go"
    exact k _ (by fail "ex")
end
end PN

/-! A def with *parts and keywords; sites made, told, turned, compared. -/
namespace PN
set_option maxRecDepth 100000
set_option maxHeartbeats 4000000
open PySem PySem.Spec PyProof.Rows L2
open Evl (Ex Ex.new Ex.mut ex_l ex_t fresh_back)
-- MACROS
local macro_rules | `(tactic| fail "in") => `(tactic| dsimp only [cxOf, Cx.nox, Cx.wish, L2.start, List.map, List.length_cons, List.length_nil, Nat.reduceAdd, Nat.reduceSub, List.replicate_succ, List.replicate_zero, List.cons_append, List.nil_append, List.append_nil])
local macro_rules | `(tactic| fail "ds") => `(tactic| dsimp only [List.set_cons_zero, List.set_cons_succ, List.cons_append, List.nil_append, List.append_nil])
local macro_rules | `(tactic| fail "ex") => `(tactic| first | exact exr _ | assumption | (refine ext ?_ (by assumption); fail "ex") | (refine ext ?_ (Ex.new (by assumption)); fail "ex") | (refine Ex.mut ?_ (by assumption); fail "ex"))
local macro_rules | `(tactic| fail "st") => `(tactic| first | assumption | (refine StAt.mono (by assumption) ?_; fail "ex"))
local macro_rules | `(tactic| fail "ho") => `(tactic| first | assumption | (refine HoleAt.mono (by assumption) ?_; fail "ex"))
local macro_rules | `(tactic| fail "si") => `(tactic| first | assumption | (refine SiteAt.mono (by assumption) ?_; fail "ex"))
local macro_rules | `(tactic| fail "bo") => `(tactic| first | assumption | (refine BoardAt.mono (by assumption) ?_; fail "ex"))
local macro_rules | `(tactic| fail "go1") => `(tactic| with_reducible first
  | apply g_seq | apply g_next | apply g_ret | apply g_drop | apply g_asg | apply g_asg2 | apply g_ifs | (refine g_var (by with_unfolding_all rfl) ?_) | apply g_c | apply g_op | apply g_rI0 | apply g_eqI | apply g_neI | apply g_eqS | apply g_neS
  | apply g_test | apply g_B | apply g_bl | apply g_and | apply g_or | apply g_not | apply g_andV | apply g_orV | apply g_notV | apply g_ife | apply g_nil | apply g_cons | apply g_call | apply g_mkSt | apply g_make | apply g_cb | apply g_bm | apply g_fld | apply g_con | apply g_met | apply g_chain | apply g_put | apply g_tup | apply g_lst
  | apply g_isI | apply g_isB | apply g_isS | apply g_isNon | apply g_notNon | apply g_str | apply g_inS | apply g_notInS | apply g_un | apply g_sl | apply g_pn | apply g_ps | apply g_in | apply g_for | apply g_iL | apply g_iT | apply g_iS | apply g_iR1 | apply g_iR2 | apply g_lc | apply w_S | apply c_S | apply g_yes | apply g_par | apply g_two | (refine g_aug (by with_unfolding_all rfl) ?_) | apply g_ipI | apply g_mkK | apply g_star | apply g_mkSK | apply g_revS | apply g_revT | apply g_revL | apply g_cmK | apply m_cmK | apply g_lc2 | apply g_lenSet
  | apply iteT | apply iteF | (refine y_if (by decide) ?_) | (refine n_if (by decide) ?_)
  | (refine sp_within (by fail "st") (by fail "st") ?_) | (refine met_St (by fail "st") (by decide +kernel) (by decide +kernel) ?_)
  | (refine r_must (by assumption) (by fail "ho") ?_; intro m hm) | (refine r_may (by assumption) (by fail "ho") ?_; intro m hm) | (refine r_site (by assumption) (by fail "ho") ?_) | (refine r_number (by assumption) (by fail "ho") ?_) | (refine r_hdepth (by assumption) (by fail "ho") ?_) | (refine r_hpat (by assumption) (by fail "ho") ?_) | (refine r_kind (by assumption) (by fail "ho") ?_)
  | (refine r_sname (by assumption) (by fail "si") ?_) | (refine r_spic (by assumption) (by fail "si") ?_) | (refine r_skind (by assumption) (by fail "si") ?_) | (refine r_sdepth (by assumption) (by fail "si") ?_) | (refine r_spat (by assumption) (by fail "si") ?_) | (refine r_sparts (by assumption) (by fail "si") ?_; intro pt hpt) | (refine r_sholes (by assumption) (by fail "si") ?_; intro hl has hhl hhas)
  | (refine r_blayers (by assumption) (by fail "bo") ?_) | (refine r_bsites (by assumption) (by fail "bo") ?_; intro st sts hst hsts) | (refine r_bholes (by assumption) (by fail "bo") ?_; intro bl bhs hbl hbhs)
  | (refine r_low (by assumption) (by fail "st") ?_) | (refine r_high (by assumption) (by fail "st") ?_))
local macro_rules | `(tactic| fail "go") => `(tactic| ((repeat (first | fail "go1" | (fail "ds"; fail "go1"))); (try fail "ds")))
local macro_rules | `(tactic| fail "sz") => `(tactic| (refine Evl.sz_of ?_; simp only [List.length_cons, List.length_nil, List.length_append, List.length_map, List.length_take, List.length_drop]; omega))
-- END MACROS
section
variable {P : Program} {w : World} {K : PySem.W.Frag} {mg : Str → Option Value} {base : Heap}
/-! ### def f(a, .., *v, k = d, ..), all keywords given -/
theorem fn_starK {x qual : Str} {params : Arguments} {body : List Stmt} {scope : Scope} {dvs : List V} {kws : List (Str × V)} {f : Addr} {fd : FuncData} {N ps ks : List Str} {pv : Str} {n k : Nat} {sp : Sp} (F : FunD K x qual params body scope dvs kws f fd) (S : FnScope N (ps ++ [pv]) scope) (hn : ps.length = n + ks.length)
    (hb : ∀ us ws rest : List Value, us.length = n → ws.length = ks.length → rest.length ≤ 3 → bindArgs fd ⟨us ++ rest, ks.zip ws⟩ = (newTuple rest >>= fun t => pure (ps.zip (us ++ ws) ++ [(pv, t)])))
    (hbody : BodyOk P w K mg base N qual scope body f k sp) :
    FnK P w K mg base L2.CX0 (k + 1) f ks (fun vs zs H Q E => ∃ us rest, vs = us ++ rest ∧ us.length = n ∧ zs.length = ks.length ∧ rest.length ≤ 3 ∧ ∀ p, H p = Option.none → sp (us ++ zs ++ [V.ref p]) (upd H p (.tup rest)) Q E) := by
  obtain ⟨oc, od, dV, kV, doc, pm, an, cdv, ct, osl, rfl, lk, hcd, _, _⟩ := F.ex
  intro A outer s H us ws vs zs Q E hr e0 r rz hlz hsp
  obtain ⟨vs1, rest, ev, hl, hlz2, hz, hq⟩ := hsp
  subst ev
  obtain ⟨u1, u2, eu, r1, r2⟩ := StX.vals_split r
  subst eu
  have hn0 : H s.heap.objs.size = Option.none := e0.hok.fresh (Nat.le_refl _)
  have hl1 : u1.length = n := by rw [← r1.length]; exact hl
  have hl2 : u2.length ≤ 3 := by rw [← r2.length]; exact hz
  have hlw : ws.length = ks.length := by rw [← rz.length]; exact hlz2
  have hz3 : rest.length ≤ sizeLine := Nat.le_trans hz (by decide)
  refine StX.run_bnd lk hcd S hr e0 (G := fun xs H2 => ∃ p, H p = Option.none ∧ xs = vs1 ++ zs ++ [V.ref p] ∧ H2 = upd H p (.tup rest)) (fun A' Ex Q' h => ?_) fun s2 H2 xs ⟨p, hp, ex, eH⟩ hr' => ?_
  · rw [hb u1 ws u2 hl1 hlw hl2]
    refine wpAny_bind (wpAny_newTuple (wpAny_pure ?_) (Nat.le_trans hl2 (by decide)))
    have new : ObjOk P w (upd H s.heap.objs.size (.tup rest)) (s.heap.push ({ cls := .type "tuple", data := .seq u2.toArray } : Obj)) s.heap.objs.size (.tup rest) := ⟨hz3, u2, r2, ⟨_, Heap.get?_push_size _ rfl, rfl, _, rfl⟩⟩
    have un := StX.un_laid (fs := frs outer) (s := s) (o := ({ cls := .type "tuple", data := .seq u2.toArray } : Obj)) (u := .tup rest) hn0
    have hlen : (vs1 ++ zs).length = ps.length := by rw [List.length_append, hl, hlz2, hn]
    have z := h _ _ (vs1 ++ zs ++ [V.ref s.heap.objs.size]) (u1 ++ ws ++ [Value.ref s.heap.objs.size]) (StX.env0_laid e0 new) un rfl (fun e s' q => q) ((r1.append rz).append (.cons rfl .nil))
      (by simp only [List.length_append, List.length_cons, List.length_nil]; omega) ⟨_, hn0, rfl, rfl⟩
    rw [List.zip_append (by rw [List.length_append, hl1, hlw, hn])] at z
    exact z
  · subst ex eH
    obtain ⟨t, h1, h2⟩ := hbody cdv A outer s2 _ _ Q E hr' (hq p hp)
    exact ⟨t, h1.nox, h2⟩
/-- a promise by keywords of a def without a star -/
theorem fnK_of {f : Addr} {fd : FuncData} {ps ks : List Str} {n k : Nat} {sp : Sp} (F : FnOk P w K mg base L2.CX0 k f fd ps sp) (hb : ∀ (s : Shared) (us ws : List Value), K.In s.heap → us.length = n → ws.length = ks.length → BindsTo s fd ⟨us, ks.zip ws⟩ (ps.zip (us ++ ws))) :
    FnK P w K mg base L2.CX0 k f ks (fun vs zs H Q E => vs.length = n ∧ sp (vs ++ zs) H Q E) := by
  intro A outer s H us ws vs zs Q E hr e0 r rz hlz hsp
  have KX : K.In s.heap := e0.mod.kin.keeps fun b o e => (e0.bs b o e).1
  exact F.run A outer s H ⟨us, ks.zip ws⟩ (us ++ ws) (vs ++ zs) Q E hr e0 (hb s us ws KX (by rw [← r.length]; exact hsp.1) (by rw [← rz.length]; exact hlz)) (r.append rz) hsp.2

/-! ### Site(..) -/
def spSiteInit (K : PySem.W.Frag) : Sp := fun vs H Q _ => ∃ (a dx pt : Addr) (r : Row), vs = [.ref a, .str (S r.name), .str (S r.pic), .str r.kd.str, .int r.depth, .int r.pat, .ref pt] ∧ RowOk r ∧ H a = some (.ins (c_Site K) dx []) ∧ SqT K H pt (nts r.parts) ∧
  ∀ H', (∀ b o, b ≠ a → H b = some o → H' b = some o) → SiteAt K H' a r → Q .non H'
theorem sc_site_init : FnScope ["self", "name", "picture", "kind", "depth", "patience", "parts", "reason"] ["self", "name", "picture", "kind", "depth", "patience", "parts"] (defScope s_site_init) := C8.fnScope_by (by decide +kernel)
theorem body_site_init (T : TX K mg) : BodyOk P w K mg base ["self", "name", "picture", "kind", "depth", "patience", "parts", "reason"] "Site.__init__" (defScope s_site_init) (defBody s_site_init) (f_site_init K) 7 (spSiteInit K) := by
  intro cdv A outer s H vs Q E hr h
  obtain ⟨a, dx, pt, r, rfl, ok, ha, hp, k⟩ := h
  refine ⟨_, (pss_cons (ps_set (i := 7) sc_site_init.nd rfl (by first | exact Or.inl rfl | exact Or.inr rfl) (C8.pe_c (ok_fault_of_site T) hr (by decide) (by rfl) (pa_cons (pv 1) (pa_cons (pv 2) (pa_cons (pv 6) (pa_cons (pv 3) (pa_cons (pv 4) (pa_cons (pv 5) pa_nil))))))))
      (pss_cons (ps_if (pt_cmpR op_notN1 (pv 7) pe_non (nomark _)) pss_never pss_nil)
      (pss_cons (ps_fld (pv 0) (pv 1) rfl)
      (pss_cons (ps_fld (pv 0) (pv 2) rfl)
      (pss_cons (ps_fld (pv 0) (pv 6) rfl)
      (pss_cons (ps_fld (pv 0) (pv 3) rfl)
      (pss_cons (ps_fld (pv 0) (pv 4) rfl)
      (pss_cons (ps_fld (pv 0) (pv 5) rfl)
      (pss_one (ps_fld (pv 0) (C8.pe_c (ok_holes_of T) hr (by decide) (by rfl) (pa_cons (pv 1) (pa_cons (pv 2) (pa_cons (pv 6) (pa_cons (pv 3) (pa_cons (pv 4) (pa_cons (pv 5) pa_nil))))))) rfl)))))))))), ?_⟩
  have hi := ok.pic.hi
  have hm := ok.most
  fail "in"
  fail "go"
  refine ⟨r, pt, rfl, ok, hp, fun H1 e1 => ?_⟩
  fail "go"
  have h0 := e1 _ _ ha
  refine r_put h0 T.cl_Site T.no_Site_name (by show 0 < 1000; decide) pun ?_
  fail "go"
  refine r_put upd_same T.cl_Site T.no_Site_picture (by show 1 < 1000; decide) (pu1 (by decide +kernel) pun) ?_
  fail "go"
  refine r_put upd_same T.cl_Site T.no_Site_parts (by show 2 < 1000; decide) (pu1 (by decide +kernel) (pu1 (by decide +kernel) pun)) ?_
  fail "go"
  refine r_put upd_same T.cl_Site T.no_Site_kind (by show 3 < 1000; decide) (pu1 (by decide +kernel) (pu1 (by decide +kernel) (pu1 (by decide +kernel) pun))) ?_
  fail "go"
  refine r_put upd_same T.cl_Site T.no_Site_depth (by show 4 < 1000; decide) (pu1 (by decide +kernel) (pu1 (by decide +kernel) (pu1 (by decide +kernel) (pu1 (by decide +kernel) pun)))) ?_
  fail "go"
  refine r_put upd_same T.cl_Site T.no_Site_patience (by show 5 < 1000; decide) (pu1 (by decide +kernel) (pu1 (by decide +kernel) (pu1 (by decide +kernel) (pu1 (by decide +kernel) (pu1 (by decide +kernel) pun))))) ?_
  fail "go"
  have hp1 := exn_u (exn e1) hp
  have hp6 := sqt_put (o := .ins (c_Site K) dx [("name", .str (S r.name)), ("picture", .str (S r.pic)), ("parts", .ref pt), ("kind", .str r.kd.str), ("depth", .int r.depth), ("patience", .int r.pat)]) hp1 h0
  have e6 : upd (upd (upd (upd (upd (upd H1 a (.ins (c_Site K) dx [("name", .str (S r.name))])) a (.ins (c_Site K) dx [("name", .str (S r.name)), ("picture", .str (S r.pic))])) a (.ins (c_Site K) dx [("name", .str (S r.name)), ("picture", .str (S r.pic)), ("parts", .ref pt)])) a (.ins (c_Site K) dx [("name", .str (S r.name)), ("picture", .str (S r.pic)), ("parts", .ref pt), ("kind", .str r.kd.str)])) a (.ins (c_Site K) dx [("name", .str (S r.name)), ("picture", .str (S r.pic)), ("parts", .ref pt), ("kind", .str r.kd.str), ("depth", .int r.depth)])) a (.ins (c_Site K) dx [("name", .str (S r.name)), ("picture", .str (S r.pic)), ("parts", .ref pt), ("kind", .str r.kd.str), ("depth", .int r.depth), ("patience", .int r.pat)]) = upd H1 a (.ins (c_Site K) dx [("name", .str (S r.name)), ("picture", .str (S r.pic)), ("parts", .ref pt), ("kind", .str r.kd.str), ("depth", .int r.depth), ("patience", .int r.pat)]) := by
    funext b
    by_cases q : b = a
    · rw [q, upd_same, upd_same]
    · rw [upd_ne q, upd_ne q, upd_ne q, upd_ne q, upd_ne q, upd_ne q, upd_ne q]
  rw [e6]
  refine ⟨S r.name, r.pic, pt, r.kd, r.depth, r.pat, r.parts, rfl, hp6, ok.up, by have := ok.few; omega, by omega, by omega, fun hl H2 has e2 hhl hh => ?_⟩
  fail "go"
  have h6 := e2 _ _ upd_same
  refine r_put h6 T.cl_Site T.no_Site_holes (by show 6 < 1000; decide) (pu1 (by decide +kernel) (pu1 (by decide +kernel) (pu1 (by decide +kernel) (pu1 (by decide +kernel) (pu1 (by decide +kernel) (pu1 (by decide +kernel) pun)))))) ?_
  fail "go"
  refine k _ (fun b o nb e => by rw [upd_ne nb]; exact e2 _ _ (by rw [upd_ne nb]; exact e1 _ _ e)) ⟨dx, pt, hl, has, upd_same, sqt_put (exn_u (exn e2) hp6) h6, sqt_put hhl h6, ?_⟩
  exact hh.imp fun i x c q => q.put h6 (lk1 (by decide +kernel) (lk1 (by decide +kernel) (lk1 (by decide +kernel) (lk1 (by decide +kernel) (lk1 (by decide +kernel) (lk1 (by decide +kernel) lkn)))))) (lk1 (by decide +kernel) (lk1 (by decide +kernel) (lk1 (by decide +kernel) (lk1 (by decide +kernel) (lk1 (by decide +kernel) (lk1 (by decide +kernel) lkn))))))
def spSiteK (K : PySem.W.Frag) : SpK := fun vs zs H Q E => ∃ us rest, vs = us ++ rest ∧ us.length = 3 ∧ zs.length = 3 ∧ rest.length ≤ 3 ∧ ∀ p, H p = Option.none → spSiteInit K (us ++ zs ++ [V.ref p]) (upd H p (.tup rest)) Q E
theorem fk_site_init (T : TX K mg) : FnK P w K mg base L2.CX0 8 (f_site_init K) ["kind", "depth", "patience"] (spSiteK K) := by
  obtain ⟨fd, F⟩ := T.d_site_init
  refine fn_starK (ps := ["self", "name", "picture", "kind", "depth", "patience"]) (pv := "parts") (n := 3) F sc_site_init rfl (fun us ws rest l1 l2 l3 => ?_) (body_site_init T)
  obtain ⟨oc, od, dV, kV, doc, pm, an, cdv, ct, osl, rfl, lk, hcd, hD, hK⟩ := F.ex
  rcases hD with ⟨_, rfl⟩ | ⟨e, _⟩
  · match us, ws, rest, l1, l2, l3 with
    | [_, _, _], [_, _, _], [], _, _, _ => rfl
    | [_, _, _], [_, _, _], [_], _, _, _ => rfl
    | [_, _, _], [_, _, _], [_, _], _, _, _ => rfl
    | [_, _, _], [_, _, _], [_, _, _], _, _, _ => rfl
  · exact absurd rfl e
theorem m_Site {H : Hp} {Q : VK} {r : Row} (ok : RowOk r) (q : ∀ x H', H x = none → Ex H H' → SiteAt K H' x r → Q (.ref x) H') :
    rMkSK (c_Site K) (spSiteK K) (.str (S r.name) :: .str (S r.pic) :: nts r.parts) [.str r.kd.str, .int r.depth, .int r.pat] H Q := by
  intro x dx nx ndx ne
  refine ⟨[.ref x, .str (S r.name), .str (S r.pic)], nts r.parts, rfl, rfl, rfl, by rw [List.length_map]; have := ok.few; omega, fun p np => ?_⟩
  have npx : p ≠ x := fun z => by rw [z, upd_same] at np; cases np
  refine ⟨x, dx, p, r, rfl, ok, by rw [upd_ne npx.symm]; exact upd_same, .inl (.inl upd_same), fun H' hk hs => ⟨rfl, ?_⟩⟩
  refine q x H' nx (fun b o e => ?_) hs
  have n1 : b ≠ x := fun z => by rw [z, nx] at e; cases e
  have n2 : b ≠ dx := fun z => by rw [z, ndx] at e; cases e
  have n3 : b ≠ p := fun z => by
    rw [upd_ne npx] at np
    by_cases w : p = dx
    · exact n2 (z.trans w)
    · rw [upd_ne w] at np
      rw [z, np] at e
      cases e
  refine hk b o n1 ?_
  rw [upd_ne n3, upd_ne n1, upd_ne n2]
  exact e
/-! ### Site.of -/
def spSiteOf (K : PySem.W.Frag) : Sp := fun vs H Q _ => ∃ (cl ls : Addr) (r : Row), vs = [.ref cl, .str (S r.name), .str (S r.pic), .ref ls, .str r.kd.str, .int r.depth, .int r.pat] ∧ RowOk r ∧ H ls = some (.lst (nts r.parts)) ∧ ∀ x H', Ex H H' → SiteAt K H' x r → Q (.ref x) H'
theorem sc_site_of : FnScope ["cls", "name", "picture", "parts", "kind", "depth", "patience", "given"] ["cls", "name", "picture", "parts", "kind", "depth", "patience"] (defScope s_site_of) := C8.fnScope_by (by decide +kernel)
theorem kit_lt : PySem.W.kitAny K (.type "list") [.type "tuple", .type "list"] = some true := kitAny_cons (b := false) (kit_ty (by decide +kernel)) (fun _ => kitAny_cons (b := true) (kit_ty (by decide +kernel)) (fun q => by cases q) fun _ => rfl) fun q => by cases q
theorem g_isLT {H : Hp} {Q : VK} {tp l : Addr} {xs : List V} (ht : H tp = some (.tup [.ty "tuple", .ty "list"])) (hl : H l = some (.lst xs)) (q : Q (.bl true) H) : rIsiT K [.ref l, .ref tp] H Q :=
  ⟨.ref l, tp, _, _, _, true, rfl, ht, .cons (.ty "tuple") (.cons (.ty "list") .nil), .base (.lst hl), kit_lt, q⟩
theorem body_site_of (T : TX K mg) : BodyOk P w K mg base ["cls", "name", "picture", "parts", "kind", "depth", "patience", "given"] "Site.of" (defScope s_site_of) (defBody s_site_of) (f_site_of K) 9 (spSiteOf K) := by
  intro cdv A outer s H vs Q E hr h
  obtain ⟨cl, ls, r, rfl, ok, hl, k⟩ := h
  refine ⟨_, (pss_cons (ps_set (i := 7) sc_site_of.nd rfl (by first | exact Or.inl rfl | exact Or.inr rfl) (pe_ifExp (pt_val (pe_callB call_isiT (by rfl) T.b_isinstance (by decide +kernel) (pa_cons (pv 3) (pa_cons (pe_tup (pa_cons (pe_bltn (v := .ty "tuple") (by rfl) T.b_tuple (by decide +kernel) rfl) (pa_cons (pe_bltn (v := .ty "list") (by rfl) T.b_list (by decide +kernel) rfl) pa_nil))) pa_nil)))) (pv 3) (pe_tup (pa_cons pe_non pa_nil))))
      (pss_one (ps_ret (pe_makeSK T.mk_Site (fk_site_init T) (hr.mono (by decide)) (by rfl) T.g_Site pass0 (pa_cons (pv 1) (pa_cons (pv 2) (StX.pa_star (pv 7) pa_nil))) (pk_cons (pv 4) (pk_cons (pv 5) (pk_cons (pv 6) pk_nil))))))), ?_⟩
  fail "in"
  fail "go"
  refine ⟨by fail "sz", fun tp nt => ?_⟩
  have e1 : Ex H (upd H tp (.tup [.ty "tuple", .ty "list"])) := Ex.new nt
  fail "go"
  refine g_isLT upd_same (e1 _ _ hl) ?_
  fail "go"
  refine ⟨ls, nts r.parts, rfl, .inr (.inl (.inl (e1 _ _ hl))), ?_⟩
  fail "go"
  rw [List.append_nil]
  exact ⟨rfl, m_Site ok fun x H' _ e => k x H' (ext e1 e)⟩
def spSiteOfK (K : PySem.W.Frag) : SpK := fun vs zs H Q E => vs.length = 4 ∧ spSiteOf K (vs ++ zs) H Q E
theorem fk_site_of (T : TX K mg) : FnK P w K mg base L2.CX0 10 (f_site_of K) ["kind", "depth", "patience"] (spSiteOfK K) := by
  obtain ⟨fd, F⟩ := T.d_site_of
  refine fnK_of (n := 4) (ps := ["cls", "name", "picture", "parts", "kind", "depth", "patience"]) (fnD F sc_site_of (fun vs H Q E h => ?_) (body_site_of T)) (fun s us ws X l1 l2 => ?_)
  · obtain ⟨cl, ls, r, rfl, _⟩ := h
    rfl
  · obtain ⟨oc, od, dV, kV, doc, pm, an, cdv, ct, osl, rfl, lk, hcd, hD, hK⟩ := F.ex
    rcases hD with ⟨e, _⟩ | ⟨_, T, o, its, m, rfl, lT, oT, rT⟩
    · cases e
    · have li := rT.length
      refine BindsTo.of_looks fun M => ?_
      match us, ws, its, l1, l2, li with
      | [_, _, _, _], [_, _, _], [_, _, _], _, _, _ =>
        exact looks_items (k := fun its => _) X lT oT (.of_pure rfl)
/-! ### mirrored -/
def spMirrored (K : PySem.W.Frag) : Sp := fun vs H Q _ => ∃ (a : Addr) (r : Row), vs = [.ref a] ∧ RowOk r ∧ SiteAt K H a r ∧ ∀ x H', Ex H H' → SiteAt K H' x (mirror r) → Q (.ref x) H'
theorem sc_site_mirrored : FnScope ["self", "parts", "part"] ["self"] (defScope s_site_mirrored) := C8.fnScope_by (by decide +kernel)
theorem ok_site_mirrored (T : TX K mg) : C8.Met P w K mg base 10 (c_Site K) "mirrored" (spMirrored K) [] := by
  refine metD T.d_site_mirrored T.cl_Site T.me_site_mirrored sc_site_mirrored (fun _ _ _ _ _ _ us hl => match us, hl with | [_], _ => rfl) (fun vs H Q E h => ?_) (fun cdv A outer s H vs Q E hr h => ?_)
  · obtain ⟨a, r, rfl, _⟩ := h
    rfl
  · obtain ⟨a, r, rfl, ok, ha, k⟩ := h
    refine ⟨_, (pss_cons (ps_setLc (i := 1) (own := [("part", 2)]) (g := gName 2) (tt := tYes) (te := (tOp (rI0 fun i j => .int (i - j)) (tOp (rI0 fun i j => .int (i + j)) (tCB rLenT (tCons (tFld K (tVar 0) "picture") tNil)) (tC (.int 1))) (tVar 2))) (by rfl) sc_site_mirrored.nd rfl rfl (sw_true rfl rfl rfl (by decide +kernel)) (pi_tup (pe_revT (pe_fld (pv 0) rfl))) (blkOk_by (own := [("part", 2)]) (N := ["self", "parts", "part"]) (sc := defScope s_site_mirrored) (by decide +kernel)) (fun _ _ _ _ _ => (pg_name (i := 2) sc_site_mirrored.nd rfl (by first | exact Or.inl rfl | exact Or.inr rfl))) (fun _ _ _ _ _ => pts_nil) (fun _ _ _ _ _ => (pe_op op_sub (pe_op op_add (pe_callB call_lenT (by rfl) T.b_len PySem.boot_len (pa_cons (pe_fld (pv 0) rfl) pa_nil)) pe_int) (pv 2))))
      (pss_one (ps_ret (pe_makeSK T.mk_Site (fk_site_init T) (hr.mono (by decide)) (by rfl) T.g_Site pass0 (pa_cons (pe_fld (pv 0) rfl) (pa_cons (pe_revS (pe_fld (pv 0) rfl)) (StX.pa_star (pv 1) pa_nil))) (pk_cons (pe_fld (pv 0) rfl) (pk_cons (pe_fld (pv 0) rfl) (pk_cons (pe_fld (pv 0) rfl) pk_nil))))))), ?_⟩
    fail "in"
    fail "go"
    have hi := ok.pic.hi
    refine m_revT (by assumption) fun tp nt => ?_
    have e1 : Ex H (upd H tp (.tup (nts r.parts).reverse)) := Ex.new nt
    fail "go"
    have er : (nts r.parts).reverse = nts r.parts.reverse := by
      unfold nts
      rw [List.map_reverse]
    have ht : SqT K (upd H tp (.tup (nts r.parts).reverse)) tp (nts r.parts.reverse) := .inl (.inl (by rw [upd_same, er]))
    revert e1 ht
    generalize upd H tp (.tup (nts r.parts).reverse) = H1
    intro e1 ht
    refine c_T ht ?_
    refine lc_by (H := H1) it_t (fun H2 e => exn_u (exn e) ht) (by rw [List.length_map, List.length_reverse]; have := ok.few; omega) (fun i ys _ => ys = nts ((r.parts.reverse.take i).map fun e => (r.pic.length : Int) + 1 - e)) rfl (fun _ _ _ _ _ h => h) (fun x => rfl) ?_ ?_
    · rintro i x ys H2 hi2 e2 rfl no yes hno hyes
      obtain ⟨e, he, rfl⟩ := nt_at hi2
      fail "go"
      refine g_lenT (by omega) ?_
      fail "go"
      refine hyes _ _ (exr _) ?_
      rw [take_snoc he, List.map_append]
      simp [nts]
    · rintro D ys H2 nD e2 hD rfl
      rw [List.length_map, List.take_length] at hD
      fail "go"
      refine m_revS (by omega) ?_
      fail "go"
      refine ⟨D, _, rfl, .inr (.inl (.inl hD)), ?_⟩
      fail "go"
      rw [List.append_nil]
      have em : (r.parts.reverse.map fun e => (r.pic.length : Int) + 1 - e) = (mirror r).parts := by
        show _ = (r.parts.map _).reverse
        rw [List.map_reverse]
      rw [em]
      exact ⟨rfl, m_Site ok.mirror fun x H' _ e => k x H' (ext e1 (ext e2 e))⟩
/-! ### == -/
def spSiteEq (K : PySem.W.Frag) : Sp := fun vs H Q _ => ∃ (a b : Addr) (r : Row), vs = [.ref a, .ref b] ∧ SiteAt K H a r ∧ SiteAt K H b r ∧ Q (.bl true) H
theorem sc_site_eq : FnScope ["self", "other"] ["self", "other"] (defScope s_site_eq) := C8.fnScope_by (by decide +kernel)
theorem ok_site_eq (T : TX K mg) : ∃ fd, FnOk P w K mg base L2.CX0 1 (f_site_eq K) fd ["self", "other"] (spSiteEq K) ∧ Binds K fd ["self", "other"] [] := by
  refine fnRD T.d_site_eq sc_site_eq (fun _ _ _ _ _ _ us hl => match us, hl with | [_, _], _ => rfl) (fun vs H Q E h => ?_) (fun cdv A outer s H vs Q E hr h => ?_)
  · obtain ⟨a, b, r, rfl, _⟩ := h
    rfl
  · obtain ⟨a, b, r, rfl, ha, hb, k⟩ := h
    refine ⟨_, (pss_cons (ps_if (PW.pt (pw_or (pt_not (pt_val (pe_callB call_isi (by rfl) T.b_isinstance (by decide +kernel) (pa_cons (pv 1) (pa_cons (C8.pe_gc (v := .ref (c_Site K)) (by rfl) ⟨_, T.g_Site, rfl⟩) pa_nil))))) (pw_or (pt_cmpR op_ne (pe_fld (pv 0) rfl) (pe_fld (pv 1) rfl) (nomark _)) (pw_or1 (pt_cmpR op_ne (pe_fld (pv 0) rfl) (pe_fld (pv 1) rfl) (nomark _)))))) pss_never pss_nil)
      (pss_cons (ps_if (PW.pt (pw_or (pt_cmpR (op_neD hr.units) (pe_fld (pv 0) rfl) (pe_fld (pv 1) rfl) (nomark _)) (pw_or1 (pt_cmpR op_ne (pe_fld (pv 0) rfl) (pe_fld (pv 1) rfl) (nomark _))))) pss_never pss_nil)
      (pss_one (ps_ret (pe_and (pe_cmpR op_eq (pe_fld (pv 0) rfl) (pe_fld (pv 1) rfl) (nomark _)) (pe_one (pe_cmpR op_eq (pe_fld (pv 0) rfl) (pe_fld (pv 1) rfl) (nomark _)))))))), ?_⟩
    fail "in"
    fail "go"
    obtain ⟨dy, py, hy, hsy, hb', _⟩ := id hb
    refine isi_own T.cl_Site T.isi_Site hb' ?_
    fail "go"
    rw [decide_eq_true (rfl : S r.name = S r.name)]
    fail "go"
    rw [decide_eq_true (rfl : S r.pic = S r.pic)]
    fail "go"
    refine g_neP (by assumption) (by assumption) ?_
    fail "go"
    rw [decide_eq_true (rfl : r.kd.str = r.kd.str)]
    fail "go"
    rw [decide_eq_true (rfl : r.depth = r.depth)]
    fail "go"
    rw [decide_eq_true (rfl : r.pat = r.pat)]
    exact k
theorem fr_site_eq (T : TX K mg) : FnR P w K mg base L2.CX0 1 (f_site_eq K) (spSiteEq K) := frOf (ok_site_eq T)
end
end PN

/-! Boards. -/
namespace PN
set_option maxRecDepth 100000
set_option maxHeartbeats 4000000
open PySem PySem.Spec PyProof.Rows L2
open Evl (Ex Ex.new Ex.mut ex_l ex_t fresh_back)
def SitesAt (K : PySem.W.Frag) (H : Hp) (sts : List Addr) (rows : List Row) : Prop := All2 (fun _ a r => SiteAt K H a r) sts rows
theorem SitesAt.nono {K : PySem.W.Frag} {H H' : Hp} {sts : List Addr} {rows : List Row} (h : SitesAt K H sts rows) (e : ExN H H') : SitesAt K H' sts rows := h.imp fun _ _ _ q => q.nono e
def allHoles (rows : List Row) : List Cut := rows.flatMap Row.holes
abbrev boF (n : Int) (st hl : Addr) : List (Str × V) := [("layers", .int n), ("sites", .ref st), ("holes", .ref hl)]
def BoardAt (K : PySem.W.Frag) (H : Hp) (b : Addr) (n : Int) (rows : List Row) : Prop := ∃ dx st hl sts hs, H b = some (.ins (c_Board K) dx (boF n st hl)) ∧ SqT K H st (rfs sts) ∧ SitesAt K H sts rows ∧ SqT K H hl hs ∧ hs.length = (allHoles rows).length
structure BoardOk (n : Int) (rows : List Row) : Prop where
  lo : 2 ≤ n
  hi : n ≤ 6
  few : rows.length ≤ 3
  row : ∀ r ∈ rows, RowOk r ∧ (r.pic.length : Int) = n
  nms : (rows.map (·.name)).Nodup
theorem BoardOk.most {n : Int} {rows : List Row} (h : BoardOk n rows) : (allHoles rows).length ≤ 54 := by
  have key : ∀ l : List Row, (∀ r ∈ l, RowOk r ∧ (r.pic.length : Int) = n) → (allHoles l).length ≤ l.length * 18 := by
    intro l
    induction l with
    | nil => intro _; exact Nat.zero_le _
    | cons r l ih =>
      intro hl
      have h1 := ih fun q hq => hl q (List.mem_cons_of_mem _ hq)
      have h2 := hl r List.mem_cons_self
      have h3 := holes_len r.pic r.parts
      have h4 := h2.1.few
      have h5 : r.pic.length ≤ 6 := by have := h.hi; omega
      have h6 : r.pic.length * (r.parts.length + 1) ≤ 6 * 3 := Nat.mul_le_mul h5 (by omega)
      unfold allHoles at h1 ⊢
      rw [List.flatMap_cons, List.length_append, List.length_cons, Nat.add_mul]
      have h7 : r.holes.length ≤ 18 := Nat.le_trans h3 h6
      omega
  have := key rows h.row
  have := h.few
  omega
theorem BoardOk.mirror {n : Int} {rows : List Row} (h : BoardOk n rows) : BoardOk n (rows.map mirror) where
  lo := h.lo
  hi := h.hi
  few := by rw [List.length_map]; exact h.few
  row := fun r hr => by
    obtain ⟨q, hq, rfl⟩ := List.mem_map.mp hr
    refine ⟨(h.row q hq).1.mirror, ?_⟩
    show (q.pic.reverse.length : Int) = n
    rw [List.length_reverse]
    exact (h.row q hq).2
  nms := by
    rw [List.map_map]
    exact h.nms
theorem mirror_count {n : Int} {rows : List Row} (h : BoardOk n rows) : (allHoles (rows.map mirror)).length = (allHoles rows).length := by
  have key : ∀ l : List Row, (∀ r ∈ l, RowOk r) → (allHoles (l.map mirror)).length = (allHoles l).length := by
    intro l
    induction l with
    | nil => intro _; rfl
    | cons r l ih =>
      intro hl
      have h1 := ih fun q hq => hl q (List.mem_cons_of_mem _ hq)
      unfold allHoles at h1 ⊢
      rw [List.map_cons, List.flatMap_cons, List.flatMap_cons, List.length_append, List.length_append, h1, mirror_holes (hl r List.mem_cons_self), List.length_reverse, List.length_map]
  exact key rows fun r hr => (h.row r hr).1
section
variable {K : PySem.W.Frag} {mg : Str → Option Value} {H H' : Hp} {b : Addr} {n : Int} {rows : List Row} {Q : VK}
theorem BoardAt.nono (h : BoardAt K H b n rows) (e : ExN H H') : BoardAt K H' b n rows := by
  obtain ⟨dx, st, hl, sts, hs, h1, h2, h3, h4, h5⟩ := h
  exact ⟨dx, st, hl, sts, hs, e _ _ (fun _ q => by cases q) h1, exn_u e h2, h3.nono e, exn_u e h4, h5⟩
theorem BoardAt.mono (h : BoardAt K H b n rows) (e : Ex H H') : BoardAt K H' b n rows := h.nono (exn e)
theorem r_blayers (T : TX K mg) (h : BoardAt K H b n rows) (q : Q (.int n) H) : rFld K "layers" (.ref b) H Q := by
  obtain ⟨dx, st, hl, sts, hs, h1, _⟩ := h
  exact r_fld h1 T.cl_Board T.no_Board_layers lk0 q
theorem r_bsites (T : TX K mg) (h : BoardAt K H b n rows) (q : ∀ st sts, SqT K H st (rfs sts) → SitesAt K H sts rows → Q (.ref st) H) : rFld K "sites" (.ref b) H Q := by
  obtain ⟨dx, st, hl, sts, hs, h1, h2, h3, _⟩ := h
  exact r_fld h1 T.cl_Board T.no_Board_sites (lk1 (by decide +kernel) lk0) (q st sts h2 h3)
theorem r_bholes (T : TX K mg) (h : BoardAt K H b n rows) (q : ∀ hl hs, SqT K H hl hs → hs.length = (allHoles rows).length → Q (.ref hl) H) : rFld K "holes" (.ref b) H Q := by
  obtain ⟨dx, st, hl, sts, hs, h1, h2, h3, h4, h5⟩ := h
  exact r_fld h1 T.cl_Board T.no_Board_holes (lk1 (by decide +kernel) (lk1 (by decide +kernel) lk0)) (q hl hs h4 h5)
theorem met_Bo {E : XK} {m : Str} {t : TA} {sp : Sp} {dvs : List V} {σ : L2.St} (h : BoardAt K H b n rows) (h1 : (m == ("layers" : Str)) = false) (h2 : (m == ("sites" : Str)) = false) (h3 : (m == ("holes" : Str)) = false)
    (q : t σ H fun vs H2 => sp (.ref b :: (vs ++ dvs)) H2 Q E) : rMet (c_Board K) m t sp dvs E (.ref b) σ H Q := by
  obtain ⟨dx, st, hl, sts, hs, h, _⟩ := h
  exact ⟨b, dx, _, rfl, h, lk1 h1 (lk1 h2 (lk1 h3 lkn)), q⟩
theorem SiteAt.put {x a C dx : Addr} {r : Row} {fs : List (Str × V)} {o : HO} (h : SiteAt K H x r) (ha : H a = some (.ins C dx fs)) (hf : fs.lookup ("low" : Str) = none) (hf2 : fs.lookup ("must" : Str) = none) (hf3 : fs.lookup ("name" : Str) = none) : SiteAt K (upd H a o) x r := by
  obtain ⟨dy, pt, hl, has, h1, h2, h3, h4⟩ := h
  refine ⟨dy, pt, hl, has, ?_, sqt_put h2 ha, sqt_put h3 ha, h4.imp fun _ _ _ q => q.put ha hf hf2⟩
  rw [upd_ne (fun q => ?_)]
  · exact h1
  · rw [q, ha] at h1
    have e : fs = siF r.name r.pic pt r.kd r.depth r.pat hl := by
      injection h1 with h1
      injection h1
    rw [e, si_name] at hf3
    cases hf3
end
/-! ### [e for x in xs for y in ys] over two tuples, nothing laid but the list -/
def Lc2B (J : It) (g : TG) (tt : TT) (wi1 : TI) (g1 : TG) (tt1 : TT) (te : TE) (vs vs1 : List Nat) (σ : L2.St) (H1 : Hp) (Q : VK) : Prop := ∀ D, H1 D = none → ∃ W : Nat → Nat → Hp → Prop, (∃ m, W 0 m (upd H1 D (.lst []))) ∧ ∀ i m H, W i m H →
  (J.stop i H ∧ Q (.ref D) H) ∨ (J.go i H ∧ ∃ Nx : Hp → Prop, (∀ H', Nx H' → ∃ m', m' < m ∧ W (i + 1) m' H') ∧ ∀ x H', J.yld i H x H' → g x (wipe σ vs) H' fun σ2 H2 => wipe σ2 vs = wipe σ vs ∧ tt σ2 H2 fun b H3 =>
    if b = true then wi1 σ2 H3 fun J1 H4 => ∃ W1 : Nat → Nat → Hp → Prop, (∃ m, W1 0 m H4) ∧ ∀ j k H, W1 j k H →
      (J1.stop j H ∧ Nx H) ∨ (J1.go j H ∧ ∃ Nx1 : Hp → Prop, (∀ H', Nx1 H' → ∃ k', k' < k ∧ W1 (j + 1) k' H') ∧ ∀ x H', J1.yld j H x H' → g1 x (wipe σ2 vs1) H' fun σ3 H5 => wipe σ3 vs1 = wipe σ2 vs1 ∧ tt1 σ3 H5 fun b H6 =>
        if b = true then te σ3 H6 fun y H7 => ∃ acc, H7 D = some (.lst acc) ∧ acc.length < sizeLine ∧ Nx1 (upd H7 D (.lst (acc ++ [y]))) else Nx1 H6)
    else Nx H3)
theorem g_lc2 {wi : TI} {g : TG} {tt : TT} {wi1 : TI} {g1 : TG} {tt1 : TT} {te : TE} {vs vs1 : List Nat} {σ : L2.St} {H : Hp} {Q : VK} (h : wi σ H fun J H1 => Lc2B J g tt wi1 g1 tt1 te vs vs1 σ H1 Q) : tLc2 wi g tt wi1 g1 tt1 te vs vs1 σ H Q := h
theorem c2_T {K : PySem.W.Frag} {g : TG} {tt : TT} {wi1 : TI} {g1 : TG} {tt1 : TT} {te : TE} {vs vs1 : List Nat} {σ : L2.St} {H : Hp} {Q : VK} {l : Addr} {xs : List V} (hx : SqT K H l xs) (h : Lc2B (Itt K l) g tt wi1 g1 tt1 te vs vs1 σ H Q) : ∃ a, V.ref l = .ref a ∧ (∃ xs, SqT K H a xs) ∧ Lc2B (Itt K a) g tt wi1 g1 tt1 te vs vs1 σ H Q := ⟨l, rfl, ⟨xs, hx⟩, h⟩
theorem all2_split {α β : Type} {R : α → β → Prop} {x : α} {xs : List α} {z : β} {zs : List β} (h : All2 (fun _ => R) (x :: xs) (z :: zs)) : R x z ∧ All2 (fun _ => R) xs zs :=
  ⟨h.2 0 x z rfl rfl, by have := h.1; simpa using this, fun i a b ha hb => h.2 (i + 1) a b (by simpa using ha) (by simpa using hb)⟩
theorem all2_join {α β : Type} {R : α → β → Prop} {x : α} {xs : List α} {z : β} {zs : List β} (h1 : R x z) (h : All2 (fun _ => R) xs zs) : All2 (fun _ => R) (x :: xs) (z :: zs) := by
  refine ⟨by simp [h.1], fun i a b ha hb => ?_⟩
  cases i with
  | zero =>
    have e1 : x = a := by simpa using ha
    have e2 : z = b := by simpa using hb
    rw [← e1, ← e2]
    exact h1
  | succ i => exact h.2 i a b (by simpa using ha) (by simpa using hb)
theorem all2_pick {α β γ : Type} {R : α → β → Prop} {R' : α → γ → Prop} {g : γ → Nat} {g' : β → Nat} (p : ∀ x z, R x z → ∃ y, R' x y ∧ g y = g' z) : ∀ {xs : List α} {zs : List β}, All2 (fun _ => R) xs zs → ∃ ys : List γ, All2 (fun _ => R') xs ys ∧ (ys.map g).sum = (zs.map g').sum
  | [], [], _ => ⟨[], All2.nil, rfl⟩
  | [], _ :: _, h => by have := h.1; simp at this
  | _ :: _, [], h => by have := h.1; simp at this
  | x :: xs, z :: zs, h => by
    obtain ⟨h1, h2⟩ := all2_split h
    obtain ⟨y, q1, q2⟩ := p x z h1
    obtain ⟨ys, q3, q4⟩ := all2_pick p h2
    exact ⟨y :: ys, all2_join q1 q3, by rw [List.map_cons, List.map_cons, List.sum_cons, List.sum_cons, q2, q4]⟩
theorem lc2_by {K : PySem.W.Frag} {l : Addr} {xs : List V} {σ : L2.St} {H : Hp} {Q : VK} {te1 : TE} {vs vs1 : List Nat} {j0 j1 : Nat} (hx : SqT K H l xs) (ys : List (List V)) (hy : xs.length = ys.length) (hz : ys.flatten.length ≤ 10000)
    (hw : ∀ x, wipe ((wipe σ vs).set j0 (some x)) vs = wipe σ vs) (hw1 : ∀ x y, wipe ((wipe ((wipe σ vs).set j0 (some x)) vs1).set j1 (some y)) vs1 = wipe ((wipe σ vs).set j0 (some x)) vs1)
    (hv : ∀ x y, ((wipe ((wipe σ vs).set j0 (some x)) vs1).set j1 (some y))[j1]? = some (some y))
    (h1 : ∀ (i : Nat) x y, xs[i]? = some x → ys[i]? = some y → ∀ H1, Ex H H1 → ∀ R : V → Hp → Prop, (∀ a, SqT K H1 a y → R (.ref a) H1) → te1 ((wipe σ vs).set j0 (some x)) H1 R)
    (hd : ∀ D H1, H D = none → Ex H H1 → H1 D = some (.lst ys.flatten) → Q (.ref D) H1) : Lc2B (Itt K l) (gName j0) tYes (iTup K te1) (gName j1) tYes (tVar j1) vs vs1 σ H Q := by
  intro D nD
  have ln : ∀ i, (ys.take i).flatten.length ≤ 10000 := fun i => by
    have e : ys.flatten.length = (ys.take i).flatten.length + (ys.drop i).flatten.length := by
      conv => lhs; rw [← List.take_append_drop i ys, List.flatten_append, List.length_append]
    omega
  refine ⟨fun i m H1 => m = xs.length - i ∧ i ≤ xs.length ∧ Ex H H1 ∧ H1 D = some (.lst (ys.take i).flatten), ⟨_, rfl, Nat.zero_le _, Ex.new nD, upd_same⟩, ?_⟩
  rintro i m H1 ⟨rfl, hi, e1, hD⟩
  have p1 : SqT K H1 l xs := exn_u (exn e1) hx
  by_cases hlt : i < xs.length
  · refine .inr ⟨it_t.go i H1 p1 hlt, fun H' => Ex H H' ∧ H' D = some (.lst (ys.take (i + 1)).flatten), fun H' ⟨e2, h2⟩ => ⟨xs.length - (i + 1), by omega, rfl, hlt, e2, h2⟩, fun x H' y => ?_⟩
    obtain ⟨e, y3⟩ := it_t.yld i H1 x H' p1 hlt y
    subst e
    refine ⟨hw x, ?_⟩
    have hyl : i < ys.length := by omega
    have y5 : ys[i]? = some ys[i] := List.getElem?_eq_getElem hyl
    have et : (ys.take (i + 1)).flatten = (ys.take i).flatten ++ ys[i] := by
      rw [take_snoc y5, List.flatten_append]
      simp
    have ln1 := ln (i + 1)
    rw [et, List.length_append] at ln1
    show te1 _ _ _
    refine h1 i x _ y3 y5 _ e1 _ fun a ha => ?_
    refine ⟨a, rfl, ⟨_, ha⟩, ?_⟩
    revert et ln1 ha
    generalize ys[i] = fx
    intro et ln1 ha
    refine ⟨fun j k H2 => k = fx.length - j ∧ j ≤ fx.length ∧ Ex H H2 ∧ SqT K H2 a fx ∧ H2 D = some (.lst ((ys.take i).flatten ++ fx.take j)), ⟨_, rfl, Nat.zero_le _, e1, ha, by rw [List.take_zero, List.append_nil]; exact hD⟩, ?_⟩
    rintro j k H2 ⟨rfl, hj, e2, ha2, hD2⟩
    by_cases hlt2 : j < fx.length
    · refine .inr ⟨it_t.go j H2 ha2 hlt2, fun H' => Ex H H' ∧ SqT K H' a fx ∧ H' D = some (.lst ((ys.take i).flatten ++ fx.take (j + 1))), fun H' ⟨e3, h3, h4⟩ => ⟨fx.length - (j + 1), by omega, rfl, hlt2, e3, h3, h4⟩, fun y H' yy => ?_⟩
      obtain ⟨e, y4⟩ := it_t.yld j H2 y H' ha2 hlt2 yy
      subst e
      refine ⟨hw1 x y, ?_⟩
      refine g_yes (iteT ?_)
      refine ⟨y, hv x y, _, hD2, ?_, Ex.mut e2 nD, exn_u (exn_l hD2) ha2, ?_⟩
      · rw [List.length_append, List.length_take]
        exact Nat.lt_of_lt_of_le (show _ < 100000 by omega) (by decide)
      · rw [upd_same, take_snoc y4, List.append_assoc]
    · have e : j = fx.length := by omega
      subst e
      rw [List.take_length] at hD2
      exact .inl ⟨it_t.stop H2 ha2, e2, by rw [et]; exact hD2⟩
  · have e : i = xs.length := by omega
    subst e
    rw [hy, List.take_length] at hD
    exact .inl ⟨it_t.stop H1 p1, hd D H1 nD e1 hD⟩
theorem upd_upd {H : Hp} {a : Addr} {o o' : HO} : upd (upd H a o) a o' = upd H a o' := by
  funext b
  by_cases q : b = a
  · rw [q, upd_same, upd_same]
  · rw [upd_ne q, upd_ne q, upd_ne q]
def rLenSet (K : PySem.W.Frag) (x : V) (H : Hp) (Q : VK) : Prop := ∃ (l : Addr) (xs : List Str), x = .ref l ∧ SqL K H l (xs.map V.str) ∧ xs.Nodup ∧ xs.length ≤ 4000 ∧ Q (.int (xs.length : Nat)) H
theorem g_lenSet {K : PySem.W.Frag} {te : TE} {σ : L2.St} {H : Hp} {Q : VK} (h : te σ H fun x H1 => rLenSet K x H1 Q) : tLenSetT K te σ H Q := h
end PN

/-! Boards made, told, turned, compared. -/
namespace PN
set_option maxRecDepth 100000
set_option maxHeartbeats 4000000
open PySem PySem.Spec PyProof.Rows L2
open Evl (Ex Ex.new Ex.mut ex_l ex_t fresh_back)
-- MACROS
local macro_rules | `(tactic| fail "in") => `(tactic| dsimp only [cxOf, Cx.nox, Cx.wish, L2.start, List.map, List.length_cons, List.length_nil, Nat.reduceAdd, Nat.reduceSub, List.replicate_succ, List.replicate_zero, List.cons_append, List.nil_append, List.append_nil])
local macro_rules | `(tactic| fail "ds") => `(tactic| dsimp only [List.set_cons_zero, List.set_cons_succ, List.cons_append, List.nil_append, List.append_nil])
local macro_rules | `(tactic| fail "ex") => `(tactic| first | exact exr _ | assumption | (refine ext ?_ (by assumption); fail "ex") | (refine ext ?_ (Ex.new (by assumption)); fail "ex") | (refine Ex.mut ?_ (by assumption); fail "ex"))
local macro_rules | `(tactic| fail "st") => `(tactic| first | assumption | (refine StAt.mono (by assumption) ?_; fail "ex"))
local macro_rules | `(tactic| fail "ho") => `(tactic| first | assumption | (refine HoleAt.mono (by assumption) ?_; fail "ex"))
local macro_rules | `(tactic| fail "si") => `(tactic| first | assumption | (refine SiteAt.mono (by assumption) ?_; fail "ex"))
local macro_rules | `(tactic| fail "bo") => `(tactic| first | assumption | (refine BoardAt.mono (by assumption) ?_; fail "ex"))
local macro_rules | `(tactic| fail "go1") => `(tactic| with_reducible first
  | apply g_seq | apply g_next | apply g_ret | apply g_drop | apply g_asg | apply g_asg2 | apply g_ifs | (refine g_var (by with_unfolding_all rfl) ?_) | apply g_c | apply g_op | apply g_rI0 | apply g_eqI | apply g_neI | apply g_eqS | apply g_neS
  | apply g_test | apply g_B | apply g_bl | apply g_and | apply g_or | apply g_not | apply g_andV | apply g_orV | apply g_notV | apply g_ife | apply g_nil | apply g_cons | apply g_call | apply g_mkSt | apply g_make | apply g_cb | apply g_bm | apply g_fld | apply g_con | apply g_met | apply g_chain | apply g_put | apply g_tup | apply g_lst
  | apply g_isI | apply g_isB | apply g_isS | apply g_isNon | apply g_notNon | apply g_str | apply g_inS | apply g_notInS | apply g_un | apply g_sl | apply g_pn | apply g_ps | apply g_in | apply g_for | apply g_iL | apply g_iT | apply g_iS | apply g_iR1 | apply g_iR2 | apply g_lc | apply w_S | apply c_S | apply g_yes | apply g_par | apply g_two | (refine g_aug (by with_unfolding_all rfl) ?_) | apply g_ipI | apply g_mkK | apply g_star | apply g_mkSK | apply g_revS | apply g_revT | apply g_revL | apply g_cmK | apply m_cmK | apply g_lc2 | apply g_lenSet
  | apply iteT | apply iteF | (refine y_if (by decide) ?_) | (refine n_if (by decide) ?_)
  | (refine sp_within (by fail "st") (by fail "st") ?_) | (refine met_St (by fail "st") (by decide +kernel) (by decide +kernel) ?_)
  | (refine r_must (by assumption) (by fail "ho") ?_; intro m hm) | (refine r_may (by assumption) (by fail "ho") ?_; intro m hm) | (refine r_site (by assumption) (by fail "ho") ?_) | (refine r_number (by assumption) (by fail "ho") ?_) | (refine r_hdepth (by assumption) (by fail "ho") ?_) | (refine r_hpat (by assumption) (by fail "ho") ?_) | (refine r_kind (by assumption) (by fail "ho") ?_)
  | (refine r_sname (by assumption) (by fail "si") ?_) | (refine r_spic (by assumption) (by fail "si") ?_) | (refine r_skind (by assumption) (by fail "si") ?_) | (refine r_sdepth (by assumption) (by fail "si") ?_) | (refine r_spat (by assumption) (by fail "si") ?_) | (refine r_sparts (by assumption) (by fail "si") ?_; intro pt hpt) | (refine r_sholes (by assumption) (by fail "si") ?_; intro hl has hhl hhas)
  | (refine r_blayers (by assumption) (by fail "bo") ?_) | (refine r_bsites (by assumption) (by fail "bo") ?_; intro st sts hst hsts) | (refine r_bholes (by assumption) (by fail "bo") ?_; intro bl bhs hbl hbhs)
  | (refine r_low (by assumption) (by fail "st") ?_) | (refine r_high (by assumption) (by fail "st") ?_))
local macro_rules | `(tactic| fail "go") => `(tactic| ((repeat (first | fail "go1" | (fail "ds"; fail "go1"))); (try fail "ds")))
local macro_rules | `(tactic| fail "sz") => `(tactic| (refine Evl.sz_of ?_; simp only [List.length_cons, List.length_nil, List.length_append, List.length_map, List.length_take, List.length_drop]; omega))
-- END MACROS
section
variable {P : Program} {w : World} {K : PySem.W.Frag} {mg : Str → Option Value} {base : Heap}
/-! ### has_twice -/
abbrev nmv (n : List Nat) : V := .str (S n)
def spTwiceN (K : PySem.W.Frag) : Sp := fun vs H Q _ => ∃ (l : Addr) (ns : List (List Nat)), vs = [.ref l] ∧ SqL K H l (ns.map nmv) ∧ ns.Nodup ∧ ns.length ≤ 100 ∧ Q (.bl false) H
theorem sc_has_twice : FnScope ["names"] ["names"] (defScope s_has_twice) := C8.fnScope_by (by decide +kernel)
theorem nodup_S {ns : List (List Nat)} (h : ns.Nodup) : (ns.map S).Nodup := by
  rw [List.nodup_iff_pairwise_ne] at h ⊢
  rw [List.pairwise_map]
  exact h.imp fun hn he => hn (SX.S_inj he)
theorem ok_has_twice (T : TX K mg) : C8.Cal P w K mg base 1 "has_twice" (spTwiceN K) [] := by
  refine calD T.d_has_twice T.g_has_twice sc_has_twice (fun _ _ _ _ _ _ us hl => match us, hl with | [_], _ => rfl) (fun vs H Q E h => ?_) (fun cdv A outer s H vs Q E hr h => ?_)
  · obtain ⟨l, ns, rfl, _⟩ := h
    rfl
  · obtain ⟨l, ns, rfl, hl, hn, hz, k⟩ := h
    refine ⟨_, (pss_one (ps_ret (pe_cmpR op_lt (pe_lenSetT (by rfl) T.b_len (by rfl) T.b_set (pv 0)) (pe_callB call_lenQ (by rfl) T.b_len PySem.boot_len (pa_cons (pv 0) pa_nil)) (nomark _)))), ?_⟩
    fail "in"
    fail "go"
    refine ⟨l, ns.map S, rfl, by rw [List.map_map]; exact hl, nodup_S hn, by rw [List.length_map]; omega, ?_⟩
    fail "go"
    refine g_lenL hl ?_
    fail "go"
    rw [List.length_map, List.length_map, decide_eq_false (by omega)]
    exact k
/-! ### Board(..) -/
def spBoardInit (K : PySem.W.Frag) : Sp := fun vs H Q _ => ∃ (a dx st : Addr) (n : Int) (sts : List Addr) (rows : List Row), vs = [.ref a, .int n, .ref st] ∧ BoardOk n rows ∧ H a = some (.ins (c_Board K) dx []) ∧ SqT K H st (rfs sts) ∧ SitesAt K H sts rows ∧
  ∀ H', (∀ b o, b ≠ a → H b = some o → H' b = some o) → BoardAt K H' a n rows → Q .non H'
theorem sc_board_init : FnScope ["self", "layers", "sites", "site", "hole"] ["self", "layers", "sites"] (defScope s_board_init) := C8.fnScope_by (by decide +kernel)
theorem r_conBo {H : Hp} {Q : VK} {a dx : Addr} {f : Str} {v : V} {fs : List (Str × V)} (T : TX K mg) (k : ∃ u, Con K (c_Board K) f v u) (ha : H a = some (.ins (c_Board K) dx fs)) (hf : fs.lookup f = none) (q : Q v H) : rCon K f (.ref a) H Q := by
  obtain ⟨u, k⟩ := k
  exact ⟨a, _, dx, fs, _, u, rfl, ha, T.cl_Board, k, hf, q⟩
theorem body_board_init (T : TX K mg) : BodyOk P w K mg base ["self", "layers", "sites", "site", "hole"] "Board.__init__" (defScope s_board_init) (defBody s_board_init) (f_board_init K) 1 (spBoardInit K) := by
  intro cdv A outer s H vs Q E hr h
  obtain ⟨a, dx, st, n, sts, rows, rfl, ok, ha, hst, hss, k⟩ := h
  refine ⟨_, (pss_cons (ps_if (pt_not (pt_val (C8.pe_c (ok_is_integer T) hr (by decide) (by rfl) (pa_cons (pv 1) (pa_cons pe_int (pa_cons (pe_con (pv 0) rfl) pa_nil)))))) pss_never pss_nil)
      (pss_cons (ps_if (PW.pt (pw_or (pt_cmpR op_gt (pe_callB call_lenQ (by rfl) T.b_len PySem.boot_len (pa_cons (pv 2) pa_nil)) (pe_con (pv 0) rfl) (nomark _)) (pw_or1 (pt_not (pt_val (pe_callB (cr_all rfl) (by rfl) T.b_all (by decide +kernel) (pa_cons (pe_lc (own := [("site", 3)]) (g := gName 3) (tt := tYes) (te := (tCB (rIsi K) (tCons (tVar 3) (tCons (tC (.ref (c_Site K))) tNil)))) (by rfl) sc_board_init.nd (pi_tup (pv 2)) (blkOk_by (own := [("site", 3)]) (N := ["self", "layers", "sites", "site", "hole"]) (sc := defScope s_board_init) (by decide +kernel)) (fun _ _ _ _ _ => (pg_name (i := 3) sc_board_init.nd rfl (by first | exact Or.inl rfl | exact Or.inr rfl))) (fun _ _ _ _ _ => pts_nil) (fun _ _ _ _ _ => (pe_callB call_isi (by rfl) T.b_isinstance (by decide +kernel) (pa_cons (pv 3) (pa_cons (C8.pe_gc (v := .ref (c_Site K)) (by rfl) ⟨_, T.g_Site, rfl⟩) pa_nil))))) pa_nil))))))) pss_never pss_nil)
      (pss_cons (ps_if (pt_not (pt_val (pe_callB (cr_all rfl) (by rfl) T.b_all (by decide +kernel) (pa_cons (pe_lc (own := [("site", 3)]) (g := gName 3) (tt := tYes) (te := (tOp rEq (tCB rLenT (tCons (tFld K (tVar 3) "picture") tNil)) (tVar 1))) (by rfl) sc_board_init.nd (pi_tup (pv 2)) (blkOk_by (own := [("site", 3)]) (N := ["self", "layers", "sites", "site", "hole"]) (sc := defScope s_board_init) (by decide +kernel)) (fun _ _ _ _ _ => (pg_name (i := 3) sc_board_init.nd rfl (by first | exact Or.inl rfl | exact Or.inr rfl))) (fun _ _ _ _ _ => pts_nil) (fun _ _ _ _ _ => (pe_cmpR op_eq (pe_callB call_lenT (by rfl) T.b_len PySem.boot_len (pa_cons (pe_fld (pv 3) rfl) pa_nil)) (pv 1) (nomark _)))) pa_nil)))) pss_never pss_nil)
      (pss_cons (ps_if (pt_val (C8.pe_c (ok_has_twice T) hr (by decide) (by rfl) (pa_cons (pe_lc (own := [("site", 3)]) (g := gName 3) (tt := tYes) (te := (tFld K (tVar 3) "name")) (by rfl) sc_board_init.nd (pi_tup (pv 2)) (blkOk_by (own := [("site", 3)]) (N := ["self", "layers", "sites", "site", "hole"]) (sc := defScope s_board_init) (by decide +kernel)) (fun _ _ _ _ _ => (pg_name (i := 3) sc_board_init.nd rfl (by first | exact Or.inl rfl | exact Or.inr rfl))) (fun _ _ _ _ _ => pts_nil) (fun _ _ _ _ _ => (pe_fld (pv 3) rfl))) pa_nil))) pss_never pss_nil)
      (pss_cons (ps_fld (pv 0) (pv 1) rfl)
      (pss_cons (ps_fld (pv 0) (pv 2) rfl)
      (pss_cons (ps_fld (pv 0) (pe_callTy call_tupQ (by rfl) T.b_tuple (by decide +kernel) (pa_cons (pe_lc2 (own := [("site", 3), ("hole", 4)]) (vs1 := [4]) (g := gName 3) (tt := tYes) (g1 := gName 4) (tt1 := tYes) (wi1 := iTup K (tFld K (tVar 3) "holes")) (te := (tVar 4)) (by rfl) sc_board_init.nd (pi_tup (pv 2)) (blkOk_by (own := [("site", 3), ("hole", 4)]) (N := ["self", "layers", "sites", "site", "hole"]) (sc := defScope s_board_init) (by decide +kernel)) (by decide) (fun _ _ _ _ _ => (pg_name (i := 3) sc_board_init.nd rfl (by first | exact Or.inl rfl | exact Or.inr rfl))) (fun _ _ _ _ _ => pts_nil) (fun _ _ _ _ _ => (pi_tup (pe_fld (pv 3) rfl))) (fun _ _ _ _ _ => (pg_name (i := 4) sc_board_init.nd rfl (by first | exact Or.inl rfl | exact Or.inr rfl))) (fun _ _ _ _ _ => pts_nil) (fun _ _ _ _ _ => (pv 4))) pa_nil)) rfl)
      (pss_one (ps_if (pt_cmpR op_gt (pe_callB call_lenQ (by rfl) T.b_len PySem.boot_len (pa_cons (pe_fld (pv 0) rfl) pa_nil)) (pe_con (pv 0) rfl) (nomark _)) pss_never pss_nil))))))))), ?_⟩
  have hfew := ok.few
  have hlo := ok.lo
  have hhi := ok.hi
  have hlen : sts.length = rows.length := hss.1
  have hmost := ok.most
  fail "in"
  fail "go"
  refine r_conBo T T.con_MOST_LAYERS ha lkn ?_
  fail "go"
  refine ⟨_, _, _, rfl, ?_⟩
  rw [decide_eq_true (⟨hlo, by omega⟩ : 2 ≤ n ∧ n ≤ 16)]
  fail "go"
  refine g_lenU hst ?_
  fail "go"
  refine r_conBo T T.con_MOST_SITES ha lkn ?_
  fail "go"
  rw [decide_eq_false (by rw [List.length_map]; omega)]
  fail "go"
  refine c_T hst ?_
  refine lc_by (H := H) it_t (fun H1 e => exn_u (exn e) hst) (by rw [List.length_map]; omega) (fun i ys _ => ys = bls (List.replicate i true)) rfl (fun _ _ _ _ _ h => h) (fun x => rfl) ?_ ?_
  · rintro i x ys H1 hi e1 rfl no yes hno hyes
    obtain ⟨sa, hsa, rfl⟩ := rf_at hi
    obtain ⟨r, hr', hs⟩ := hss.getL hsa
    obtain ⟨dy, pt, hl, has, h1, _⟩ := hs.mono e1
    fail "go"
    refine isi_own T.cl_Site T.isi_Site h1 ?_
    exact hyes _ _ (exr _) (rep_snoc i)
  rintro D1 ys H1 nD1 e1 hD1 rfl
  fail "go"
  refine g_all (.inl (.inl hD1)) ?_
  rw [all_rep]
  fail "go"
  have hst1 := exn_u (exn e1) hst
  refine c_T hst1 ?_
  refine lc_by (H := H1) it_t (fun H1 e => exn_u (exn e) hst1) (by rw [List.length_map]; omega) (fun i ys _ => ys = bls (List.replicate i true)) rfl (fun _ _ _ _ _ h => h) (fun x => rfl) ?_ ?_
  · rintro i x ys H2 hi e2 rfl no yes hno hyes
    obtain ⟨sa, hsa, rfl⟩ := rf_at hi
    obtain ⟨r, hr', hs⟩ := hss.getL hsa
    have hs2 := hs.mono (ext e1 e2)
    have hok := ok.row r (List.mem_of_getElem? hr')
    fail "go"
    refine g_lenT (by have := hok.1.pic.hi; omega) ?_
    fail "go"
    rw [decide_eq_true hok.2]
    exact hyes _ _ (exr _) (rep_snoc i)
  rintro D2 ys H2 nD2 e2 hD2 rfl
  fail "go"
  refine g_all (.inl (.inl hD2)) ?_
  rw [all_rep]
  fail "go"
  have hst2 := exn_u (exn e2) hst1
  refine c_T hst2 ?_
  refine lc_by (H := H2) it_t (fun H1 e => exn_u (exn e) hst2) (by rw [List.length_map]; omega) (fun i ys _ => ys = ((rows.take i).map (·.name)).map nmv) rfl (fun _ _ _ _ _ h => h) (fun x => rfl) ?_ ?_
  · rintro i x ys H3 hi e3 rfl no yes hno hyes
    obtain ⟨sa, hsa, rfl⟩ := rf_at hi
    obtain ⟨r, hr', hs⟩ := hss.getL hsa
    have hs2 := hs.mono (ext e1 (ext e2 e3))
    fail "go"
    refine hyes _ _ (exr _) ?_
    rw [take_snoc hr', List.map_append, List.map_append]
    rfl
  rintro D3 ys H3 nD3 e3 hD3 rfl
  rw [List.length_map, hlen, List.take_length] at hD3
  fail "go"
  refine ⟨D3, rows.map (·.name), rfl, .inl (.inl hD3), ok.nms, by rw [List.length_map]; omega, ?_⟩
  fail "go"
  have e13 : Ex H H3 := ext e1 (ext e2 e3)
  have ha3 := e13 _ _ ha
  refine r_put ha3 T.cl_Board T.no_Board_layers (by show 0 < 1000; decide) pun ?_
  fail "go"
  refine r_put upd_same T.cl_Board T.no_Board_sites (by show 1 < 1000; decide) (pu1 (by decide +kernel) pun) ?_
  fail "go"
  rw [upd_upd]
  have hst4 : SqT K (upd H3 a (.ins (c_Board K) dx [("layers", .int n), ("sites", .ref st)])) st (rfs sts) := sqt_put (exn_u (exn e13) hst) ha3
  have hss4 : SitesAt K (upd H3 a (.ins (c_Board K) dx [("layers", .int n), ("sites", .ref st)])) sts rows := hss.imp fun _ _ _ q => (q.mono e13).put ha3 lkn lkn lkn
  have h4 : (upd H3 a (.ins (c_Board K) dx [("layers", .int n), ("sites", .ref st)])) a = some (.ins (c_Board K) dx [("layers", .int n), ("sites", .ref st)]) := upd_same
  have keep4 : ∀ b o, b ≠ a → H b = some o → (upd H3 a (.ins (c_Board K) dx [("layers", .int n), ("sites", .ref st)])) b = some o := fun b o nb e => by
    rw [upd_ne nb]
    exact e13 _ _ e
  revert hst4 hss4 h4 keep4
  generalize upd H3 a (.ins (c_Board K) dx [("layers", .int n), ("sites", .ref st)]) = H4
  intro hst4 hss4 h4 keep4
  obtain ⟨yss, hyss, hsum⟩ := all2_pick (R := fun sa r => SiteAt K H4 sa r) (R' := fun sa (y : List V) => ∃ (dy hl : Addr) (r : Row) (pt : Addr), H4 sa = some (.ins (c_Site K) dy (siF r.name r.pic pt r.kd r.depth r.pat hl)) ∧ SqT K H4 hl y) (g := List.length) (g' := fun r => r.holes.length)
    (fun sa r hs => by
      obtain ⟨dy, pt, hl, has, q1, q2, q3, q4⟩ := hs
      exact ⟨rfs has, ⟨dy, hl, r, pt, q1, q3⟩, by rw [List.length_map]; exact q4.1⟩) hss4
  have hcount : yss.flatten.length = (allHoles rows).length := by
    rw [List.length_flatten, hsum]
    unfold allHoles
    rw [List.length_flatMap]
  refine c2_T hst4 ?_
  refine lc2_by hst4 yss (by rw [List.length_map]; exact hyss.1) (by omega) (fun x => rfl) (fun x y => rfl) (fun x y => rfl) ?_ ?_
  · rintro i x y hi hy H5 e5 R hR
    obtain ⟨sa, hsa, rfl⟩ := rf_at hi
    obtain ⟨dy, hl, r, pt, q1, q2⟩ := hyss.2 i sa y hsa hy
    fail "go"
    refine r_fld (e5 _ _ q1) T.cl_Site T.no_Site_holes si_holes ?_
    exact hR hl (exn_u (exn e5) q2)
  rintro D5 H5 nD5 e5 hD5
  fail "go"
  refine g_tupL (.inl (.inl hD5)) fun tp nt => ?_
  fail "go"
  have e6 : Ex H4 (upd H5 tp (.tup yss.flatten)) := ext e5 (Ex.new nt)
  have h6 := e6 _ _ h4
  refine r_put h6 T.cl_Board T.no_Board_holes (by show 2 < 1000; decide) (pu1 (by decide +kernel) (pu1 (by decide +kernel) pun)) ?_
  fail "go"
  refine r_fld upd_same T.cl_Board T.no_Board_holes (lk1 (by decide +kernel) (lk1 (by decide +kernel) lk0)) ?_
  fail "go"
  have ht6 : SqT K (upd (upd H5 tp (.tup yss.flatten)) a (.ins (c_Board K) dx (boF n st tp))) tp yss.flatten := sqt_put (.inl (.inl upd_same)) h6
  refine g_lenU ht6 ?_
  fail "go"
  refine r_conBo T T.con_MOST_HOLES upd_same (lk1 (by decide +kernel) (lk1 (by decide +kernel) (lk1 (by decide +kernel) lkn))) ?_
  fail "go"
  rw [decide_eq_false (by omega)]
  fail "go"
  refine k _ (fun b o nb e => by rw [upd_ne nb]; exact e6 _ _ (keep4 b o nb e)) ⟨dx, st, tp, sts, yss.flatten, upd_same, sqt_put (exn_u (exn e6) hst4) h6, ?_, ht6, hcount⟩
  exact hss4.imp fun _ _ _ q => (q.mono e6).put h6 (lk1 (by decide +kernel) (lk1 (by decide +kernel) lkn)) (lk1 (by decide +kernel) (lk1 (by decide +kernel) lkn)) (lk1 (by decide +kernel) (lk1 (by decide +kernel) lkn))
end
end PN

/-! Boards told, turned, compared. -/
namespace PN
set_option maxRecDepth 100000
set_option maxHeartbeats 4000000
open PySem PySem.Spec PyProof.Rows L2
open Evl (Ex Ex.new Ex.mut ex_l ex_t fresh_back)
-- MACROS
local macro_rules | `(tactic| fail "in") => `(tactic| dsimp only [cxOf, Cx.nox, Cx.wish, L2.start, List.map, List.length_cons, List.length_nil, Nat.reduceAdd, Nat.reduceSub, List.replicate_succ, List.replicate_zero, List.cons_append, List.nil_append, List.append_nil])
local macro_rules | `(tactic| fail "ds") => `(tactic| dsimp only [List.set_cons_zero, List.set_cons_succ, List.cons_append, List.nil_append, List.append_nil])
local macro_rules | `(tactic| fail "ex") => `(tactic| first | exact exr _ | assumption | (refine ext ?_ (by assumption); fail "ex") | (refine ext ?_ (Ex.new (by assumption)); fail "ex") | (refine Ex.mut ?_ (by assumption); fail "ex"))
local macro_rules | `(tactic| fail "st") => `(tactic| first | assumption | (refine StAt.mono (by assumption) ?_; fail "ex"))
local macro_rules | `(tactic| fail "ho") => `(tactic| first | assumption | (refine HoleAt.mono (by assumption) ?_; fail "ex"))
local macro_rules | `(tactic| fail "si") => `(tactic| first | assumption | (refine SiteAt.mono (by assumption) ?_; fail "ex"))
local macro_rules | `(tactic| fail "bo") => `(tactic| first | assumption | (refine BoardAt.mono (by assumption) ?_; fail "ex"))
local macro_rules | `(tactic| fail "go1") => `(tactic| with_reducible first
  | apply g_seq | apply g_next | apply g_ret | apply g_drop | apply g_asg | apply g_asg2 | apply g_ifs | (refine g_var (by with_unfolding_all rfl) ?_) | apply g_c | apply g_op | apply g_rI0 | apply g_eqI | apply g_neI | apply g_eqS | apply g_neS
  | apply g_test | apply g_B | apply g_bl | apply g_and | apply g_or | apply g_not | apply g_andV | apply g_orV | apply g_notV | apply g_ife | apply g_nil | apply g_cons | apply g_call | apply g_mkSt | apply g_make | apply g_cb | apply g_bm | apply g_fld | apply g_con | apply g_met | apply g_chain | apply g_put | apply g_tup | apply g_lst
  | apply g_isI | apply g_isB | apply g_isS | apply g_isNon | apply g_notNon | apply g_str | apply g_inS | apply g_notInS | apply g_un | apply g_sl | apply g_pn | apply g_ps | apply g_in | apply g_for | apply g_iL | apply g_iT | apply g_iS | apply g_iR1 | apply g_iR2 | apply g_lc | apply w_S | apply c_S | apply g_yes | apply g_par | apply g_two | (refine g_aug (by with_unfolding_all rfl) ?_) | apply g_ipI | apply g_mkK | apply g_star | apply g_mkSK | apply g_revS | apply g_revT | apply g_revL | apply g_cmK | apply m_cmK | apply g_lc2 | apply g_lenSet
  | apply iteT | apply iteF | (refine y_if (by decide) ?_) | (refine n_if (by decide) ?_)
  | (refine sp_within (by fail "st") (by fail "st") ?_) | (refine met_St (by fail "st") (by decide +kernel) (by decide +kernel) ?_)
  | (refine r_must (by assumption) (by fail "ho") ?_; intro m hm) | (refine r_may (by assumption) (by fail "ho") ?_; intro m hm) | (refine r_site (by assumption) (by fail "ho") ?_) | (refine r_number (by assumption) (by fail "ho") ?_) | (refine r_hdepth (by assumption) (by fail "ho") ?_) | (refine r_hpat (by assumption) (by fail "ho") ?_) | (refine r_kind (by assumption) (by fail "ho") ?_)
  | (refine r_sname (by assumption) (by fail "si") ?_) | (refine r_spic (by assumption) (by fail "si") ?_) | (refine r_skind (by assumption) (by fail "si") ?_) | (refine r_sdepth (by assumption) (by fail "si") ?_) | (refine r_spat (by assumption) (by fail "si") ?_) | (refine r_sparts (by assumption) (by fail "si") ?_; intro pt hpt) | (refine r_sholes (by assumption) (by fail "si") ?_; intro hl has hhl hhas)
  | (refine r_blayers (by assumption) (by fail "bo") ?_) | (refine r_bsites (by assumption) (by fail "bo") ?_; intro st sts hst hsts) | (refine r_bholes (by assumption) (by fail "bo") ?_; intro bl bhs hbl hbhs)
  | (refine r_low (by assumption) (by fail "st") ?_) | (refine r_high (by assumption) (by fail "st") ?_))
local macro_rules | `(tactic| fail "go") => `(tactic| ((repeat (first | fail "go1" | (fail "ds"; fail "go1"))); (try fail "ds")))
local macro_rules | `(tactic| fail "sz") => `(tactic| (refine Evl.sz_of ?_; simp only [List.length_cons, List.length_nil, List.length_append, List.length_map, List.length_take, List.length_drop]; omega))
-- END MACROS
section
variable {P : Program} {w : World} {K : PySem.W.Frag} {mg : Str → Option Value} {base : Heap}
def spBoardK (K : PySem.W.Frag) : SpK := fun vs zs H Q E => ∃ us rest, vs = us ++ rest ∧ us.length = 2 ∧ zs.length = 0 ∧ rest.length ≤ 3 ∧ ∀ p, H p = Option.none → spBoardInit K (us ++ zs ++ [V.ref p]) (upd H p (.tup rest)) Q E
theorem fk_board_init (T : TX K mg) : FnK P w K mg base L2.CX0 2 (f_board_init K) [] (spBoardK K) := by
  obtain ⟨fd, F⟩ := T.d_board_init
  refine fn_starK (ps := ["self", "layers"]) (pv := "sites") (ks := []) (n := 2) F sc_board_init rfl (fun us ws rest l1 l2 l3 => ?_) (body_board_init T)
  obtain ⟨oc, od, dV, kV, doc, pm, an, cdv, ct, osl, rfl, lk, hcd, hD, hK⟩ := F.ex
  rcases hD with ⟨_, rfl⟩ | ⟨e, _⟩
  · match us, ws, rest, l1, l2, l3 with
    | [_, _], [], [], _, _, _ => rfl
    | [_, _], [], [_], _, _, _ => rfl
    | [_, _], [], [_, _], _, _, _ => rfl
    | [_, _], [], [_, _, _], _, _, _ => rfl
  · exact absurd rfl e
theorem m_Board {H : Hp} {Q : VK} {n : Int} {sts : List Addr} {rows : List Row} (ok : BoardOk n rows) (hs : SitesAt K H sts rows) (q : ∀ x H', H x = none → Ex H H' → BoardAt K H' x n rows → Q (.ref x) H') :
    rMkSK (c_Board K) (spBoardK K) (.int n :: rfs sts) [] H Q := by
  intro x dx nx ndx ne
  refine ⟨[.ref x, .int n], rfs sts, rfl, rfl, rfl, by rw [List.length_map, hs.1]; exact ok.few, fun p np => ?_⟩
  have npx : p ≠ x := fun z => by rw [z, upd_same] at np; cases np
  have keep : ∀ b o, H b = some o → (upd (upd (upd H dx (.own x)) x (.ins (c_Board K) dx [])) p (.tup (rfs sts))) b = some o := fun b o e => by
    have n1 : b ≠ x := fun z => by rw [z, nx] at e; cases e
    have n2 : b ≠ dx := fun z => by rw [z, ndx] at e; cases e
    have n3 : b ≠ p := fun z => by
      rw [upd_ne npx] at np
      by_cases w : p = dx
      · exact n2 (z.trans w)
      · rw [upd_ne w] at np
        rw [z, np] at e
        cases e
    rw [upd_ne n3, upd_ne n1, upd_ne n2]
    exact e
  refine ⟨x, dx, p, n, sts, rows, rfl, ok, by rw [upd_ne npx.symm]; exact upd_same, .inl (.inl upd_same), hs.nono (exn keep), fun H' hk hb => ⟨rfl, ?_⟩⟩
  refine q x H' nx (fun b o e => ?_) hb
  have n1 : b ≠ x := fun z => by rw [z, nx] at e; cases e
  exact hk b o n1 (keep b o e)
/-! ### Board.of -/
def spBoardOf (K : PySem.W.Frag) : Sp := fun vs H Q _ => ∃ (cl ls : Addr) (n : Int) (sts : List Addr) (rows : List Row), vs = [.ref cl, .int n, .ref ls] ∧ BoardOk n rows ∧ H ls = some (.lst (rfs sts)) ∧ SitesAt K H sts rows ∧ ∀ x H', Ex H H' → BoardAt K H' x n rows → Q (.ref x) H'
theorem sc_board_of : FnScope ["cls", "layers", "sites", "given"] ["cls", "layers", "sites"] (defScope s_board_of) := C8.fnScope_by (by decide +kernel)
theorem ok_board_of (T : TX K mg) : ∃ fd, FnOk P w K mg base L2.CX0 4 (f_board_of K) fd ["cls", "layers", "sites"] (spBoardOf K) ∧ (∀ (s : Shared) (us : List Value), us.length = 3 → BindsTo s fd ⟨us, []⟩ ((["cls", "layers", "sites"] : List Str).zip us)) := by
  obtain ⟨fd, F⟩ := T.d_board_of
  refine ⟨fd, fnD F sc_board_of (fun vs H Q E h => ?_) (fun cdv A outer s H vs Q E hr h => ?_), fun s us hl => F.bindsA (ps := ["cls", "layers", "sites"]) (fun _ _ _ _ _ _ us hl => match us, hl with | [_, _, _], _ => rfl) s us hl⟩
  · obtain ⟨cl, ls, n, sts, rows, rfl, _⟩ := h
    rfl
  · obtain ⟨cl, ls, n, sts, rows, rfl, ok, hl, hs, k⟩ := h
    refine ⟨_, (pss_cons (ps_set (i := 3) sc_board_of.nd rfl (by first | exact Or.inl rfl | exact Or.inr rfl) (pe_ifExp (pt_val (pe_callB call_isiT (by rfl) T.b_isinstance (by decide +kernel) (pa_cons (pv 2) (pa_cons (pe_tup (pa_cons (pe_bltn (v := .ty "tuple") (by rfl) T.b_tuple (by decide +kernel) rfl) (pa_cons (pe_bltn (v := .ty "list") (by rfl) T.b_list (by decide +kernel) rfl) pa_nil))) pa_nil)))) (pv 2) (pe_tup (pa_cons pe_non pa_nil))))
      (pss_one (ps_ret (pe_makeSK T.mk_Board (fk_board_init T) (hr.mono (by decide)) (by rfl) T.g_Board pass0 (pa_cons (pv 1) (StX.pa_star (pv 3) pa_nil)) pk_nil)))), ?_⟩
    fail "in"
    fail "go"
    refine ⟨by fail "sz", fun tp nt => ?_⟩
    have e1 : Ex H (upd H tp (.tup [.ty "tuple", .ty "list"])) := Ex.new nt
    fail "go"
    refine g_isLT upd_same (e1 _ _ hl) ?_
    fail "go"
    refine ⟨ls, rfs sts, rfl, .inr (.inl (.inl (e1 _ _ hl))), ?_⟩
    fail "go"
    rw [List.append_nil]
    exact ⟨rfl, m_Board ok (hs.nono (exn e1)) fun x H' _ e => k x H' (ext e1 e)⟩
def spBoardOfK (K : PySem.W.Frag) : SpK := fun vs zs H Q E => vs.length = 3 ∧ spBoardOf K (vs ++ zs) H Q E
theorem fk_board_of (T : TX K mg) : FnK P w K mg base L2.CX0 4 (f_board_of K) [] (spBoardOfK K) := by
  obtain ⟨fd, F, b⟩ := ok_board_of (P := P) (w := w) (base := base) T
  exact fnK_of (n := 3) (ks := []) F fun s us ws X l1 l2 => by
    have : ws = [] := List.length_eq_zero_iff.mp l2
    subst this
    rw [List.append_nil]
    exact b s us l1
/-! ### mirrored, len -/
def spBMirrored (K : PySem.W.Frag) : Sp := fun vs H Q _ => ∃ (b : Addr) (n : Int) (rows : List Row), vs = [.ref b] ∧ BoardOk n rows ∧ BoardAt K H b n rows ∧ ∀ x H', Ex H H' → BoardAt K H' x n (rows.map mirror) → Q (.ref x) H'
theorem sc_board_mirrored : FnScope ["self", "sites", "site"] ["self"] (defScope s_board_mirrored) := C8.fnScope_by (by decide +kernel)
theorem ok_board_mirrored (T : TX K mg) : C8.Met P w K mg base 11 (c_Board K) "mirrored" (spBMirrored K) [] := by
  refine metD T.d_board_mirrored T.cl_Board T.me_board_mirrored sc_board_mirrored (fun _ _ _ _ _ _ us hl => match us, hl with | [_], _ => rfl) (fun vs H Q E h => ?_) (fun cdv A outer s H vs Q E hr h => ?_)
  · obtain ⟨b, n, rows, rfl, _⟩ := h
    rfl
  · obtain ⟨b, n, rows, rfl, ok, hb, k⟩ := h
    refine ⟨_, (pss_cons (ps_setLc (i := 1) (own := [("site", 2)]) (g := gName 2) (tt := tYes) (te := (tMeth (c_Site K) "mirrored" (spMirrored K) [] C8.E0 (tVar 2) tNil)) (by rfl) sc_board_mirrored.nd rfl rfl (sw_true rfl rfl rfl (by decide +kernel)) (pi_tup (pe_fld (pv 0) rfl)) (blkOk_by (own := [("site", 2)]) (N := ["self", "sites", "site"]) (sc := defScope s_board_mirrored) (by decide +kernel)) (fun _ _ _ _ _ => (pg_name (i := 2) sc_board_mirrored.nd rfl (by first | exact Or.inl rfl | exact Or.inr rfl))) (fun _ _ _ _ _ => pts_nil) (fun _ _ _ _ _ => (C8.pe_mt0 (ok_site_mirrored T) hr (by decide) (pv 2))))
      (pss_one (ps_ret (pe_makeSK T.mk_Board (fk_board_init T) (hr.mono (by decide)) (by rfl) T.g_Board pass0 (pa_cons (pe_fld (pv 0) rfl) (StX.pa_star (pv 1) pa_nil)) pk_nil)))), ?_⟩
    have hfew := ok.few
    fail "in"
    fail "go"
    rename_i st sts hst hsts
    have hlen : sts.length = rows.length := hsts.1
    refine c_T hst ?_
    refine lc_by (H := H) it_t (fun H2 e => exn_u (exn e) hst) (by rw [List.length_map]; omega) (fun i ys H1 => ∃ as, ys = rfs as ∧ SitesAt K H1 as ((rows.take i).map mirror)) ⟨[], rfl, All2.nil⟩ (fun i ys H1 H2 e ⟨as, q1, q2⟩ => ⟨as, q1, q2.nono e⟩) (fun x => rfl) ?_ ?_
    · rintro i x ys H2 hi2 e2 ⟨as, rfl, has⟩ no yes hno hyes
      obtain ⟨sa, hsa, rfl⟩ := rf_at hi2
      obtain ⟨r, hr', hs⟩ := hsts.getL hsa
      have hs2 := hs.mono e2
      fail "go"
      refine met_Si hs2 (by decide +kernel) (by decide +kernel) (by decide +kernel) (by decide +kernel) (by decide +kernel) (by decide +kernel) (by decide +kernel) ?_
      fail "go"
      refine ⟨sa, r, rfl, (ok.row r (List.mem_of_getElem? hr')).1, hs2, fun x H3 e3 hx => ?_⟩
      refine hyes _ _ e3 ⟨as ++ [x], by simp [rfs], ?_⟩
      rw [take_snoc hr', List.map_append]
      exact All2.snoc (has.nono (exn e3)) hx
    · rintro D ys H2 nD e2 hD ⟨as, rfl, has⟩
      rw [List.length_map, hlen, List.take_length] at has
      fail "go"
      refine ⟨D, rfs as, rfl, .inr (.inl (.inl hD)), ?_⟩
      fail "go"
      rw [List.append_nil]
      exact ⟨rfl, m_Board ok.mirror has fun x H' _ e => k x H' (ext e2 e)⟩
def spBLen (K : PySem.W.Frag) : Sp := fun vs H Q _ => ∃ (b : Addr) (n : Int) (rows : List Row), vs = [.ref b] ∧ BoardAt K H b n rows ∧ Q (.int ((allHoles rows).length : Int)) H
theorem sc_board_len : FnScope ["self"] ["self"] (defScope s_board_len) := C8.fnScope_by (by decide +kernel)
theorem fr_board_len (T : TX K mg) : FnR P w K mg base L2.CX0 1 (f_board_len K) (spBLen K) := by
  refine frOf (fnRD T.d_board_len sc_board_len (fun _ _ _ _ _ _ us hl => match us, hl with | [_], _ => rfl) (fun vs H Q E h => ?_) (fun cdv A outer s H vs Q E hr h => ?_))
  · obtain ⟨b, n, rows, rfl, _⟩ := h
    rfl
  · obtain ⟨b, n, rows, rfl, hb, k⟩ := h
    refine ⟨_, (pss_one (ps_ret (pe_callB call_lenQ (by rfl) T.b_len PySem.boot_len (pa_cons (pe_fld (pv 0) rfl) pa_nil)))), ?_⟩
    fail "in"
    fail "go"
    rename_i hl hs hhl hhs
    refine g_lenU hhl ?_
    rw [hhs]
    exact k
/-! ### == -/
def RSi (K : PySem.W.Frag) : Addr → Addr → Hp → Prop := fun a b H => ∃ r, SiteAt K H a r ∧ SiteAt K H b r
theorem mon_RSi : Mon (DIns (c_Site K) (RSi K)) := mon_ins fun a b H H' e ⟨r, h1, h2⟩ => ⟨r, h1.mono e, h2.mono e⟩
theorem rcSites {X : Cx} {K : PySem.W.Frag} {mg : Str → Option Value} (T : TX K mg) (hK : X.K = K := by rfl) (hm : X.mg = mg := by rfl) : RcG X 2 (DTup X.K (DIns (c_Site K) (RSi K))) := by
  subst hK hm
  obtain ⟨fd, F, b⟩ := ok_site_eq (P := X.prog) (w := X.w) (base := X.base) T
  exact rcG_tup mon_RSi (eqG_ins (E := E0) (F.imp fun vs H Q E h => by
    obtain ⟨a, b, rfl, ⟨r, h1, h2⟩, k⟩ := h
    exact ⟨a, b, r, rfl, h1, h2, k H (fun _ _ z => z)⟩) T.eq_Site.eq T.eq_Site.fn b pass0)
def spBoardEq (K : PySem.W.Frag) : Sp := fun vs H Q _ => ∃ (a b : Addr) (n : Int) (rows : List Row), vs = [.ref a, .ref b] ∧ BoardAt K H a n rows ∧ BoardAt K H b n rows ∧ ∀ H', Ex H H' → Q (.bl true) H'
theorem sc_board_eq : FnScope ["self", "other"] ["self", "other"] (defScope s_board_eq) := C8.fnScope_by (by decide +kernel)
theorem ok_board_eq (T : TX K mg) : ∃ fd, FnOk P w K mg base L2.CX0 3 (f_board_eq K) fd ["self", "other"] (spBoardEq K) ∧ Binds K fd ["self", "other"] [] := by
  refine fnRD T.d_board_eq sc_board_eq (fun _ _ _ _ _ _ us hl => match us, hl with | [_, _], _ => rfl) (fun vs H Q E h => ?_) (fun cdv A outer s H vs Q E hr h => ?_)
  · obtain ⟨a, b, n, rows, rfl, _⟩ := h
    rfl
  · obtain ⟨a, b, n, rows, rfl, ha, hb, k⟩ := h
    refine ⟨_, (pss_one (ps_ret (pe_and (pe_callB call_isi (by rfl) T.b_isinstance (by decide +kernel) (pa_cons (pv 1) (pa_cons (C8.pe_gc (v := .ref (c_Board K)) (by rfl) ⟨_, T.g_Board, rfl⟩) pa_nil))) (pe_and (pe_cmpR op_eq (pe_fld (pv 0) rfl) (pe_fld (pv 1) rfl) (nomark _)) (pe_one (pe_cmpR (op_eqG (rcSites T) (hr.mono (by decide))) (pe_fld (pv 0) rfl) (pe_fld (pv 1) rfl) (nomark _))))))), ?_⟩
    fail "in"
    fail "go"
    obtain ⟨dy, st, hl, sts, hs, hb', _⟩ := id hb
    refine isi_own T.cl_Board T.isi_Board hb' ?_
    fail "go"
    rw [decide_eq_true (rfl : n = n)]
    fail "go"
    rename_i st1 sts1 hst1 hsts1 st2 sts2 hst2 hsts2
    refine ⟨⟨st1, st2, _, _, rfl, rfl, hst1, hst2, by rw [List.length_map, List.length_map, hsts1.1, hsts2.1], fun i x y hx hy => ?_⟩, fun H' e => k H' e⟩
    obtain ⟨a1, q1, rfl⟩ := rf_at hx
    obtain ⟨a2, q2, rfl⟩ := rf_at hy
    obtain ⟨r, hr', s1⟩ := hsts1.getL q1
    obtain ⟨r2, hr2, s2⟩ := hsts2.getL q2
    rw [hr'] at hr2
    cases hr2
    obtain ⟨d1, p1, l1, as1, g1, g1'⟩ := id s1
    obtain ⟨d2, p2, l2, as2, g2, g2'⟩ := id s2
    exact ⟨a1, a2, d1, d2, _, _, rfl, rfl, g1, g2, r, s1, s2⟩
def RBo (K : PySem.W.Frag) : Addr → Addr → Hp → Prop := fun a b H => ∃ n rows, BoardAt K H a n rows ∧ BoardAt K H b n rows
theorem rcBoard {X : Cx} {K : PySem.W.Frag} {mg : Str → Option Value} (T : TX K mg) (hK : X.K = K := by rfl) (hm : X.mg = mg := by rfl) : RcG X 3 (DIns (c_Board K) (RBo K)) := by
  subst hK hm
  obtain ⟨fd, F, b⟩ := ok_board_eq (P := X.prog) (w := X.w) (base := X.base) T
  exact rcG_ins (E := E0) (F.imp fun vs H Q E h => by
    obtain ⟨a, b, rfl, ⟨n, rows, h1, h2⟩, k⟩ := h
    exact ⟨a, b, n, rows, rfl, h1, h2, k⟩) T.eq_Board.eq T.eq_Board.fn b pass0
end
end PN

/-! More mathematics: pictures that are drawn; ways turned; cuts within the picture. -/
namespace PN
set_option maxRecDepth 100000
set_option maxHeartbeats 4000000
open PySem PySem.Spec PyProof.Rows L2
open Evl (Ex Ex.new Ex.mut ex_l ex_t fresh_back)
/-! ### a picture being drawn: the letters left, what is drawn, the net at hand -/
structure PicSt (ls p : List Nat) (c : Nat) : Prop where
  nd : ls.Nodup
  low : ∀ x ∈ ls, 97 ≤ x ∧ x ≤ 122
  ch : ∀ x ∈ p, ((97 ≤ x ∧ x ≤ 122) ∨ x = 46) ∧ x ∉ ls
  cl : 97 ≤ c ∧ c ≤ 122
  cn : c ∉ ls
  mix : NonMixed p
  aft : ∀ d, d ≠ 46 → d ≠ c → ¬ [c, d].Sublist p
theorem sub_snoc3 {a b c x : Nat} {p : List Nat} (h : [a, b, c].Sublist (p ++ [x])) : [a, b, c].Sublist p ∨ (c = x ∧ [a, b].Sublist p) := by
  rw [List.sublist_append_iff] at h
  obtain ⟨l1, l2, e, h1, h2⟩ := h
  have h2l := h2.length_le
  rcases l2 with _ | ⟨y, _ | ⟨z, l2⟩⟩
  · rw [List.append_nil] at e
    rw [e]
    exact .inl h1
  · have hy : y = x := by simpa using h2
    have e2 : [a, b, c] = [a, b] ++ [c] := rfl
    rw [e2] at e
    obtain ⟨q1, q2⟩ := List.append_inj' e rfl
    rw [List.cons.injEq] at q2
    refine .inr ⟨q2.1.trans hy, ?_⟩
    rw [q1]
    exact h1
  · simp at h2l
theorem sub_snoc2 {a b x : Nat} {p : List Nat} (h : [a, b].Sublist (p ++ [x])) : [a, b].Sublist p ∨ (b = x ∧ a ∈ p) := by
  rw [List.sublist_append_iff] at h
  obtain ⟨l1, l2, e, h1, h2⟩ := h
  have h2l := h2.length_le
  rcases l2 with _ | ⟨y, _ | ⟨z, l2⟩⟩
  · rw [List.append_nil] at e
    rw [e]
    exact .inl h1
  · have hy : y = x := by simpa using h2
    have e2 : [a, b] = [a] ++ [b] := rfl
    rw [e2] at e
    obtain ⟨q1, q2⟩ := List.append_inj' e rfl
    rw [List.cons.injEq] at q2
    refine .inr ⟨q2.1.trans hy, ?_⟩
    rw [← q1] at h1
    exact List.singleton_sublist.mp h1
  · simp at h2l
theorem PicSt.start {ls : List Nat} {c : Nat} (nd : ls.Nodup) (low : ∀ x ∈ ls, 97 ≤ x ∧ x ≤ 122) (cl : 97 ≤ c ∧ c ≤ 122) (cn : c ∉ ls) : PicSt ls [] c :=
  ⟨nd, low, (fun x h => absurd h (by simp)), cl, cn, (fun a b _ _ _ h => absurd h.length_le (by simp)), (fun d _ _ h => absurd h.length_le (by simp))⟩
theorem PicSt.dot {ls p : List Nat} {c : Nat} (h : PicSt ls p c) : PicSt ls (p ++ [46]) c where
  nd := h.nd
  low := h.low
  ch := fun x hx => by
    rcases List.mem_append.mp hx with q | q
    · exact h.ch x q
    · have e : x = 46 := by simpa using q
      subst e
      exact ⟨.inr rfl, fun m => by have := h.low _ m; omega⟩
  cl := h.cl
  cn := h.cn
  mix := fun a b ha hb hn hs => by
    rcases sub_snoc3 hs with q | ⟨q, _⟩
    · exact h.mix a b ha hb hn q
    · exact ha q
  aft := fun d hd hn hs => by
    rcases sub_snoc2 hs with q | ⟨q, _⟩
    · exact h.aft d hd hn q
    · exact hd q
theorem PicSt.net {ls p : List Nat} {c : Nat} (h : PicSt ls p c) : PicSt ls (p ++ [c]) c where
  nd := h.nd
  low := h.low
  ch := fun x hx => by
    rcases List.mem_append.mp hx with q | q
    · exact h.ch x q
    · have e : x = c := by simpa using q
      subst e
      exact ⟨.inl h.cl, h.cn⟩
  cl := h.cl
  cn := h.cn
  mix := fun a b ha hb hn hs => by
    rcases sub_snoc3 hs with q | ⟨q, q2⟩
    · exact h.mix a b ha hb hn q
    · subst q
      exact h.aft b hb (Ne.symm hn) q2
  aft := fun d hd hn hs => by
    rcases sub_snoc2 hs with q | ⟨q, _⟩
    · exact h.aft d hd hn q
    · exact hn q
theorem erase_out {ls : List Nat} {d k : Nat} (nd : ls.Nodup) (hk : ls[k]? = some d) : d ∉ ls.eraseIdx k := by
  intro m
  obtain ⟨j, hj⟩ := List.mem_iff_getElem?.mp m
  rw [List.nodup_iff_pairwise_ne, List.pairwise_iff_getElem] at nd
  rw [List.getElem?_eraseIdx] at hj
  split at hj
  · rename_i hlt
    obtain ⟨a1, a2⟩ := List.getElem?_eq_some_iff.mp hj
    obtain ⟨b1, b2⟩ := List.getElem?_eq_some_iff.mp hk
    exact nd j k a1 b1 hlt (a2.trans b2.symm)
  · rename_i hge
    obtain ⟨a1, a2⟩ := List.getElem?_eq_some_iff.mp hj
    obtain ⟨b1, b2⟩ := List.getElem?_eq_some_iff.mp hk
    exact nd k (j + 1) b1 a1 (by omega) (b2.trans a2.symm)
theorem PicSt.first {ls : List Nat} {d k : Nat} (nd : ls.Nodup) (low : ∀ x ∈ ls, 97 ≤ x ∧ x ≤ 122) (hk : ls[k]? = some d) : PicSt (ls.eraseIdx k) [] d :=
  PicSt.start (nd.sublist (List.eraseIdx_sublist ls k)) (fun x hx => low x ((List.eraseIdx_sublist ls k).subset hx)) (low d (List.mem_of_getElem? hk)) (erase_out nd hk)
theorem PicSt.pick {ls p : List Nat} {c d k : Nat} (h : PicSt ls p c) (hk : ls[k]? = some d) : PicSt (ls.eraseIdx k) p d where
  nd := h.nd.sublist (List.eraseIdx_sublist ls k)
  low := fun x hx => h.low x ((List.eraseIdx_sublist ls k).subset hx)
  ch := fun x hx => ⟨(h.ch x hx).1, fun m => (h.ch x hx).2 ((List.eraseIdx_sublist ls k).subset m)⟩
  cl := h.low d (List.mem_of_getElem? hk)
  cn := erase_out h.nd hk
  mix := h.mix
  aft := fun e he hn hs => by
    have hm : d ∈ p := hs.subset (by simp)
    exact (h.ch d hm).2 (List.mem_of_getElem? hk)
/-! ### cuts lie within the picture -/
def CutIn (n : Int) (c : Cut) : Prop := 1 ≤ c.2.1 ∧ c.2.1 ≤ c.1.1 ∧ c.1.1 ≤ c.1.2 ∧ c.1.2 ≤ c.2.2 ∧ c.2.2 ≤ n
theorem cutGo_in {n hi most : Int} (h1 : hi ≤ most) (h2 : most ≤ n) : ∀ (r : List Int) (lo least : Int), 1 ≤ least → least ≤ lo → lo < hi → r.Pairwise (· < ·) → (∀ e ∈ r, lo < e ∧ e < hi) → ∀ c ∈ cutGo lo least hi most r, CutIn n c
  | [], lo, least, a, b, d, _, _, c, hc => by
    have e : c = ((lo, hi), (least, most)) := by simpa [cutGo] using hc
    subst e
    refine ⟨a, b, ?_, h1, h2⟩
    show lo ≤ hi
    omega
  | e :: r, lo, least, a, b, d, up, hm, c, hc => by
    have hc : c ∈ ((lo, e), (least, e)) :: cutGo e e hi most r := hc
    have he := hm e List.mem_cons_self
    rw [List.pairwise_cons] at up
    rcases List.mem_cons.mp hc with q | q
    · subst q
      refine ⟨a, b, ?_, Int.le_refl _, ?_⟩
      · show lo ≤ e
        omega
      · show e ≤ n
        omega
    · exact cutGo_in h1 h2 r e e (by omega) (Int.le_refl _) he.2 up.2 (fun x hx => ⟨up.1 x hx, (hm x (List.mem_cons_of_mem _ hx)).2⟩) c q
theorem holes_in {p : List Nat} {parts : List Int} (up : parts.Pairwise (· < ·)) : ∀ c ∈ holesOf p parts, CutIn p.length c := by
  intro c hc
  rw [holesOf_eq, List.mem_flatMap] at hc
  obtain ⟨x, hx, hc⟩ := hc
  have hm := ((mem_nets p x).mp hx).1
  unfold blk at hc
  by_cases q : lowOf p x < highOf p x
  · rw [if_pos q] at hc
    exact cutGo_in (room_high p x) (room_le hm) _ _ _ (room_ge p x) (room_low p x) q (up.filter _) (fun e he => of_decide_eq_true (List.mem_filter.mp he).2) c hc
  · rw [if_neg q] at hc
    cases hc
/-! ### ways turned -/
def Way.other : Way → Way
  | .thr => .thr
  | .up => .dn
  | .dn => .up
theorem inW_turn (n : Int) (c : Cut) (st : Int × Int) : inW (turnCut n c) (turn n st) = inW c st := by
  unfold inW turnCut turn
  simp only [decide_eq_decide]
  omega
theorem thrW_turn (n : Int) (c : Cut) (st : Int × Int) : thrW (turnCut n c) (turn n st) = thrW c st := by
  unfold thrW
  rw [inW_turn]
  congr 1
  unfold turnCut turn
  simp only [decide_eq_decide]
  omega
theorem upW_turn (n : Int) (c : Cut) (d : Int) (st : Int × Int) : upW (turnCut n c) d (turn n st) = dnW c d st := by
  unfold upW dnW
  rw [inW_turn]
  congr 1
  unfold turnCut turn
  simp only [decide_eq_decide]
  omega
theorem dnW_turn (n : Int) (c : Cut) (d : Int) (st : Int × Int) : dnW (turnCut n c) d (turn n st) = upW c d st := by
  unfold upW dnW
  rw [inW_turn]
  congr 1
  unfold turnCut turn
  simp only [decide_eq_decide]
  omega
theorem ways_len (kd : Kd) (c : Cut) (d : Int) (st : Int × Int) : (waysM kd c d st).length ≤ 3 := by
  have hb : (waysB c d st).length ≤ 2 := waysB_len c d st
  have ht : ∀ L : List Way, (waysT L c st).length ≤ L.length + 1 := fun L => by
    unfold waysT
    cases thrW c st
    · exact Nat.le_succ _
    · exact Nat.le_refl _
  cases kd with
  | thr => exact Nat.le_trans (ht []) (by decide)
  | bli => exact Nat.le_trans hb (by decide)
  | eit => exact Nat.le_trans (ht (waysB c d st)) (by omega)
theorem ways_turn (kd : Kd) (n : Int) (c : Cut) (d : Int) (st : Int × Int) : ((waysM kd c d st).map Way.other).Perm (waysM kd (turnCut n c) d (turn n st)) := by
  have hb : ((waysB c d st).map Way.other).Perm (waysB (turnCut n c) d (turn n st)) := by
    unfold waysB
    rw [upW_turn, dnW_turn]
    cases upW c d st <;> cases dnW c d st <;> first | exact List.Perm.refl _ | exact List.Perm.swap _ _ _
  have ht : ∀ L M : List Way, (L.map Way.other).Perm M → ((waysT L c st).map Way.other).Perm (waysT M (turnCut n c) (turn n st)) := fun L M p => by
    unfold waysT
    rw [thrW_turn]
    cases thrW c st
    · exact p
    · exact p.cons _
  cases kd with
  | thr => exact ht [] [] (List.Perm.refl _)
  | bli => exact hb
  | eit => exact ht _ _ hb
theorem barrel_turn (n : Int) (c : Cut) (st : Int × Int) (wy : Way) : barrelM (turnCut n c).1 (turn n st) wy.other = turn n (barrelM c.1 st wy) := by
  cases wy <;> rfl
theorem ways_in {kd : Kd} {c : Cut} {d : Int} {st : Int × Int} {wy : Way} (h : wy ∈ waysM kd c d st) : wy = .thr ∨ (st.1 ≤ c.1.1 ∧ c.1.2 ≤ st.2) := by
  have key : ∀ wy, wy ∈ waysB c d st → st.1 ≤ c.1.1 ∧ c.1.2 ≤ st.2 := by
    intro wy hw
    unfold waysB at hw
    rw [List.mem_append] at hw
    rcases hw with hw | hw
    · by_cases q : upW c d st = true
      · unfold upW inW at q
        rw [Bool.and_eq_true, decide_eq_true_eq] at q
        exact q.1
      · rw [if_neg q] at hw
        cases hw
    · by_cases q : dnW c d st = true
      · unfold dnW inW at q
        rw [Bool.and_eq_true, decide_eq_true_eq] at q
        exact q.1
      · rw [if_neg q] at hw
        cases hw
  have key2 : ∀ L, wy ∈ waysT L c st → wy = .thr ∨ wy ∈ L := by
    intro L hw
    unfold waysT at hw
    by_cases q : thrW c st = true
    · rw [if_pos q] at hw
      rcases List.mem_cons.mp hw with e | e
      · exact .inl e
      · exact .inr e
    · rw [if_neg q] at hw
      exact .inr hw
  cases kd with
  | thr =>
    rcases key2 _ h with e | e
    · exact .inl e
    · cases e
  | bli => exact .inr (key wy h)
  | eit =>
    rcases key2 _ h with e | e
    · exact .inl e
    · exact .inr (key wy e)
end PN

/-! The pen and the draws. -/
namespace PN
set_option maxRecDepth 100000
set_option maxHeartbeats 4000000
open PySem PySem.Spec PyProof.Rows L2
open Evl (Ex Ex.new Ex.mut ex_l ex_t fresh_back)
-- MACROS
local macro_rules | `(tactic| fail "in") => `(tactic| dsimp only [cxOf, Cx.nox, Cx.wish, L2.start, List.map, List.length_cons, List.length_nil, Nat.reduceAdd, Nat.reduceSub, List.replicate_succ, List.replicate_zero, List.cons_append, List.nil_append, List.append_nil])
local macro_rules | `(tactic| fail "ds") => `(tactic| dsimp only [List.set_cons_zero, List.set_cons_succ, List.cons_append, List.nil_append, List.append_nil])
local macro_rules | `(tactic| fail "ex") => `(tactic| first | exact exr _ | assumption | (refine ext ?_ (by assumption); fail "ex") | (refine ext ?_ (Ex.new (by assumption)); fail "ex") | (refine Ex.mut ?_ (by assumption); fail "ex"))
local macro_rules | `(tactic| fail "st") => `(tactic| first | assumption | (refine StAt.mono (by assumption) ?_; fail "ex"))
local macro_rules | `(tactic| fail "ho") => `(tactic| first | assumption | (refine HoleAt.mono (by assumption) ?_; fail "ex"))
local macro_rules | `(tactic| fail "si") => `(tactic| first | assumption | (refine SiteAt.mono (by assumption) ?_; fail "ex"))
local macro_rules | `(tactic| fail "bo") => `(tactic| first | assumption | (refine BoardAt.mono (by assumption) ?_; fail "ex"))
local macro_rules | `(tactic| fail "go1") => `(tactic| with_reducible first
  | apply g_seq | apply g_next | apply g_ret | apply g_drop | apply g_asg | apply g_asg2 | apply g_ifs | (refine g_var (by with_unfolding_all rfl) ?_) | apply g_c | apply g_op | apply g_rI0 | apply g_eqI | apply g_neI | apply g_eqS | apply g_neS
  | apply g_test | apply g_B | apply g_bl | apply g_and | apply g_or | apply g_not | apply g_andV | apply g_orV | apply g_notV | apply g_ife | apply g_nil | apply g_cons | apply g_call | apply g_mkSt | apply g_make | apply g_cb | apply g_bm | apply g_fld | apply g_con | apply g_met | apply g_chain | apply g_put | apply g_tup | apply g_lst
  | apply g_isI | apply g_isB | apply g_isS | apply g_isNon | apply g_notNon | apply g_str | apply g_inS | apply g_notInS | apply g_un | apply g_sl | apply g_pn | apply g_ps | apply g_in | apply g_for | apply g_iL | apply g_iT | apply g_iS | apply g_iR1 | apply g_iR2 | apply g_lc | apply w_S | apply c_S | apply g_yes | apply g_par | apply g_two | (refine g_aug (by with_unfolding_all rfl) ?_) | apply g_ipI | apply g_mkK | apply g_star | apply g_mkSK | apply g_revS | apply g_revT | apply g_revL | apply g_cmK | apply m_cmK | apply g_lc2 | apply g_lenSet
  | apply iteT | apply iteF | (refine y_if (by decide) ?_) | (refine n_if (by decide) ?_)
  | (refine sp_within (by fail "st") (by fail "st") ?_) | (refine met_St (by fail "st") (by decide +kernel) (by decide +kernel) ?_)
  | (refine r_must (by assumption) (by fail "ho") ?_; intro m hm) | (refine r_may (by assumption) (by fail "ho") ?_; intro m hm) | (refine r_site (by assumption) (by fail "ho") ?_) | (refine r_number (by assumption) (by fail "ho") ?_) | (refine r_hdepth (by assumption) (by fail "ho") ?_) | (refine r_hpat (by assumption) (by fail "ho") ?_) | (refine r_kind (by assumption) (by fail "ho") ?_)
  | (refine r_sname (by assumption) (by fail "si") ?_) | (refine r_spic (by assumption) (by fail "si") ?_) | (refine r_skind (by assumption) (by fail "si") ?_) | (refine r_sdepth (by assumption) (by fail "si") ?_) | (refine r_spat (by assumption) (by fail "si") ?_) | (refine r_sparts (by assumption) (by fail "si") ?_; intro pt hpt) | (refine r_sholes (by assumption) (by fail "si") ?_; intro hl has hhl hhas)
  | (refine r_blayers (by assumption) (by fail "bo") ?_) | (refine r_bsites (by assumption) (by fail "bo") ?_; intro st sts hst hsts) | (refine r_bholes (by assumption) (by fail "bo") ?_; intro bl bhs hbl hbhs)
  | (refine r_low (by assumption) (by fail "st") ?_) | (refine r_high (by assumption) (by fail "st") ?_))
local macro_rules | `(tactic| fail "go") => `(tactic| ((repeat (first | fail "go1" | (fail "ds"; fail "go1"))); (try fail "ds")))
local macro_rules | `(tactic| fail "sz") => `(tactic| (refine Evl.sz_of ?_; simp only [List.length_cons, List.length_nil, List.length_append, List.length_map, List.length_take, List.length_drop]; omega))
-- END MACROS
/-! ### all but the pen is kept -/
def ExB (pen : Addr) (H H' : Hp) : Prop := ∀ a o, a ≠ pen → H a = some o → H' a = some o
theorem ExB.refl (pen : Addr) (H : Hp) : ExB pen H H := fun _ _ _ h => h
theorem ExB.trans {pen : Addr} {H H1 H2 : Hp} (a : ExB pen H H1) (b : ExB pen H1 H2) : ExB pen H H2 := fun x o n h => b x o n (a x o n h)
theorem exb {pen : Addr} {H H' : Hp} (e : Ex H H') : ExB pen H H' := fun a o _ h => e a o h
theorem ExB.mut {pen : Addr} {H H' : Hp} {l : Addr} {o : HO} (e : ExB pen H H') (n : H l = none) : ExB pen H (upd H' l o) := fun a u na ha => by
  rw [upd_ne (fun q => by rw [q, n] at ha; cases ha)]
  exact e a u na ha
theorem ExB.pen {pen : Addr} {H H' : Hp} {o : HO} (e : ExB pen H H') : ExB pen H (upd H' pen o) := fun a u na ha => by
  rw [upd_ne na]
  exact e a u na ha
theorem ExB.back {pen : Addr} {H H' : Hp} {l : Addr} (e : ExB pen H H') (h : H' l = none) (n : l ≠ pen) : H l = none := by
  cases q : H l with
  | none => rfl
  | some o =>
    rw [e l o n q] at h
    cases h
theorem ExB.n {pen : Addr} {H H' : Hp} {xs : List V} (e : ExB pen H H') (h : H pen = some (.lst xs)) : ExN H H' := fun a o n ha => e a o (fun q => by rw [q, h] at ha; exact n xs (Option.some.inj ha).symm) ha
/-- the pen: the script's numbers at L, the place, the rest -/
structure PenOk (H : Hp) (pen L : Addr) (m : Int) : Prop where
  st : ∃ pl rest : Int, H pen = some (.lst [.ref L, .int pl, .int rest]) ∧ 0 ≤ pl ∧ pl ≤ m ∧ 0 ≤ rest
  ns : ∃ ns : List Int, H L = some (.lst (nts ns)) ∧ ns.length ≤ 63
  ne : L ≠ pen
section
variable {H H' : Hp} {pen L : Addr} {m : Int}
theorem PenOk.mono (h : PenOk H pen L m) (e : Ex H H') : PenOk H' pen L m := by
  obtain ⟨⟨pl, rest, h1, h2⟩, ⟨ns, h3, h4⟩, h5⟩ := h
  exact ⟨⟨pl, rest, e _ _ h1, h2⟩, ⟨ns, e _ _ h3, h4⟩, h5⟩
theorem PenOk.put {D : Addr} {o : HO} (h : PenOk H pen L m) (n1 : D ≠ pen) (n2 : D ≠ L) : PenOk (upd H D o) pen L m := by
  obtain ⟨⟨pl, rest, h1, h2⟩, ⟨ns, h3, h4⟩, h5⟩ := h
  exact ⟨⟨pl, rest, by rw [upd_ne n1.symm]; exact h1, h2⟩, ⟨ns, by rw [upd_ne n2.symm]; exact h3, h4⟩, h5⟩
theorem PenOk.le {k : Int} (h : PenOk H pen L m) (q : m ≤ k) : PenOk H pen L k := by
  obtain ⟨⟨pl, rest, h1, h2, h3, h4⟩, h5, h6⟩ := h
  exact ⟨⟨pl, rest, h1, h2, by omega, h4⟩, h5, h6⟩
theorem PenOk.n1 (h : PenOk H pen L m) {D : Addr} (q : H D = none) : D ≠ pen := fun e => by
  obtain ⟨⟨pl, rest, h1, _⟩, _, _⟩ := h
  rw [e, h1] at q
  cases q
theorem PenOk.n2 (h : PenOk H pen L m) {D : Addr} (q : H D = none) : D ≠ L := fun e => by
  obtain ⟨_, ⟨ns, h1, _⟩, _⟩ := h
  rw [e, h1] at q
  cases q
theorem PenOk.exn (h : PenOk H pen L m) (e : ExB pen H H') : ExN H H' := by
  obtain ⟨⟨pl, rest, h1, _⟩, _, _⟩ := h
  exact e.n h1
end
section
variable {K : PySem.W.Frag} {H : Hp} {Q : VK} {QS : L2.St → Hp → Prop} {σ : L2.St} {ta tb te : TE} {D : Ends}
theorem g_modG {a b : Int} (hb : 0 < b) (h : ∀ r, 0 ≤ r → r < b → Q (.int r) H) : rI (fun _ j => 0 < j) (fun i j => .int (i % j)) (.int a) (.int b) H Q := ⟨a, b, rfl, rfl, hb, h _ (Int.emod_nonneg a (by omega)) (Int.emod_lt_of_pos a hb)⟩
theorem g_mul {a b : Int} (hc : CMul a b) (h : Q (.int (a * b)) H) : rI CMul (fun i j => .int (i * j)) (.int a) (.int b) H Q := ⟨a, b, rfl, rfl, hc, h⟩
theorem g_fdiv {a b : Int} (hb : 0 < b ∧ b < 1073741824) (h : Q (.int (a / b)) H) : rI CDiv (fun i j => .int (i / j)) (.int a) (.int b) H Q := ⟨a, b, rfl, rfl, hb, h⟩
theorem g_pow {a b : Int} (hc : CPow a b) (h : Q (.int (a ^ b.toNat)) H) : rI CPow (fun i j => .int (i ^ j.toNat)) (.int a) (.int b) H Q := ⟨a, b, rfl, rfl, hc, h⟩
theorem g_intI {i : Int} (h : Q (.int i) H) : rInt1 [.int i] H Q := .inl ⟨i, rfl, h⟩
theorem g_intB {b : Bool} (h : Q (.int (if b then 1 else 0)) H) : rInt1 [.bl b] H Q := .inr ⟨b, rfl, h⟩
theorem g_abs {i : Int} (h : Q (.int (if i < 0 then -i else i)) H) : rAbs [.int i] H Q := ⟨i, rfl, h⟩
theorem g_gsub {t : TSet} {v : V} (h : ta σ H fun o H1 => tb σ H1 fun i H2 => t o i v H2 fun H3 => QS σ H3) : gSub ta tb t v σ H QS := h
theorem g_asgS {t : TSet} (h : te σ H fun x H1 => ta σ H1 fun o H2 => tb σ H2 fun i H3 => t o i x H3 fun H4 => D.nx σ H4) : tAsg te (gSub ta tb t) D σ H := h
theorem g_setL {p : Addr} {xs : List V} {k : Int} {j : Nat} {v : V} {QH : Hp → Prop} (hp : H p = some (.lst xs)) (hj : ixN xs.length k = some j) (h : QH (upd H p (.lst (xs.set j v)))) : rSetL (.ref p) (.int k) v H QH := ⟨p, xs, k, j, rfl, rfl, hp, hj, h⟩
theorem g_neNil {L p : Addr} {ns : List Int} (h1 : H L = some (.lst (nts ns))) (h2 : H p = some (.lst [])) (q : Q (.bl (decide (ns ≠ []))) H) : rNeD K (.ref L) (.ref p) H Q := by
  refine ⟨.list (ns.map PyData.int), .list [], .lst (.inl (.inl h1)) (dp_ints ns), .lst (.inl (.inl h2)) .nil, shaped_lst ns, rfl, ?_⟩
  cases ns with
  | nil => exact q
  | cons n ns => exact q
end
section
variable {P : Program} {w : World} {K : PySem.W.Frag} {mg : Str → Option Value} {base : Heap}
def spDraw (K : PySem.W.Frag) : Sp := fun vs H Q _ => ∃ (pen L : Addr) (many m : Int), vs = [.ref pen, .int many] ∧ 0 < many ∧ many ≤ 1000 ∧ PenOk H pen L m ∧ m ≤ 100000 ∧
  ∀ d H', ExB pen H H' → PenOk H' pen L (m + 1) → 0 ≤ d → d < many → Q (.int d) H'
theorem sc_law_draw : FnScope ["_law_pen_here", "_law_many", "_law_digit", "_law_at", "_law_cell", "_law_large", "_law_spun"] ["_law_pen_here", "_law_many"] (defScope s_law_draw) := C8.fnScope_by (by decide +kernel)
theorem ok_law_draw (T : TX K mg) : C8.Cal P w K mg base 1 "_law_draw" (spDraw K) [] := by
  refine calD T.d_law_draw T.g_law_draw sc_law_draw (fun _ _ _ _ _ _ us hl => match us, hl with | [_, _], _ => rfl) (fun vs H Q E h => ?_) (fun cdv A outer s H vs Q E hr h => ?_)
  · obtain ⟨pen, L, many, m, rfl, _⟩ := h
    rfl
  · obtain ⟨pen, L, many, m, rfl, hm0, hm1, ⟨⟨pl, rest, hp, hpl0, hpl1, hrest⟩, ⟨ns, hL, hns⟩, hne⟩, hm2, k⟩ := h
    refine ⟨_, (pss_cons (ps_if (pt_cmpR op_gt (pe_ix ix_list (pv 0) pe_int (fun _ _ => rfl)) pe_int (nomark _)) (pss_cons (ps_set (i := 2) sc_law_draw.nd rfl (by first | exact Or.inl rfl | exact Or.inr rfl) (pe_op op_mod (pe_callTy call_intN (by rfl) T.b_int (by decide +kernel) (pa_cons (pe_ix ix_list (pv 0) pe_int (fun _ _ => rfl)) pa_nil)) (pv 1)))
      (pss_cons (ps_asg (pe_op op_fdiv (pe_ix ix_list (pv 0) pe_int (fun _ _ => rfl)) (pv 1)) (pg_sub (pv 0) pe_int set_list))
      (pss_one (ps_ret (pv 2))))) pss_nil)
      (pss_cons (ps_set (i := 3) sc_law_draw.nd rfl (by first | exact Or.inl rfl | exact Or.inr rfl) (pe_ix ix_list (pv 0) pe_int (fun _ _ => rfl)))
      (pss_cons (ps_asg (pe_op op_add (pv 3) pe_int) (pg_sub (pv 0) pe_int set_list))
      (pss_cons (ps_set (i := 4) sc_law_draw.nd rfl (by first | exact Or.inl rfl | exact Or.inr rfl) (pe_op op_add (pe_op op_mul pe_int (pv 3)) pe_int))
      (Evl.pss_cut (ps_if (pt_cmpR (op_neD hr.units) (pe_ix ix_list (pv 0) pe_int (fun _ _ => rfl)) (pe_lst pa_nil) (nomark _)) (pss_one (ps_set (i := 4) sc_law_draw.nd rfl (by first | exact Or.inl rfl | exact Or.inr rfl) (pe_ix ix_list (pe_ix ix_list (pv 0) pe_int (fun _ _ => rfl)) (pe_op op_mod (pe_callTy call_intN (by rfl) T.b_int (by decide +kernel) (pa_cons (pv 3) pa_nil)) (pe_callB call_lenQ (by rfl) T.b_len PySem.boot_len (pa_cons (pe_ix ix_list (pv 0) pe_int (fun _ _ => rfl)) pa_nil))) (fun _ _ => rfl)))) pss_nil)
      (Evl.pss_cut (ps_if (PW.pt (pw_and (pt_cmpR op_lt (pv 3) (pe_callB call_lenQ (by rfl) T.b_len PySem.boot_len (pa_cons (pe_ix ix_list (pv 0) pe_int (fun _ _ => rfl)) pa_nil)) (nomark _)) (pw_and1 (pt_cmpR op_ge (pe_callB call_absN (by rfl) T.b_abs (by decide +kernel) (pa_cons (pv 4) pa_nil)) (pe_op op_pow pe_int pe_int) (nomark _))))) (pss_cons (ps_set (i := 5) sc_law_draw.nd rfl (by first | exact Or.inl rfl | exact Or.inr rfl) (pe_op op_add (pe_op op_mul pe_int (pe_callB call_absN (by rfl) T.b_abs (by decide +kernel) (pa_cons (pv 4) pa_nil))) (pe_callTy call_intN (by rfl) T.b_int (by decide +kernel) (pa_cons (pe_cmpR op_lt (pv 4) pe_int (nomark _)) pa_nil))))
      (pss_cons (ps_asg (pe_op op_fdiv (pv 5) (pv 1)) (pg_sub (pv 0) pe_int set_list))
      (pss_one (ps_ret (pe_op op_mod (pe_callTy call_intN (by rfl) T.b_int (by decide +kernel) (pa_cons (pv 5) pa_nil)) (pv 1)))))) pss_nil)
      (pss_cons (ps_set (i := 6) sc_law_draw.nd rfl (by first | exact Or.inl rfl | exact Or.inr rfl) (pe_op op_mod (pe_op op_pow (pe_callTy call_intN (by rfl) T.b_int (by decide +kernel) (pa_cons (pe_op op_add (pe_op op_add (pe_op op_mod (pe_callTy call_intN (by rfl) T.b_int (by decide +kernel) (pa_cons (pv 4) pa_nil)) pe_int) (pe_op op_mul pe_int (pv 3))) pe_int) pa_nil)) pe_int) pe_int))
      (pss_cons (ps_set (i := 6) sc_law_draw.nd rfl (by first | exact Or.inl rfl | exact Or.inr rfl) (pe_op op_mod (pe_op op_pow (pe_callTy call_intN (by rfl) T.b_int (by decide +kernel) (pa_cons (pe_op op_add (pe_op op_add (pe_op op_mul (pv 6) (pe_op op_add (pe_op op_mul pe_int (pv 3)) pe_int)) (pe_op op_mul (pe_op op_mul pe_int (pv 3)) (pv 3))) pe_int) pa_nil)) pe_int) pe_int))
      (pss_one (ps_ret (pe_op op_mod (pe_callTy call_intN (by rfl) T.b_int (by decide +kernel) (pa_cons (pe_op op_fdiv (pv 6) pe_int) pa_nil)) (pv 1)))))))))))), ?_⟩
    fail "in"
    fail "go"
    refine g_ixL (.inl (.inl hp)) (atI_nn (v := .int rest) (by decide) rfl) ?_
    fail "go"
    refine g_if (fun h1 => ?_) (fun h1 => ?_)
    · fail "go"
      refine g_ixL (.inl (.inl hp)) (atI_nn (v := .int rest) (by decide) rfl) ?_
      fail "go"
      refine g_intI ?_
      fail "go"
      refine g_modG hm0 fun d d0 d1 => ?_
      fail "go"
      refine g_asgS ?_
      fail "go"
      refine g_ixL (.inl (.inl hp)) (atI_nn (v := .int rest) (by decide) rfl) ?_
      fail "go"
      refine g_fdiv ⟨hm0, by omega⟩ ?_
      fail "go"
      refine g_setL (j := 2) hp rfl ?_
      fail "go"
      refine k d _ (ExB.refl pen H).pen ⟨⟨pl, rest / many, upd_same, hpl0, by omega, Int.ediv_nonneg hrest (by omega)⟩, ⟨ns, by rw [upd_ne hne]; exact hL, hns⟩, hne⟩ d0 d1
    · fail "go"
      refine g_ixL (.inl (.inl hp)) (atI_nn (v := .int pl) (by decide) rfl) ?_
      fail "go"
      refine g_asgS ?_
      fail "go"
      refine g_setL (j := 1) hp rfl ?_
      fail "go"
      have hL1 : (upd H pen (.lst [.ref L, .int (pl + 1), .int rest])) L = some (.lst (nts ns)) := by rw [upd_ne hne]; exact hL
      have hp1 : (upd H pen (.lst [.ref L, .int (pl + 1), .int rest])) pen = some (.lst [.ref L, .int (pl + 1), .int rest]) := upd_same
      have eb1 : ExB pen H (upd H pen (.lst [.ref L, .int (pl + 1), .int rest])) := (ExB.refl pen H).pen
      revert hL1 hp1 eb1
      generalize upd H pen (.lst [.ref L, .int (pl + 1), .int rest]) = H1
      intro hL1 hp1 eb1
      refine g_mul (.inl (by decide)) ?_
      fail "go"
      have hr0 : rest = 0 := by omega
      subst hr0
      refine g_cutM (fun σ H2 => ∃ cell : Int, σ = [some (.ref pen), some (.int many), none, some (.int pl), some (.int cell), none, none] ∧ H2 pen = some (.lst [.ref L, .int (pl + 1), .int 0]) ∧ H2 L = some (.lst (nts ns)) ∧ ExB pen H H2) ?_ ?_
      · fail "go"
        refine g_ixL (.inl (.inl hp1)) (atI_nn (v := .ref L) (by decide) rfl) ?_
        fail "go"
        refine ⟨by fail "sz", fun p np => ?_⟩
        have e2 : Ex H1 (upd H1 p (.lst [])) := Ex.new np
        refine g_neNil (e2 _ _ hL1) upd_same ?_
        fail "go"
        have hp2 := e2 _ _ hp1
        have hL2 := e2 _ _ hL1
        refine g_if (fun h2 => ?_) (fun h2 => ?_)
        · fail "go"
          have hlen : 0 < ns.length := List.length_pos_iff.mpr h2
          refine g_ixL (.inl (.inl hp2)) (atI_nn (v := .ref L) (by decide) rfl) ?_
          fail "go"
          refine g_intI ?_
          fail "go"
          refine g_ixL (.inl (.inl hp2)) (atI_nn (v := .ref L) (by decide) rfl) ?_
          fail "go"
          refine g_lenL (.inl (.inl hL2)) ?_
          fail "go"
          refine g_modG (by rw [List.length_map]; omega) fun r r0 r1 => ?_
          rw [List.length_map] at r1
          have hlt : r.toNat < ns.length := by omega
          refine g_ixL (.inl (.inl hL2)) (atI_nn (v := .int ns[r.toNat]) r0 (by rw [List.getElem?_map, List.getElem?_eq_getElem hlt]; rfl)) ?_
          fail "go"
          exact ⟨_, rfl, hp2, hL2, eb1.trans (exb e2)⟩
        · fail "go"
          exact ⟨_, rfl, hp2, hL2, eb1.trans (exb e2)⟩
      · rintro σ H2 ⟨cell, rfl, hp2, hL2, eb2⟩
        have done : ∀ (rest' : Int) (H3 : Hp), ExB pen H H3 → H3 pen = some (.lst [.ref L, .int (pl + 1), .int rest']) → H3 L = some (.lst (nts ns)) → 0 ≤ rest' → PenOk H3 pen L (m + 1) := fun rest' H3 e hp3 hL3 hr3 => ⟨⟨pl + 1, rest', hp3, by omega, by omega, hr3⟩, ⟨ns, hL3, hns⟩, hne⟩
        refine g_cutM (fun σ H3 => H3 = H2 ∧ σ = [some (.ref pen), some (.int many), none, some (.int pl), some (.int cell), none, none]) ?_ ?_
        · fail "go"
          refine g_ixL (.inl (.inl hp2)) (atI_nn (v := .ref L) (by decide) rfl) ?_
          fail "go"
          refine g_lenL (.inl (.inl hL2)) ?_
          fail "go"
          refine g_if (fun h2 => ?_) (fun h2 => ?_)
          · fail "go"
            refine g_abs ?_
            fail "go"
            refine g_pow ⟨by decide, by decide, by decide⟩ ?_
            fail "go"
            refine g_if (fun h3 => ?_) (fun h3 => ?_)
            · fail "go"
              refine g_abs ?_
              refine g_mul (.inl (by decide)) ?_
              fail "go"
              refine g_intB ?_
              fail "go"
              have hA : 0 ≤ (if cell < 0 then -cell else cell) := by split <;> omega
              have hB : (0 : Int) ≤ (if decide (cell < 0) = true then 1 else 0) := by split <;> decide
              revert hA hB
              generalize (if cell < 0 then -cell else cell) = A1
              generalize (if decide (cell < 0) = true then (1 : Int) else 0) = B1
              intro hA hB
              refine g_asgS ?_
              fail "go"
              refine g_fdiv ⟨hm0, by omega⟩ ?_
              fail "go"
              refine g_setL (j := 2) hp2 rfl ?_
              fail "go"
              refine g_intI ?_
              fail "go"
              refine g_modG hm0 fun d d0 d1 => ?_
              exact k d _ eb2.pen (done ((2 * A1 + B1) / many) _ eb2.pen upd_same (by rw [upd_ne hne]; exact hL2) (Int.ediv_nonneg (by omega) (by omega))) d0 d1
            · fail "go"
              exact ⟨rfl, rfl⟩
          · fail "go"
            exact ⟨rfl, rfl⟩
        · rintro σ H3 ⟨rfl, rfl⟩
          fail "go"
          refine g_intI ?_
          fail "go"
          refine g_modG (by decide) fun r1 r1a r1b => ?_
          fail "go"
          refine g_mul (.inl (by decide)) ?_
          fail "go"
          refine g_intI ?_
          fail "go"
          refine g_pow ⟨by decide, by decide, by show (r1 + 48611 * pl + 37).natAbs < 18446744073709551616; omega⟩ ?_
          fail "go"
          refine g_modG (by decide) fun r2 r2a r2b => ?_
          fail "go"
          refine g_mul (.inl (by decide)) ?_
          fail "go"
          refine g_mul (.inl ⟨by omega, by omega⟩) ?_
          fail "go"
          refine g_mul (.inl (by decide)) ?_
          fail "go"
          refine g_mul (.inl ⟨by omega, by omega⟩) ?_
          fail "go"
          refine g_intI ?_
          fail "go"
          have hq1 : 0 ≤ r2 * (2 * pl + 41) := Int.mul_nonneg r2a (by omega)
          have hq2 : r2 * (2 * pl + 41) ≤ 2147483587 * 200041 := Int.mul_le_mul (by omega) (by omega) (by omega) (by decide)
          have hq3 : 0 ≤ 60013 * pl * pl := Int.mul_nonneg (by omega) hpl0
          have hq4 : 60013 * pl * pl ≤ 6001300000 * 100000 := Int.mul_le_mul (by omega) (by omega) hpl0 (by decide)
          refine g_pow ⟨by decide, by decide, by
            show (r2 * (2 * pl + 41) + 60013 * pl * pl + 13).natAbs < 18446744073709551616
            revert hq1 hq2 hq3 hq4
            generalize r2 * (2 * pl + 41) = u1
            generalize 60013 * pl * pl = u2
            intro hq1 hq2 hq3 hq4
            omega⟩ ?_
          fail "go"
          refine g_modG (by decide) fun r3 r3a r3b => ?_
          fail "go"
          refine g_fdiv ⟨by decide, by decide⟩ ?_
          fail "go"
          refine g_intI ?_
          fail "go"
          refine g_modG hm0 fun d d0 d1 => ?_
          exact k d _ eb2 (done 0 _ eb2 hp2 hL2 (Int.le_refl _)) d0 d1
end
end PN

/-! The law's small helpers. -/
namespace PN
set_option maxRecDepth 100000
set_option maxHeartbeats 4000000
open PySem PySem.Spec PyProof.Rows L2
open Evl (Ex Ex.new Ex.mut ex_l ex_t fresh_back)
-- MACROS
local macro_rules | `(tactic| fail "in") => `(tactic| dsimp only [cxOf, Cx.nox, Cx.wish, L2.start, List.map, List.length_cons, List.length_nil, Nat.reduceAdd, Nat.reduceSub, List.replicate_succ, List.replicate_zero, List.cons_append, List.nil_append, List.append_nil])
local macro_rules | `(tactic| fail "ds") => `(tactic| dsimp only [List.set_cons_zero, List.set_cons_succ, List.cons_append, List.nil_append, List.append_nil])
local macro_rules | `(tactic| fail "ex") => `(tactic| first | exact exr _ | assumption | (refine ext ?_ (by assumption); fail "ex") | (refine ext ?_ (Ex.new (by assumption)); fail "ex") | (refine Ex.mut ?_ (by assumption); fail "ex"))
local macro_rules | `(tactic| fail "st") => `(tactic| first | assumption | (refine StAt.mono (by assumption) ?_; fail "ex"))
local macro_rules | `(tactic| fail "ho") => `(tactic| first | assumption | (refine HoleAt.mono (by assumption) ?_; fail "ex"))
local macro_rules | `(tactic| fail "si") => `(tactic| first | assumption | (refine SiteAt.mono (by assumption) ?_; fail "ex"))
local macro_rules | `(tactic| fail "bo") => `(tactic| first | assumption | (refine BoardAt.mono (by assumption) ?_; fail "ex"))
local macro_rules | `(tactic| fail "go1") => `(tactic| with_reducible first
  | apply g_seq | apply g_next | apply g_ret | apply g_drop | apply g_asg | apply g_asg2 | apply g_ifs | (refine g_var (by with_unfolding_all rfl) ?_) | apply g_c | apply g_op | apply g_rI0 | apply g_eqI | apply g_neI | apply g_eqS | apply g_neS
  | apply g_test | apply g_B | apply g_bl | apply g_and | apply g_or | apply g_not | apply g_andV | apply g_orV | apply g_notV | apply g_ife | apply g_nil | apply g_cons | apply g_call | apply g_mkSt | apply g_make | apply g_cb | apply g_bm | apply g_fld | apply g_con | apply g_met | apply g_chain | apply g_put | apply g_tup | apply g_lst
  | apply g_isI | apply g_isB | apply g_isS | apply g_isNon | apply g_notNon | apply g_str | apply g_inS | apply g_notInS | apply g_un | apply g_sl | apply g_pn | apply g_ps | apply g_in | apply g_for | apply g_iL | apply g_iT | apply g_iS | apply g_iR1 | apply g_iR2 | apply g_lc | apply w_S | apply c_S | apply g_yes | apply g_par | apply g_two | (refine g_aug (by with_unfolding_all rfl) ?_) | apply g_ipI | apply g_mkK | apply g_star | apply g_mkSK | apply g_revS | apply g_revT | apply g_revL | apply g_cmK | apply m_cmK | apply g_lc2 | apply g_lenSet
  | apply iteT | apply iteF | (refine y_if (by decide) ?_) | (refine n_if (by decide) ?_)
  | (refine sp_within (by fail "st") (by fail "st") ?_) | (refine met_St (by fail "st") (by decide +kernel) (by decide +kernel) ?_)
  | (refine r_must (by assumption) (by fail "ho") ?_; intro m hm) | (refine r_may (by assumption) (by fail "ho") ?_; intro m hm) | (refine r_site (by assumption) (by fail "ho") ?_) | (refine r_number (by assumption) (by fail "ho") ?_) | (refine r_hdepth (by assumption) (by fail "ho") ?_) | (refine r_hpat (by assumption) (by fail "ho") ?_) | (refine r_kind (by assumption) (by fail "ho") ?_)
  | (refine r_sname (by assumption) (by fail "si") ?_) | (refine r_spic (by assumption) (by fail "si") ?_) | (refine r_skind (by assumption) (by fail "si") ?_) | (refine r_sdepth (by assumption) (by fail "si") ?_) | (refine r_spat (by assumption) (by fail "si") ?_) | (refine r_sparts (by assumption) (by fail "si") ?_; intro pt hpt) | (refine r_sholes (by assumption) (by fail "si") ?_; intro hl has hhl hhas)
  | (refine r_blayers (by assumption) (by fail "bo") ?_) | (refine r_bsites (by assumption) (by fail "bo") ?_; intro st sts hst hsts) | (refine r_bholes (by assumption) (by fail "bo") ?_; intro bl bhs hbl hbhs)
  | (refine r_low (by assumption) (by fail "st") ?_) | (refine r_high (by assumption) (by fail "st") ?_))
local macro_rules | `(tactic| fail "go") => `(tactic| ((repeat (first | fail "go1" | (fail "ds"; fail "go1"))); (try fail "ds")))
local macro_rules | `(tactic| fail "sz") => `(tactic| (refine Evl.sz_of ?_; simp only [List.length_cons, List.length_nil, List.length_append, List.length_map, List.length_take, List.length_drop]; omega))
-- END MACROS
section
variable {P : Program} {w : World} {K : PySem.W.Frag} {mg : Str → Option Value} {base : Heap}
/-! ### the pen -/
def spPen (K : PySem.W.Frag) : Sp := fun vs H Q _ => ∃ (a : Addr) (ns : List Int), vs = [.ref a] ∧ SqL K H a (nts ns) ∧ ns.length ≤ 63 ∧ ∀ pen L H', Ex H H' → H pen = none → PenOk H' pen L 0 → Q (.ref pen) H'
theorem sc_law_pen : FnScope ["_law_script"] ["_law_script"] (defScope s_law_pen) := C8.fnScope_by (by decide +kernel)
theorem sl_to {H : Hp} {Q : VK} {a : Addr} {xs : List V} {k : Int} (hk : 0 ≤ k) (hx : SqL K H a xs) (h : ∀ p, H p = none → Q (.ref p) (upd H p (.lst (xs.take k.toNat)))) : rSlL K (.ref a) none (some k) H Q := by
  refine ⟨a, xs, rfl, hx, fun p np => ?_⟩
  have e : cutV xs none (some k) = xs.take k.toNat := by
    unfold cutV HT.sIx
    simp only [List.drop_zero, Nat.sub_zero]
    by_cases q : k < 0
    · omega
    · rw [if_neg q]
      by_cases r : k.toNat ≤ xs.length
      · rw [Nat.min_eq_left r]
      · rw [Nat.min_eq_right (by omega), List.take_of_length_le (Nat.le_refl _), List.take_of_length_le (by omega)]
  rw [e]
  exact h p np
theorem ok_law_pen (T : TX K mg) : C8.Cal P w K mg base 1 "_law_pen" (spPen K) [] := by
  refine calD T.d_law_pen T.g_law_pen sc_law_pen (fun _ _ _ _ _ _ us hl => match us, hl with | [_], _ => rfl) (fun vs H Q E h => ?_) (fun cdv A outer s H vs Q E hr h => ?_)
  · obtain ⟨a, ns, rfl, _⟩ := h
    rfl
  · obtain ⟨a, ns, rfl, ha, hz, k⟩ := h
    refine ⟨_, (pss_one (ps_ret (pe_lst (pa_cons (pe_callTy call_listQ (by rfl) T.b_list (by decide +kernel) (pa_cons (pe_slice sl_list (pv 0) po_none (po_some pe_int)) pa_nil)) (pa_cons pe_int (pa_cons pe_int pa_nil)))))), ?_⟩
    fail "in"
    fail "go"
    refine sl_to (by decide) ha fun p np => ?_
    fail "go"
    refine g_listL (.inl (.inl upd_same)) fun L nL => ?_
    fail "go"
    refine ⟨by fail "sz", fun pen npen => ?_⟩
    fail "go"
    have n1 : L ≠ pen := fun e => by rw [← e, upd_same] at npen; cases npen
    refine k pen L _ (ext (Ex.new np) (ext (Ex.new nL) (Ex.new npen))) (fresh_back (ext (Ex.new np) (Ex.new nL)) npen) ⟨⟨0, 0, upd_same, by decide, by decide, by decide⟩, ⟨ns.take (63 : Int).toNat, ?_, by rw [List.length_take]; omega⟩, n1⟩
    rw [upd_ne n1, upd_same]
    unfold nts
    rw [List.map_take]
/-! ### can, twice -/
def spCan (K : PySem.W.Frag) : Sp := fun vs H Q _ => ∃ p : List Nat, vs = [.str (S p)] ∧ p.length ≤ 99 ∧ ∀ l H' ks, Ex H H' → H l = none → H' l = some (.lst (nts ks)) → (∀ a ∈ ks, PartOk p a) → ks.Pairwise (· < ·) → ks.length ≤ p.length → Q (.ref l) H'
theorem sc_law_can : FnScope ["_law_picture_here", "_law_found", "_law_k", "_law_sign"] ["_law_picture_here"] (defScope s_law_can) := C8.fnScope_by (by decide +kernel)
theorem g_slTo {a : List Nat} {i : Int} {H : Hp} {Q : VK} (hz : a.length ≤ 100000) (h0 : 0 ≤ i) (h : Q (.str (S (a.take i.toNat))) H) : C8.rSlX (.str (S a)) none (some i) H Q :=
  ⟨_, rfl, by rw [SX.S_len]; exact Evl.sz_of hz, by rw [SX.slice_to h0]; exact h⟩
theorem g_slFrom {a : List Nat} {i : Int} {H : Hp} {Q : VK} (hz : a.length ≤ 100000) (h0 : 0 ≤ i) (h : Q (.str (S (a.drop i.toNat))) H) : C8.rSlX (.str (S a)) (some i) none H Q :=
  ⟨_, rfl, by rw [SX.S_len]; exact Evl.sz_of hz, by rw [SX.slice_from h0]; exact h⟩
theorem ok_law_can (T : TX K mg) : C8.Cal P w K mg base 1 "_law_can" (spCan K) [] := by
  refine calD T.d_law_can T.g_law_can sc_law_can (fun _ _ _ _ _ _ us hl => match us, hl with | [_], _ => rfl) (fun vs H Q E h => ?_) (fun cdv A outer s H vs Q E hr h => ?_)
  · obtain ⟨p, rfl, _⟩ := h
    rfl
  · obtain ⟨p, rfl, hz, k⟩ := h
    refine ⟨_, (pss_cons (ps_set (i := 1) sc_law_can.nd rfl (by first | exact Or.inl rfl | exact Or.inr rfl) (pe_lst pa_nil))
      (pss_cons (ps_for PassesOwn.never rfl (pi_range2 (by rfl) T.b_range (pa_cons pe_int (pa_cons (pe_callB call_lenT (by rfl) T.b_len PySem.boot_len (pa_cons (pv 0) pa_nil)) pa_nil))) (pg_name (i := 2) sc_law_can.nd rfl (by first | exact Or.inl rfl | exact Or.inr rfl)) (pss_cons (ps_set (i := 3) sc_law_can.nd rfl (by first | exact Or.inl rfl | exact Or.inr rfl) (pe_ix ix_str (pv 0) (pe_op op_sub (pv 2) pe_int) (fun _ _ => rfl)))
      (pss_one (ps_if (PW.pt (pw_and (pt_cmpR op_ne (pv 3) pe_str (nomark _)) (pw_and (pt_cmpR op_inS (pv 3) (pe_slice C8.sl_txt (pv 0) po_none (po_some (pe_op op_sub (pv 2) pe_int))) rfl) (pw_and1 (pt_cmpR op_inS (pv 3) (pe_slice C8.sl_txt (pv 0) (po_some (pv 2)) po_none) rfl))))) (pss_one (ps_expr (pe_bm PySem.F.plainAttrs_list PySem.F.slot_list_append PySem.F.type_list_append mt_append (pv 1) (pa_cons (pv 2) pa_nil)))) pss_nil))))
      (pss_one (ps_ret (pv 1))))), ?_⟩
    fail "in"
    fail "go"
    refine ⟨by fail "sz", fun l nl => ?_⟩
    fail "go"
    refine g_lenT (by omega) ?_
    fail "go"
    refine w_R2 (by decide) (by omega) ?_
    refine loop_by it_r (fun i σ H' => ∃ (z u : Option V) (ks : List Int), σ = [some (.str (S p)), some (.ref l), z, u] ∧ Ex H H' ∧ H' l = some (.lst (nts ks)) ∧ (∀ a ∈ ks, PartOk p a ∧ a < 2 + (i : Int)) ∧ ks.Pairwise (· < ·) ∧ ks.length ≤ i) ⟨none, none, [], rfl, Ex.new nl, upd_same, (fun a h => absurd h (by simp)), List.Pairwise.nil, Nat.le_refl _⟩ (fun _ _ _ _ _ => trivial) ?_ ?_
    · rintro i x σ H2 hi ⟨z, u, ks, rfl, e2, hl, hks, hup, hlen⟩
      obtain ⟨hlt, rfl⟩ := ivs_at hi
      have hin : i + 1 < p.length := by omega
      have skip : ∀ (z u : Option V) (H3 : Hp), Ex H2 H3 → H3 l = some (.lst (nts ks)) → (∃ (z' u' : Option V) (ks : List Int), [some (.str (S p)), some (.ref l), z, u] = [some (.str (S p)), some (.ref l), z', u'] ∧ Ex H H3 ∧ H3 l = some (.lst (nts ks)) ∧ (∀ a ∈ ks, PartOk p a ∧ a < 2 + ((i + 1 : Nat) : Int)) ∧ ks.Pairwise (· < ·) ∧ ks.length ≤ i + 1) := fun z u H3 e3 hl3 =>
        ⟨z, u, ks, rfl, ext e2 e3, hl3, fun a ha => ⟨(hks a ha).1, by have := (hks a ha).2; omega⟩, hup, by omega⟩
      show tSeq _ _ _ _ _
      fail "go"
      refine g_ixS (by omega) (c := p[i + 1]) (atI_nn (by omega) (by rw [show (2 + (i : Int) - 1).toNat = i + 1 by omega]; exact List.getElem?_eq_getElem hin)) ?_
      fail "go"
      rw [sg_dot]
      refine g_ifn (fun h1 => ?_) (fun h1 => ?_)
      · fail "go"
        refine g_slTo (by omega) (by omega) ?_
        fail "go"
        refine g_if (fun h2 => ?_) (fun h2 => ?_)
        · fail "go"
          refine g_slFrom (by omega) (by omega) ?_
          fail "go"
          refine g_if (fun h3 => ?_) (fun h3 => ?_)
          · fail "go"
            refine g_lst' (.inl (.inl hl)) ?_
            fail "go"
            refine g_app hl (by rw [List.length_map]; omega) ?_
            fail "go"
            refine ⟨_, _, ks ++ [2 + (i : Int)], rfl, Ex.mut e2 nl, by rw [upd_same]; simp [nts], fun a ha => ?_, ?_, by simp; omega⟩
            · rcases List.mem_append.mp ha with q | q
              · exact ⟨(hks a q).1, by have := (hks a q).2; omega⟩
              · have e : a = 2 + (i : Int) := by simpa using q
                subst e
                refine ⟨⟨by omega, by omega, p[i + 1], ?_, h1, ?_, ?_⟩, by omega⟩
                · rw [show (2 + (i : Int) - 1).toNat = i + 1 by omega]
                  exact List.getElem?_eq_getElem hin
                · obtain ⟨j, hj⟩ := List.mem_iff_getElem?.mp h2
                  have hjl := (List.getElem?_eq_some_iff.mp hj).1
                  rw [List.length_take] at hjl
                  rw [List.getElem?_take_of_lt (by omega)] at hj
                  have := low_min hj
                  omega
                · obtain ⟨j, hj⟩ := List.mem_iff_getElem?.mp h3
                  rw [List.getElem?_drop] at hj
                  have := high_max hj
                  omega
            · rw [List.pairwise_append]
              refine ⟨hup, by simp, fun a ha b hb => ?_⟩
              have e : b = 2 + (i : Int) := by simpa using hb
              subst e
              exact (hks a ha).2
          · fail "go"
            exact skip _ _ _ (exr _) hl
        · fail "go"
          exact skip _ _ _ (exr _) hl
      · fail "go"
        exact skip _ _ _ (exr _) hl
    · rintro σ H2 ⟨z, u, ks, rfl, e2, hl, hks, hup, hlen⟩
      fail "go"
      rw [ivs_len] at hlen
      exact k l _ ks e2 nl hl (fun a ha => (hks a ha).1) hup (by omega)
def spTwice : Sp := fun vs H Q _ => ∃ p : List Nat, vs = [.str (S p)] ∧ p.length ≤ 99 ∧ ∀ n H', Ex H H' → Q (.int n) H'
theorem sc_law_twice : FnScope ["_law_picture_here", "_law_k"] ["_law_picture_here"] (defScope s_law_twice) := C8.fnScope_by (by decide +kernel)
theorem ok_law_twice (T : TX K mg) : C8.Cal P w K mg base 1 "_law_twice" spTwice [] := by
  refine calD T.d_law_twice T.g_law_twice sc_law_twice (fun _ _ _ _ _ _ us hl => match us, hl with | [_], _ => rfl) (fun vs H Q E h => ?_) (fun cdv A outer s H vs Q E hr h => ?_)
  · obtain ⟨p, rfl, _⟩ := h
    rfl
  · obtain ⟨p, rfl, hz, k⟩ := h
    refine ⟨_, (pss_one (ps_ret (pe_callB call_lenQ (by rfl) T.b_len PySem.boot_len (pa_cons (pe_lc (own := [("_law_k", 1)]) (g := gName 1) (tt := (tAnd (tTest (tOp rNe (tOp rIxS (tVar 0) (tVar 1)) (tC (.str ".")))) (tTest (tOp rInS (tOp rIxS (tVar 0) (tVar 1)) (tSl C8.rSlX (tVar 0) tNoPart (tPart (tVar 1))))))) (te := (tVar 1)) (by rfl) sc_law_twice.nd (pi_range2 (by rfl) T.b_range (pa_cons pe_int (pa_cons (pe_callB call_lenT (by rfl) T.b_len PySem.boot_len (pa_cons (pv 0) pa_nil)) pa_nil))) (blkOk_by (own := [("_law_k", 1)]) (N := ["_law_picture_here", "_law_k"]) (sc := defScope s_law_twice) (by decide +kernel)) (fun _ _ _ _ _ => (pg_name (i := 1) sc_law_twice.nd rfl (by first | exact Or.inl rfl | exact Or.inr rfl))) (fun _ _ _ _ _ => pts_one (PW.pt (pw_and (pt_cmpR op_ne (pe_ix ix_str (pv 0) (pv 1) (fun _ _ => rfl)) pe_str (nomark _)) (pw_and1 (pt_cmpR op_inS (pe_ix ix_str (pv 0) (pv 1) (fun _ _ => rfl)) (pe_slice C8.sl_txt (pv 0) po_none (po_some (pv 1))) rfl))))) (fun _ _ _ _ _ => (pv 1))) pa_nil)))), ?_⟩
    fail "in"
    fail "go"
    refine g_lenT (by omega) ?_
    fail "go"
    refine c_R2 (by decide) (by omega) ?_
    refine lc_by (H := H) it_r (fun H1 e => trivial) (by rw [ivs_len]; omega) (fun i ys _ => True) trivial (fun _ _ _ _ _ h => h) (fun x => rfl) ?_ ?_
    · rintro i x ys H1 hi e1 _ no yes hno hyes
      obtain ⟨hlt, rfl⟩ := ivs_at hi
      have hin : i + 1 < p.length := by omega
      have hat : atI p (1 + (i : Int)) = some p[i + 1] := atI_nn (by omega) (by rw [show (1 + (i : Int)).toNat = i + 1 by omega]; exact List.getElem?_eq_getElem hin)
      fail "go"
      refine g_ixS (by omega) hat ?_
      fail "go"
      rw [sg_dot]
      refine g_ifn (fun h1 => ?_) (fun h1 => ?_)
      · fail "go"
        refine g_ixS (by omega) hat ?_
        fail "go"
        refine g_slTo (by omega) (by omega) ?_
        fail "go"
        refine g_if (fun h2 => ?_) (fun h2 => ?_)
        · fail "go"
          exact hyes _ _ (exr _) trivial
        · fail "go"
          exact hno _ (exr _) trivial
      · fail "go"
        exact hno _ (exr _) trivial
    · rintro D ys H1 nD e1 hD _
      fail "go"
      refine g_lenL (.inl (.inl hD)) ?_
      fail "go"
      exact k _ _ e1
/-! ### other, pieces -/
def spOther : Sp := fun vs H Q _ => ∃ wy : Way, vs = [.str wy.str] ∧ Q (.str wy.other.str) H
theorem sc_law_other : FnScope ["_law_way"] ["_law_way"] (defScope s_law_other) := C8.fnScope_by (by decide +kernel)
theorem ok_law_other (T : TX K mg) : C8.Cal P w K mg base 1 "_law_other" spOther [] := by
  refine calD T.d_law_other T.g_law_other sc_law_other (fun _ _ _ _ _ _ us hl => match us, hl with | [_], _ => rfl) (fun vs H Q E h => ?_) (fun cdv A outer s H vs Q E hr h => ?_)
  · obtain ⟨wy, rfl, _⟩ := h
    rfl
  · obtain ⟨wy, rfl, k⟩ := h
    refine ⟨_, (pss_cons (ps_if (pt_cmpR op_eq (pv 0) pe_str (nomark _)) (pss_one (ps_ret pe_str)) pss_nil)
      (pss_cons (ps_if (pt_cmpR op_eq (pv 0) pe_str (nomark _)) (pss_one (ps_ret pe_str)) pss_nil)
      (pss_one (ps_ret (pv 0))))), ?_⟩
    fail "in"
    fail "go"
    cases wy with
    | thr =>
      refine n_if (by decide +kernel) ?_
      fail "go"
      exact k
    | up =>
      refine y_if (by decide +kernel) ?_
      fail "go"
      exact k
    | dn =>
      refine n_if (by decide +kernel) ?_
      fail "go"
      exact k
def PiecesAt (K : PySem.W.Frag) (H : Hp) (as : List Addr) (n : Int) : Prop := as.length ≤ 100 ∧ ∀ a ∈ as, ∃ s, StAt K H a s ∧ 1 ≤ s.1 ∧ s.1 ≤ s.2 ∧ s.2 ≤ n
theorem PiecesAt.nono {H H' : Hp} {as : List Addr} {n : Int} (h : PiecesAt K H as n) (e : ExN H H') : PiecesAt K H' as n := ⟨h.1, fun a ha => by
  obtain ⟨s, q, r⟩ := h.2 a ha
  exact ⟨s, q.nono e, r⟩⟩
def spPieces (K : PySem.W.Frag) : Sp := fun vs H Q _ => ∃ n : Int, vs = [.int n] ∧ 1 ≤ n ∧ n ≤ 6 ∧ ∀ l H' as, Ex H H' → H' l = some (.lst (rfs as)) → PiecesAt K H' as n → Q (.ref l) H'
theorem sc_law_pieces : FnScope ["_law_many", "_law_found", "_law_low", "_law_high"] ["_law_many"] (defScope s_law_pieces) := C8.fnScope_by (by decide +kernel)
theorem ok_law_pieces (T : TX K mg) : C8.Cal P w K mg base 4 "_law_pieces" (spPieces K) [] := by
  refine calD T.d_law_pieces T.g_law_pieces sc_law_pieces (fun _ _ _ _ _ _ us hl => match us, hl with | [_], _ => rfl) (fun vs H Q E h => ?_) (fun cdv A outer s H vs Q E hr h => ?_)
  · obtain ⟨n, rfl, _⟩ := h
    rfl
  · obtain ⟨n, rfl, hn1, hn2, k⟩ := h
    refine ⟨_, (pss_cons (ps_set (i := 1) sc_law_pieces.nd rfl (by first | exact Or.inl rfl | exact Or.inr rfl) (pe_lst pa_nil))
      (pss_cons (ps_for PassesOwn.never rfl (pi_range2 (by rfl) T.b_range (pa_cons pe_int (pa_cons (pe_op op_add (pv 0) pe_int) pa_nil))) (pg_name (i := 2) sc_law_pieces.nd rfl (by first | exact Or.inl rfl | exact Or.inr rfl)) (pss_one (ps_set (i := 1) sc_law_pieces.nd rfl (by first | exact Or.inl rfl | exact Or.inr rfl) (pe_op op_cat (pv 1) (pe_lc (own := [("_law_high", 3)]) (g := gName 3) (tt := tYes) (te := (tMake (c_Stretch K) (spStInit K) [] C8.E0 (tCons (tVar 2) (tCons (tVar 3) tNil)))) (by rfl) sc_law_pieces.nd (pi_range2 (by rfl) T.b_range (pa_cons (pv 2) (pa_cons (pe_op op_add (pv 0) pe_int) pa_nil))) (blkOk_by (own := [("_law_high", 3)]) (N := ["_law_many", "_law_found", "_law_low", "_law_high"]) (sc := defScope s_law_pieces) (by decide +kernel)) (fun _ _ _ _ _ => (pg_name (i := 3) sc_law_pieces.nd rfl (by first | exact Or.inl rfl | exact Or.inr rfl))) (fun _ _ _ _ _ => pts_nil) (fun _ _ _ _ _ => (C8.pe_mk (ok_stretch_init T) hr (by decide) (by rfl) (pa_cons (pv 2) (pa_cons (pv 3) pa_nil)))))))))
      (pss_one (ps_ret (pv 1))))), ?_⟩
    fail "in"
    fail "go"
    refine ⟨by fail "sz", fun l nl => ?_⟩
    fail "go"
    refine w_R2 (by decide) (by omega) ?_
    refine loop_by it_r (fun i σ H' => ∃ (z u : Option V) (l : Addr) (as : List Addr), σ = [some (.int n), some (.ref l), z, u] ∧ Ex H H' ∧ H' l = some (.lst (rfs as)) ∧ as.length ≤ i * 6 ∧ ∀ a ∈ as, ∃ s, StAt K H' a s ∧ 1 ≤ s.1 ∧ s.1 ≤ s.2 ∧ s.2 ≤ n) ⟨none, none, l, [], rfl, Ex.new nl, upd_same, Nat.le_refl _, fun a h => absurd h (by simp)⟩ (fun _ _ _ _ _ => trivial) ?_ ?_
    · rintro i x σ H2 hi ⟨z, u, l, as, rfl, e2, hl, hlen, has⟩
      obtain ⟨hlt, rfl⟩ := ivs_at hi
      show tAsg _ _ _ _ _
      fail "go"
      refine c_R2 (by omega) (by omega) ?_
      refine lc_by (H := H2) it_r (fun H1 e => trivial) (by rw [ivs_len]; omega) (fun j ys H3 => ∃ bs : List Addr, ys = rfs bs ∧ bs.length = j ∧ ∀ a ∈ bs, ∃ s, StAt K H3 a s ∧ 1 ≤ s.1 ∧ s.1 ≤ s.2 ∧ s.2 ≤ n) ⟨[], rfl, rfl, fun a h => absurd h (by simp)⟩
        (fun j ys H3 H4 e ⟨bs, q1, q2, q3⟩ => ⟨bs, q1, q2, fun a ha => by
          obtain ⟨s, r1, r2⟩ := q3 a ha
          exact ⟨s, r1.nono e, r2⟩⟩) (fun x => rfl) ?_ ?_
      · rintro j x ys H3 hj e3 ⟨bs, rfl, q2, q3⟩ no yes hno hyes
        obtain ⟨hjl, rfl⟩ := ivs_at hj
        fail "go"
        refine m_St (by omega) (by omega) (by omega) fun a H4 na e4 sa => ?_
        refine hyes _ _ e4 ⟨bs ++ [a], by simp [rfs], by simp [q2], fun b hb => ?_⟩
        rcases List.mem_append.mp hb with q | q
        · obtain ⟨s, r1, r2⟩ := q3 b q
          exact ⟨s, r1.mono e4, r2⟩
        · have e : b = a := by simpa using q
          subst e
          exact ⟨_, sa, by show 1 ≤ 1 + (i : Int); omega, by show 1 + (i : Int) ≤ 1 + (i : Int) + (j : Int); omega, by show 1 + (i : Int) + (j : Int) ≤ n; omega⟩
      · rintro D ys H3 nD e3 hD ⟨bs, rfl, q2, q3⟩
        rw [ivs_len] at q2
        fail "go"
        refine ⟨l, D, rfs as, rfs bs, rfl, rfl, e3 _ _ hl, hD, Evl.sz_of (by rw [List.length_map, List.length_map]; omega), fun p np => ?_⟩
        fail "go"
        refine ⟨_, _, p, as ++ bs, rfl, ext e2 (ext e3 (Ex.new np)), by rw [upd_same]; simp [rfs], by rw [List.length_append, q2]; omega, fun a ha => ?_⟩
        rcases List.mem_append.mp ha with q | q
        · obtain ⟨s, r1, r2⟩ := has a q
          exact ⟨s, r1.mono (ext e3 (Ex.new np)), r2⟩
        · obtain ⟨s, r1, r2⟩ := q3 a q
          exact ⟨s, r1.mono (Ex.new np), r2⟩
    · rintro σ H2 ⟨z, u, l, as, rfl, e2, hl, hlen, has⟩
      rw [ivs_len] at hlen
      fail "go"
      exact k l _ as e2 hl ⟨by omega, has⟩
end
end PN

/-! A picture is drawn. -/
namespace PN
set_option maxRecDepth 100000
set_option maxHeartbeats 4000000
open PySem PySem.Spec PyProof.Rows L2
open Evl (Ex Ex.new Ex.mut ex_l ex_t fresh_back)
-- MACROS
local macro_rules | `(tactic| fail "in") => `(tactic| dsimp only [cxOf, Cx.nox, Cx.wish, L2.start, List.map, List.length_cons, List.length_nil, Nat.reduceAdd, Nat.reduceSub, List.replicate_succ, List.replicate_zero, List.cons_append, List.nil_append, List.append_nil])
local macro_rules | `(tactic| fail "ds") => `(tactic| dsimp only [List.set_cons_zero, List.set_cons_succ, List.cons_append, List.nil_append, List.append_nil])
local macro_rules | `(tactic| fail "ex") => `(tactic| first | exact exr _ | assumption | (refine ext ?_ (by assumption); fail "ex") | (refine ext ?_ (Ex.new (by assumption)); fail "ex") | (refine Ex.mut ?_ (by assumption); fail "ex"))
local macro_rules | `(tactic| fail "st") => `(tactic| first | assumption | (refine StAt.mono (by assumption) ?_; fail "ex"))
local macro_rules | `(tactic| fail "ho") => `(tactic| first | assumption | (refine HoleAt.mono (by assumption) ?_; fail "ex"))
local macro_rules | `(tactic| fail "si") => `(tactic| first | assumption | (refine SiteAt.mono (by assumption) ?_; fail "ex"))
local macro_rules | `(tactic| fail "bo") => `(tactic| first | assumption | (refine BoardAt.mono (by assumption) ?_; fail "ex"))
local macro_rules | `(tactic| fail "go1") => `(tactic| with_reducible first
  | apply g_seq | apply g_next | apply g_ret | apply g_drop | apply g_asg | apply g_asg2 | apply g_ifs | (refine g_var (by with_unfolding_all rfl) ?_) | apply g_c | apply g_op | apply g_rI0 | apply g_eqI | apply g_neI | apply g_eqS | apply g_neS
  | apply g_test | apply g_B | apply g_bl | apply g_and | apply g_or | apply g_not | apply g_andV | apply g_orV | apply g_notV | apply g_ife | apply g_nil | apply g_cons | apply g_call | apply g_mkSt | apply g_make | apply g_cb | apply g_bm | apply g_fld | apply g_con | apply g_met | apply g_chain | apply g_put | apply g_tup | apply g_lst
  | apply g_isI | apply g_isB | apply g_isS | apply g_isNon | apply g_notNon | apply g_str | apply g_inS | apply g_notInS | apply g_un | apply g_sl | apply g_pn | apply g_ps | apply g_in | apply g_for | apply g_iL | apply g_iT | apply g_iS | apply g_iR1 | apply g_iR2 | apply g_lc | apply w_S | apply c_S | apply g_yes | apply g_par | apply g_two | (refine g_aug (by with_unfolding_all rfl) ?_) | apply g_ipI | apply g_mkK | apply g_star | apply g_mkSK | apply g_revS | apply g_revT | apply g_revL | apply g_cmK | apply m_cmK | apply g_lc2 | apply g_lenSet
  | apply iteT | apply iteF | (refine y_if (by decide) ?_) | (refine n_if (by decide) ?_)
  | (refine sp_within (by fail "st") (by fail "st") ?_) | (refine met_St (by fail "st") (by decide +kernel) (by decide +kernel) ?_)
  | (refine r_must (by assumption) (by fail "ho") ?_; intro m hm) | (refine r_may (by assumption) (by fail "ho") ?_; intro m hm) | (refine r_site (by assumption) (by fail "ho") ?_) | (refine r_number (by assumption) (by fail "ho") ?_) | (refine r_hdepth (by assumption) (by fail "ho") ?_) | (refine r_hpat (by assumption) (by fail "ho") ?_) | (refine r_kind (by assumption) (by fail "ho") ?_)
  | (refine r_sname (by assumption) (by fail "si") ?_) | (refine r_spic (by assumption) (by fail "si") ?_) | (refine r_skind (by assumption) (by fail "si") ?_) | (refine r_sdepth (by assumption) (by fail "si") ?_) | (refine r_spat (by assumption) (by fail "si") ?_) | (refine r_sparts (by assumption) (by fail "si") ?_; intro pt hpt) | (refine r_sholes (by assumption) (by fail "si") ?_; intro hl has hhl hhas)
  | (refine r_blayers (by assumption) (by fail "bo") ?_) | (refine r_bsites (by assumption) (by fail "bo") ?_; intro st sts hst hsts) | (refine r_bholes (by assumption) (by fail "bo") ?_; intro bl bhs hbl hbhs)
  | (refine r_low (by assumption) (by fail "st") ?_) | (refine r_high (by assumption) (by fail "st") ?_))
local macro_rules | `(tactic| fail "go") => `(tactic| ((repeat (first | fail "go1" | (fail "ds"; fail "go1"))); (try fail "ds")))
local macro_rules | `(tactic| fail "sz") => `(tactic| (refine Evl.sz_of ?_; simp only [List.length_cons, List.length_nil, List.length_append, List.length_map, List.length_take, List.length_drop]; omega))
-- END MACROS
theorem seqIx {i : Int} {n : Nat} (h0 : 0 ≤ i) (h1 : i < n) : seqIndex? i n = some i.toNat := by
  unfold seqIndex?
  first
    | (simp only []; rw [if_neg (by omega), if_pos (by omega)])
    | (simp; omega)
theorem erase_map {α β : Type} (f : α → β) : ∀ (xs : List α) (k : Nat), (xs.map f).eraseIdx k = (xs.eraseIdx k).map f
  | [], _ => rfl
  | _ :: _, 0 => rfl
  | x :: xs, k + 1 => by
    rw [List.map_cons, List.eraseIdx_cons_succ, List.eraseIdx_cons_succ, List.map_cons, erase_map f xs k]
theorem g_popAt {α : Type} {f : α → V} {xs : List α} {l : Addr} {d : Int} {H : Hp} {Q : VK} (hl : H l = some (.lst (xs.map f))) (h0 : 0 ≤ d) (h1 : d < xs.length) (hz : xs.length ≤ 1000) (h : ∀ x, xs[d.toNat]? = some x → Q (f x) (upd H l (.lst ((xs.eraseIdx d.toNat).map f)))) : rPopAt (.ref l) [.int d] H Q := by
  have hd : d.toNat < xs.length := by omega
  refine ⟨l, xs.map f, d, d.toNat, f xs[d.toNat], rfl, rfl, hl, by omega, by omega, seqIx h0 (by rw [List.length_map]; exact h1), by rw [List.getElem?_map, List.getElem?_eq_getElem hd]; rfl, ?_⟩
  rw [erase_map]
  exact h _ (List.getElem?_eq_getElem hd)
section
variable {P : Program} {w : World} {K : PySem.W.Frag} {mg : Str → Option Value} {base : Heap}
def spPicture (K : PySem.W.Frag) : Sp := fun vs H Q _ => ∃ (pen L : Addr) (n m : Int), vs = [.ref pen, .int n, .bl true] ∧ 2 ≤ n ∧ n ≤ 6 ∧ PenOk H pen L m ∧ m ≤ 90000 ∧
  ∀ (p : List Nat) H', ExB pen H H' → PenOk H' pen L (m + 20) → (p.length : Int) = n → NonMixed p → PicOk p → Q (.str (S p)) H'
theorem sc_law_picture : FnScope ["_law_pen_here", "_law_layers_here", "_law_apart", "_law_letters", "_law_sign", "_law_dense", "_law_net", "_law_found", "_law_at", "_law_pick"] ["_law_pen_here", "_law_layers_here", "_law_apart"] (defScope s_law_picture) := C8.fnScope_by (by decide +kernel)
theorem ok_law_picture (T : TX K mg) : C8.Cal P w K mg base 2 "_law_picture" (spPicture K) [] := by
  refine calD T.d_law_picture T.g_law_picture sc_law_picture (fun _ _ _ _ _ _ us hl => match us, hl with | [_, _, _], _ => rfl) (fun vs H Q E h => ?_) (fun cdv A outer s H vs Q E hr h => ?_)
  · obtain ⟨pen, L, n, m, rfl, _⟩ := h
    rfl
  · obtain ⟨pen, L, n, m, rfl, hn1, hn2, hp, hm, k⟩ := h
    refine ⟨_, (pss_cons (ps_setLc (i := 3) (own := [("_law_sign", 4)]) (g := gName 4) (tt := tYes) (te := (tVar 4)) (by rfl) sc_law_picture.nd rfl rfl (sw_true rfl rfl rfl (by decide +kernel)) (pi_str pe_str) (blkOk_by (own := [("_law_sign", 4)]) (N := ["_law_pen_here", "_law_layers_here", "_law_apart", "_law_letters", "_law_sign", "_law_dense", "_law_net", "_law_found", "_law_at", "_law_pick"]) (sc := defScope s_law_picture) (by decide +kernel)) (fun _ _ _ _ _ => (pg_name (i := 4) sc_law_picture.nd rfl (by first | exact Or.inl rfl | exact Or.inr rfl))) (fun _ _ _ _ _ => pts_nil) (fun _ _ _ _ _ => (pv 4)))
      (pss_cons (ps_set (i := 5) sc_law_picture.nd rfl (by first | exact Or.inl rfl | exact Or.inr rfl) (pe_op op_add pe_int (C8.pe_c (ok_law_draw T) hr (by decide) (by rfl) (pa_cons (pv 0) (pa_cons pe_int pa_nil)))))
      (pss_cons (ps_set (i := 6) sc_law_picture.nd rfl (by first | exact Or.inl rfl | exact Or.inr rfl) (pe_bm PySem.F.plainAttrs_list PySem.F.slot_list_pop PySem.F.type_list_pop mt_popAt (pv 3) (pa_cons (C8.pe_c (ok_law_draw T) hr (by decide) (by rfl) (pa_cons (pv 0) (pa_cons (pe_callB call_lenQ (by rfl) T.b_len PySem.boot_len (pa_cons (pv 3) pa_nil)) pa_nil))) pa_nil)))
      (pss_cons (ps_set (i := 7) sc_law_picture.nd rfl (by first | exact Or.inl rfl | exact Or.inr rfl) pe_str)
      (pss_cons (ps_for PassesOwn.never rfl (pi_range1 (by rfl) T.b_range (pa_cons (pv 1) pa_nil)) (pg_name (i := 8) sc_law_picture.nd rfl (by first | exact Or.inl rfl | exact Or.inr rfl)) (pss_cons (ps_set (i := 9) sc_law_picture.nd rfl (by first | exact Or.inl rfl | exact Or.inr rfl) (C8.pe_c (ok_law_draw T) hr (by decide) (by rfl) (pa_cons (pv 0) (pa_cons pe_int pa_nil))))
      (pss_one (ps_if (pt_cmpR op_lt (pv 9) (pv 5) (nomark _)) (pss_one (ps_set (i := 7) sc_law_picture.nd rfl (by first | exact Or.inl rfl | exact Or.inr rfl) (pe_op op_addT (pv 7) pe_str))) (pss_one (ps_if (PW.pt (pw_and (pt_cmpR op_eq (pv 9) pe_int (nomark _)) (pw_and (pt_not (pt_val (pv 2))) (pw_and1 (pt_cmpR op_gt (pv 8) pe_int (nomark _)))))) pss_never (Evl.pss_cut (ps_if (PW.pt (pw_or (pt_cmpR op_eq (pv 9) pe_int (nomark _)) (pw_or1 (PW.pt (pw_and (pt_cmpR op_eq (pv 9) pe_int (nomark _)) (pw_and1 (pt_cmpR op_lt (pv 5) pe_int (nomark _)))))))) (pss_one (ps_set (i := 6) sc_law_picture.nd rfl (by first | exact Or.inl rfl | exact Or.inr rfl) (pe_ifExp (pt_cmpR op_gt (pe_callB call_lenQ (by rfl) T.b_len PySem.boot_len (pa_cons (pv 3) pa_nil)) pe_int (nomark _)) (pe_bm PySem.F.plainAttrs_list PySem.F.slot_list_pop PySem.F.type_list_pop mt_popAt (pv 3) (pa_cons (C8.pe_c (ok_law_draw T) hr (by decide) (by rfl) (pa_cons (pv 0) (pa_cons (pe_callB call_lenQ (by rfl) T.b_len PySem.boot_len (pa_cons (pv 3) pa_nil)) pa_nil))) pa_nil)) (pv 6)))) pss_nil)
      (pss_one (ps_set (i := 7) sc_law_picture.nd rfl (by first | exact Or.inl rfl | exact Or.inr rfl) (pe_op op_addT (pv 7) (pv 6)))))))))))
      (pss_one (ps_ret (pv 7)))))))), ?_⟩
    fail "in"
    fail "go"
    rw [letters_is]
    refine lc_by (H := H) (it_s (p := lettersL)) (fun H1 e => trivial) (by decide) (fun i ys _ => ys = (lettersL.take i).map sg) rfl (fun _ _ _ _ _ h => h) (fun x => rfl) ?_ ?_
    · rintro i x ys H1 hi e1 rfl no yes hno hyes
      obtain ⟨c, hc, rfl⟩ := sg_at hi
      fail "go"
      refine hyes _ _ (exr _) ?_
      rw [take_snoc hc, List.map_append]
      rfl
    · rintro l ys H1 nl e1 hl rfl
      rw [List.length_map, List.take_length] at hl
      have hp1 := hp.mono e1
      have b1 : ExB pen H H1 := exb e1
      have nlp : l ≠ pen := hp.n1 nl
      fail "go"
      refine ⟨pen, L, 4, m, rfl, by decide, by decide, hp1, by omega, fun d H2 e2 hp2 d0 d1 => ?_⟩
      fail "go"
      have hl2 := e2 _ _ nlp hl
      refine g_lst' (.inl (.inl hl2)) ?_
      fail "go"
      refine g_lenL (.inl (.inl hl2)) ?_
      fail "go"
      refine ⟨pen, L, _, m + 1, rfl, by decide, by decide, hp2, by omega, fun d2 H3 e3 hp3 d2a d2b => ?_⟩
      fail "go"
      have hl3 := e3 _ _ nlp hl2
      refine g_popAt hl3 d2a (by exact d2b) (by decide) fun c hc => ?_
      fail "go"
      have b3 : ExB pen H H3 := b1.trans (e2.trans e3)
      have st0 : PicSt (lettersL.eraseIdx d2.toNat) [] c := PicSt.first (by decide) in_letter hc
      have nL : l ≠ L := hp.n2 nl
      have len0 : (lettersL.eraseIdx d2.toNat).length = 25 := by
        rw [List.length_eraseIdx, if_pos (List.getElem?_eq_some_iff.mp hc).1]
        rfl
      rw [show Str.ofString "" = S [] from by kernel_rfl]
      refine w_R1 (by omega) ?_
      refine loop_by it_r (fun i σ H' => ∃ (ls p : List Nat) (c : Nat) (z8 z9 : Option V), σ = [some (.ref pen), some (.int n), some (.bl true), some (.ref l), none, some (.int (1 + d)), some (sg c), some (.str (S p)), z8, z9] ∧ ExB pen H H' ∧ PenOk H' pen L (m + 2 + 2 * (i : Int)) ∧
        H' l = some (.lst (ls.map sg)) ∧ PicSt ls p c ∧ p.length = i ∧ 25 ≤ ls.length + i ∧ ls.length ≤ 25) ⟨_, [], c, none, none, rfl, b3.mut nl, (hp3.put nlp nL).le (by omega), upd_same, st0, rfl, by omega, by omega⟩ (fun _ _ _ _ _ => trivial) ?_ ?_
      · rintro i x σ H4 hi ⟨ls, p, c, z8, z9, rfl, b4, hp4, hl4, st, hpl, hll, hlu⟩
        obtain ⟨hlt, rfl⟩ := ivs_at hi
        show tSeq _ _ _ _ _
        fail "go"
        refine ⟨pen, L, 8, _, rfl, by decide, by decide, hp4, by omega, fun d4 H5 e5 hp5 d4a d4b => ?_⟩
        fail "go"
        have hl5 := e5 _ _ nlp hl4
        have b5 := b4.trans e5
        refine g_if (fun h1 => ?_) (fun h1 => ?_)
        · fail "go"
          rw [dot_is]
          refine g_addT (q := [46]) (by simp; omega) ?_
          fail "go"
          exact ⟨ls, p ++ [46], c, _, _, rfl, b5, hp5.le (by omega), hl5, st.dot, by simp [hpl], by omega, hlu⟩
        · refine g_ifs (ans_go (b := false) (fun QB q => ?_) (iteF ?_))
          · fail "go"
            refine g_if (fun h2 => ?_) (fun h2 => ?_)
            · fail "go"
              exact q
            · exact q
          refine g_cutM (fun σ H' => ∃ (ls : List Nat) (c : Nat), σ = [some (.ref pen), some (.int n), some (.bl true), some (.ref l), none, some (.int (1 + d)), some (sg c), some (.str (S p)), some (.int (0 + (i : Int))), some (.int d4)] ∧ ExB pen H H' ∧ PenOk H' pen L (m + 2 + 2 * ((i + 1 : Nat) : Int)) ∧
            H' l = some (.lst (ls.map sg)) ∧ PicSt ls p c ∧ 25 ≤ ls.length + (i + 1) ∧ ls.length ≤ 25) ?_ ?_
          · have new : ∀ (D : Ends), (∀ c' ls' H', ExB pen H H' → PenOk H' pen L (m + 2 + 2 * ((i + 1 : Nat) : Int)) → H' l = some (.lst (ls'.map sg)) → PicSt ls' p c' → 25 ≤ ls'.length + (i + 1) → ls'.length ≤ 25 → D.nx [some (.ref pen), some (.int n), some (.bl true), some (.ref l), none, some (.int (1 + d)), some (sg c'), some (.str (S p)), some (.int (0 + (i : Int))), some (.int d4)] H') → True := fun _ _ => trivial
            have skip : ∃ (ls : List Nat) (c' : Nat), [some (.ref pen), some (.int n), some (.bl true), some (.ref l), none, some (.int (1 + d)), some (sg c), some (.str (S p)), some (.int (0 + (i : Int))), some (.int d4)] = [some (.ref pen), some (.int n), some (.bl true), some (.ref l), none, some (.int (1 + d)), some (sg c'), some (.str (S p)), some (.int (0 + (i : Int))), some (.int d4)] ∧ ExB pen H H5 ∧ PenOk H5 pen L (m + 2 + 2 * ((i + 1 : Nat) : Int)) ∧
              H5 l = some (.lst (ls.map sg)) ∧ PicSt ls p c' ∧ 25 ≤ ls.length + (i + 1) ∧ ls.length ≤ 25 := ⟨ls, c, rfl, b5, hp5.le (by omega), hl5, st, by omega, hlu⟩
            refine g_ifs (ans_go (b := decide (d4 = 6 ∨ (d4 = 5 ∧ 1 + d < 3))) (fun QB q => ?_) (g_if (fun h2 => ?_) (fun h2 => ?_)))
            · fail "go"
              refine g_if (fun h2 => ?_) (fun h2 => ?_)
              · rwa [decide_eq_true (.inl h2)] at q
              · fail "go"
                refine g_if (fun h3 => ?_) (fun h3 => ?_)
                · fail "go"
                  rwa [show decide (d4 = 6 ∨ (d4 = 5 ∧ 1 + d < 3)) = decide (1 + d < 3) from by simp [h2, h3]] at q
                · rwa [show decide (d4 = 6 ∨ (d4 = 5 ∧ 1 + d < 3)) = false from by simp [h2, h3]] at q
            · fail "go"
              refine g_lenL (.inl (.inl hl5)) ?_
              fail "go"
              rw [decide_eq_true (by rw [List.length_map]; omega)]
              fail "go"
              refine g_lst' (.inl (.inl hl5)) ?_
              fail "go"
              refine g_lenL (.inl (.inl hl5)) ?_
              fail "go"
              refine ⟨pen, L, _, _, rfl, by rw [List.length_map]; omega, by rw [List.length_map]; omega, hp5, by omega, fun d6 H6 e6 hp6 d6a d6b => ?_⟩
              fail "go"
              have hl6 := e6 _ _ nlp hl5
              refine g_popAt hl6 d6a (by rw [List.length_map] at d6b; exact d6b) (by omega) fun c' hc' => ?_
              fail "go"
              have hel : (ls.eraseIdx d6.toNat).length = ls.length - 1 := by
                rw [List.length_eraseIdx, if_pos (List.getElem?_eq_some_iff.mp hc').1]
              exact ⟨_, c', rfl, (b5.trans e6).mut nl, (hp6.put nlp nL).le (by omega), upd_same, st.pick hc', by omega, by omega⟩
            · fail "go"
              exact skip
          · rintro σ H6 ⟨ls6, c6, rfl, b6, hp6, hl6, st6, hll6, hlu6⟩
            fail "go"
            refine g_addT (by simp; omega) ?_
            fail "go"
            exact ⟨ls6, p ++ [c6], c6, _, _, rfl, b6, hp6, hl6, st6.net, by simp [hpl], hll6, hlu6⟩
      · rintro σ H4 ⟨ls, p, c, z8, z9, rfl, b4, hp4, hl4, st, hpl, hll, hlu⟩
        rw [ivs_len] at hpl hp4
        fail "go"
        exact k p H4 b4 (hp4.le (by omega)) (by omega) st.mix ⟨by omega, by omega, fun x hx => (st.ch x hx).1⟩
end
end PN

/-! Rows are drawn; sites are told. -/
namespace PN
set_option maxRecDepth 100000
set_option maxHeartbeats 4000000
open PySem PySem.Spec PyProof.Rows L2
open Evl (Ex Ex.new Ex.mut ex_l ex_t fresh_back)
-- MACROS
local macro_rules | `(tactic| fail "in") => `(tactic| dsimp only [cxOf, Cx.nox, Cx.wish, L2.start, List.map, List.length_cons, List.length_nil, Nat.reduceAdd, Nat.reduceSub, List.replicate_succ, List.replicate_zero, List.cons_append, List.nil_append, List.append_nil])
local macro_rules | `(tactic| fail "ds") => `(tactic| dsimp only [List.set_cons_zero, List.set_cons_succ, List.cons_append, List.nil_append, List.append_nil])
local macro_rules | `(tactic| fail "ex") => `(tactic| first | exact exr _ | assumption | (refine ext ?_ (by assumption); fail "ex") | (refine ext ?_ (Ex.new (by assumption)); fail "ex") | (refine Ex.mut ?_ (by assumption); fail "ex"))
local macro_rules | `(tactic| fail "st") => `(tactic| first | assumption | (refine StAt.mono (by assumption) ?_; fail "ex"))
local macro_rules | `(tactic| fail "ho") => `(tactic| first | assumption | (refine HoleAt.mono (by assumption) ?_; fail "ex"))
local macro_rules | `(tactic| fail "si") => `(tactic| first | assumption | (refine SiteAt.mono (by assumption) ?_; fail "ex"))
local macro_rules | `(tactic| fail "bo") => `(tactic| first | assumption | (refine BoardAt.mono (by assumption) ?_; fail "ex"))
local macro_rules | `(tactic| fail "go1") => `(tactic| with_reducible first
  | apply g_seq | apply g_next | apply g_ret | apply g_drop | apply g_asg | apply g_asg2 | apply g_ifs | (refine g_var (by with_unfolding_all rfl) ?_) | apply g_c | apply g_op | apply g_rI0 | apply g_eqI | apply g_neI | apply g_eqS | apply g_neS
  | apply g_test | apply g_B | apply g_bl | apply g_and | apply g_or | apply g_not | apply g_andV | apply g_orV | apply g_notV | apply g_ife | apply g_nil | apply g_cons | apply g_call | apply g_mkSt | apply g_make | apply g_cb | apply g_bm | apply g_fld | apply g_con | apply g_met | apply g_chain | apply g_put | apply g_tup | apply g_lst
  | apply g_isI | apply g_isB | apply g_isS | apply g_isNon | apply g_notNon | apply g_str | apply g_inS | apply g_notInS | apply g_un | apply g_sl | apply g_pn | apply g_ps | apply g_in | apply g_for | apply g_iL | apply g_iT | apply g_iS | apply g_iR1 | apply g_iR2 | apply g_lc | apply w_S | apply c_S | apply g_yes | apply g_par | apply g_two | (refine g_aug (by with_unfolding_all rfl) ?_) | apply g_ipI | apply g_mkK | apply g_star | apply g_mkSK | apply g_revS | apply g_revT | apply g_revL | apply g_cmK | apply m_cmK | apply g_lc2 | apply g_lenSet
  | apply iteT | apply iteF | (refine y_if (by decide) ?_) | (refine n_if (by decide) ?_)
  | (refine sp_within (by fail "st") (by fail "st") ?_) | (refine met_St (by fail "st") (by decide +kernel) (by decide +kernel) ?_)
  | (refine r_must (by assumption) (by fail "ho") ?_; intro m hm) | (refine r_may (by assumption) (by fail "ho") ?_; intro m hm) | (refine r_site (by assumption) (by fail "ho") ?_) | (refine r_number (by assumption) (by fail "ho") ?_) | (refine r_hdepth (by assumption) (by fail "ho") ?_) | (refine r_hpat (by assumption) (by fail "ho") ?_) | (refine r_kind (by assumption) (by fail "ho") ?_)
  | (refine r_sname (by assumption) (by fail "si") ?_) | (refine r_spic (by assumption) (by fail "si") ?_) | (refine r_skind (by assumption) (by fail "si") ?_) | (refine r_sdepth (by assumption) (by fail "si") ?_) | (refine r_spat (by assumption) (by fail "si") ?_) | (refine r_sparts (by assumption) (by fail "si") ?_; intro pt hpt) | (refine r_sholes (by assumption) (by fail "si") ?_; intro hl has hhl hhas)
  | (refine r_blayers (by assumption) (by fail "bo") ?_) | (refine r_bsites (by assumption) (by fail "bo") ?_; intro st sts hst hsts) | (refine r_bholes (by assumption) (by fail "bo") ?_; intro bl bhs hbl hbhs)
  | (refine r_low (by assumption) (by fail "st") ?_) | (refine r_high (by assumption) (by fail "st") ?_))
local macro_rules | `(tactic| fail "go") => `(tactic| ((repeat (first | fail "go1" | (fail "ds"; fail "go1"))); (try fail "ds")))
local macro_rules | `(tactic| fail "sz") => `(tactic| (refine Evl.sz_of ?_; simp only [List.length_cons, List.length_nil, List.length_append, List.length_map, List.length_take, List.length_drop]; omega))
-- END MACROS
/-- a comprehension whose tests draw -/
theorem lc_pen {J : It} {xs : List V} {P : Hp → Prop} {tt : TT} {te : TE} {vs : List Nat} {σ : L2.St} {H : Hp} {Q : VK} {j : Nat} {pen L : Addr} {m : Int} (I : ItOf J xs P) (hP : ∀ H1, ExB pen H H1 → P H1) (hz : xs.length ≤ 10000) (Pv : Nat → List V → Prop) (hpen : PenOk H pen L m) (h0 : Pv 0 []) (hw : ∀ x, wipe ((wipe σ vs).set j (some x)) vs = wipe σ vs)
    (hs : ∀ (i : Nat) x ys H1, xs[i]? = some x → ExB pen H H1 → PenOk H1 pen L (m + i) → Pv i ys → ∀ (no : Hp → Prop) (yes : V → Hp → Prop), (∀ H2, ExB pen H1 H2 → PenOk H2 pen L (m + i + 1) → Pv (i + 1) ys → no H2) → (∀ y H2, ExB pen H1 H2 → PenOk H2 pen L (m + i + 1) → Pv (i + 1) (ys ++ [y]) → yes y H2) →
      tt ((wipe σ vs).set j (some x)) H1 fun b H3 => if b = true then te ((wipe σ vs).set j (some x)) H3 yes else no H3)
    (hd : ∀ D ys H1, H D = none → ExB pen H H1 → PenOk H1 pen L (m + xs.length) → H1 D = some (.lst ys) → Pv xs.length ys → Q (.ref D) H1) : LcB J (gName j) tt te vs σ H Q := by
  intro D nD
  have n1 := hpen.n1 nD
  have n2 := hpen.n2 nD
  refine ⟨fun i k H1 => k = xs.length - i ∧ i ≤ xs.length ∧ ExB pen H H1 ∧ PenOk H1 pen L (m + i) ∧ ∃ ys, ys.length ≤ i ∧ H1 D = some (.lst ys) ∧ Pv i ys, ⟨_, rfl, Nat.zero_le _, exb (Ex.new nD), (hpen.put n1 n2).le (by omega), [], Nat.zero_le _, upd_same, h0⟩, ?_⟩
  rintro i k H1 ⟨rfl, hi, e1, hp1, ys, hl, hD, p⟩
  by_cases hlt : i < xs.length
  · refine .inr ⟨I.go i H1 (hP H1 e1) hlt, fun H' => ExB pen H H' ∧ PenOk H' pen L (m + ((i + 1 : Nat) : Int)) ∧ ∃ ys, ys.length ≤ i + 1 ∧ H' D = some (.lst ys) ∧ Pv (i + 1) ys, fun H' ⟨e2, hp2, zs, hl2, hz2, p2⟩ => ⟨xs.length - (i + 1), by omega, rfl, hlt, e2, hp2, zs, hl2, hz2, p2⟩, fun x H' y => ?_⟩
    obtain ⟨e, y3⟩ := I.yld i H1 x H' (hP H1 e1) hlt y
    subst e
    refine ⟨hw x, ?_⟩
    refine hs i x ys _ y3 e1 hp1 p _ _ (fun H2 e2 hp2 p2 => ?_) (fun y2 H2 e2 hp2 p2 => ?_)
    · exact ⟨e1.trans e2, hp2.le (by omega), ys, by omega, e2 _ _ n1 hD, p2⟩
    · exact ⟨ys, e2 _ _ n1 hD, Nat.lt_of_lt_of_le (show ys.length < 100000 by omega) (by decide), (e1.trans e2).mut nD, (hp2.put n1 n2).le (by omega), ys ++ [y2], by simp; omega, upd_same, p2⟩
  · have e : i = xs.length := by omega
    subst e
    exact .inl ⟨I.stop H1 (hP H1 e1), hd D ys H1 nD e1 hp1 hD p⟩
/-- a told row -/
abbrev rwF (r : Row) (few : Addr) : List V := [.str (S r.name), .str (S r.pic), .str r.kd.str, .int r.depth, .int r.pat, .ref few]
def RowL (H : Hp) (a : Addr) (r : Row) : Prop := ∃ few, H a = some (.lst (rwF r few)) ∧ H few = some (.lst (nts r.parts))
theorem RowL.mono {H H' : Hp} {a : Addr} {r : Row} (h : RowL H a r) (e : Ex H H') : RowL H' a r := by
  obtain ⟨few, h1, h2⟩ := h
  exact ⟨few, e _ _ h1, e _ _ h2⟩
def kdOf (d : Nat) : Kd := if d = 0 then .thr else if d = 1 then .bli else .eit
theorem kd_at {d : Int} (h0 : 0 ≤ d) (h1 : d < 3) : atI [V.str (Str.ofString "through"), V.str (Str.ofString "blind"), V.str (Str.ofString "either")] d = some (.str (kdOf d.toNat).str) := by
  have h : d = 0 ∨ d = 1 ∨ d = 2 := by omega
  rcases h with h | h | h <;> subst h <;> rfl
section
variable {P : Program} {w : World} {K : PySem.W.Frag} {mg : Str → Option Value} {base : Heap}
def spSiteRow (K : PySem.W.Frag) : Sp := fun vs H Q _ => ∃ (pen L : Addr) (n m : Int) (name : List Nat), vs = [.ref pen, .int n, .str (S name)] ∧ NameOk name ∧ 2 ≤ n ∧ n ≤ 6 ∧ PenOk H pen L m ∧ m ≤ 80000 ∧
  ∀ a few r H', ExB pen H H' → PenOk H' pen L (m + 100) → H a = none → H few = none → H' a = some (.lst (rwF r few)) → H' few = some (.lst (nts r.parts)) → RowOk r → r.name = name → (r.pic.length : Int) = n → Q (.ref a) H'
theorem sc_law_site_row : FnScope ["_law_pen_here", "_law_layers_here", "_law_name", "_law_some", "_law_picture_here", "_law_few", "_law_k", "_law_sort_here"] ["_law_pen_here", "_law_layers_here", "_law_name"] (defScope s_law_site_row) := C8.fnScope_by (by decide +kernel)
theorem ok_law_site_row (T : TX K mg) : C8.Cal P w K mg base 3 "_law_site_row" (spSiteRow K) [] := by
  refine calD T.d_law_site_row T.g_law_site_row sc_law_site_row (fun _ _ _ _ _ _ us hl => match us, hl with | [_, _, _], _ => rfl) (fun vs H Q E h => ?_) (fun cdv A outer s H vs Q E hr h => ?_)
  · obtain ⟨pen, L, n, m, name, rfl, _⟩ := h
    rfl
  · obtain ⟨pen, L, n, m, name, rfl, hnm, hn1, hn2, hp, hm, k⟩ := h
    refine ⟨_, (pss_cons (ps_set (i := 3) sc_law_site_row.nd rfl (by first | exact Or.inl rfl | exact Or.inr rfl) (pe_lst (pa_cons (C8.pe_c (ok_law_picture T) hr (by decide) (by rfl) (pa_cons (pv 0) (pa_cons (pv 1) (pa_cons pe_bl pa_nil)))) (pa_cons (C8.pe_c (ok_law_picture T) hr (by decide) (by rfl) (pa_cons (pv 0) (pa_cons (pv 1) (pa_cons pe_bl pa_nil)))) pa_nil))))
      (pss_cons (ps_set (i := 4) sc_law_site_row.nd rfl (by first | exact Or.inl rfl | exact Or.inr rfl) (pe_ix ix_list (pv 3) (pe_callTy call_intN (by rfl) T.b_int (by decide +kernel) (pa_cons (pe_cmpR op_gt (C8.pe_c (ok_law_twice T) hr (by decide) (by rfl) (pa_cons (pe_ix ix_list (pv 3) pe_int (fun _ _ => rfl)) pa_nil)) (C8.pe_c (ok_law_twice T) hr (by decide) (by rfl) (pa_cons (pe_ix ix_list (pv 3) pe_int (fun _ _ => rfl)) pa_nil)) (nomark _)) pa_nil)) (fun _ _ => rfl)))
      (pss_cons (ps_set (i := 5) sc_law_site_row.nd rfl (by first | exact Or.inl rfl | exact Or.inr rfl) (pe_slice sl_list (pe_lc (own := [("_law_k", 6)]) (g := gName 6) (tt := (tTest (tOp rEq (tCall (spDraw K) [] C8.E0 (tCons (tVar 0) (tCons (tC (.int 3)) tNil))) (tC (.int 0))))) (te := (tVar 6)) (by rfl) sc_law_site_row.nd (pi_list (C8.pe_c (ok_law_can T) hr (by decide) (by rfl) (pa_cons (pv 4) pa_nil))) (blkOk_by (own := [("_law_k", 6)]) (N := ["_law_pen_here", "_law_layers_here", "_law_name", "_law_some", "_law_picture_here", "_law_few", "_law_k", "_law_sort_here"]) (sc := defScope s_law_site_row) (by decide +kernel)) (fun _ _ _ _ _ => (pg_name (i := 6) sc_law_site_row.nd rfl (by first | exact Or.inl rfl | exact Or.inr rfl))) (fun _ _ _ _ _ => pts_one (pt_cmpR op_eq (C8.pe_c (ok_law_draw T) hr (by decide) (by rfl) (pa_cons (pv 0) (pa_cons pe_int pa_nil))) pe_int (nomark _))) (fun _ _ _ _ _ => (pv 6))) po_none (po_some pe_int)))
      (pss_cons (ps_set (i := 7) sc_law_site_row.nd rfl (by first | exact Or.inl rfl | exact Or.inr rfl) (pe_ix ix_list (pe_lst (pa_cons pe_str (pa_cons pe_str (pa_cons pe_str pa_nil)))) (C8.pe_c (ok_law_draw T) hr (by decide) (by rfl) (pa_cons (pv 0) (pa_cons pe_int pa_nil))) (fun _ _ => rfl)))
      (pss_one (ps_ret (pe_lst (pa_cons (pv 2) (pa_cons (pv 4) (pa_cons (pv 7) (pa_cons (pe_op op_add pe_int (C8.pe_c (ok_law_draw T) hr (by decide) (by rfl) (pa_cons (pv 0) (pa_cons pe_int pa_nil)))) (pa_cons (C8.pe_c (ok_law_draw T) hr (by decide) (by rfl) (pa_cons (pv 0) (pa_cons pe_int pa_nil))) (pa_cons (pv 5) pa_nil))))))))))))), ?_⟩
    fail "in"
    fail "go"
    refine ⟨pen, L, n, m, rfl, hn1, hn2, hp, by omega, fun p1 H1 e1 hp1 l1 mx1 ok1 => ?_⟩
    fail "go"
    refine ⟨pen, L, n, _, rfl, hn1, hn2, hp1, by omega, fun p2 H2 e2 hp2 l2 mx2 ok2 => ?_⟩
    fail "go"
    refine ⟨by fail "sz", fun l nl => ?_⟩
    fail "go"
    have b2 : ExB pen H H2 := e1.trans e2
    have hl3 : (upd H2 l (.lst [.str (S p1), .str (S p2)])) l = some (.lst [.str (S p1), .str (S p2)]) := upd_same
    have b3 : ExB pen H (upd H2 l (.lst [.str (S p1), .str (S p2)])) := b2.trans (exb (Ex.new nl))
    have hp3 := hp2.mono (Ex.new (o := .lst [.str (S p1), .str (S p2)]) nl)
    revert hl3 b3 hp3
    generalize upd H2 l (.lst [.str (S p1), .str (S p2)]) = H3
    intro hl3 b3 hp3
    refine g_ixL (.inl (.inl hl3)) (atI_nn (v := .str (S p2)) (by decide) rfl) ?_
    fail "go"
    refine ⟨p2, rfl, by have := ok2.hi; omega, fun t2 H4 e4 => ?_⟩
    fail "go"
    have hl4 := e4 _ _ hl3
    refine g_ixL (.inl (.inl hl4)) (atI_nn (v := .str (S p1)) (by decide) rfl) ?_
    fail "go"
    refine ⟨p1, rfl, by have := ok1.hi; omega, fun t1 H5 e5 => ?_⟩
    fail "go"
    have hl5 := e5 _ _ hl4
    refine g_intB ?_
    obtain ⟨p, hat, lp, mx, okp⟩ : ∃ p, atI [V.str (S p1), V.str (S p2)] (if decide (t1 < t2) = true then 1 else 0) = some (.str (S p)) ∧ (p.length : Int) = n ∧ NonMixed p ∧ PicOk p := by
      by_cases q : t1 < t2
      · exact ⟨p2, by rw [decide_eq_true q]; rfl, l2, mx2, ok2⟩
      · exact ⟨p1, by rw [decide_eq_false q]; rfl, l1, mx1, ok1⟩
    refine g_ixL (.inl (.inl hl5)) hat ?_
    fail "go"
    have hp5 := hp3.mono (ext e4 e5)
    have b5 : ExB pen H H5 := b3.trans (exb (ext e4 e5))
    refine ⟨p, rfl, by have := okp.hi; omega, fun cl H6 ks e6 ncl hcl hks hup hklen => ?_⟩
    fail "go"
    have hp6 := hp5.mono e6
    have nclp : cl ≠ pen := hp5.n1 ncl
    refine c_L (.inl (.inl hcl)) ?_
    refine lc_pen (H := H6) it_l (fun H7 e => .inl (.inl (e _ _ nclp hcl))) (by rw [List.length_map]; have := okp.hi; omega) (fun i ys => ∃ js : List Int, ys = nts js ∧ js.Sublist (ks.take i)) hp6 ⟨[], rfl, List.nil_sublist _⟩ (fun x => rfl) ?_ ?_
    · rintro i x ys H7 hi e7 hp7 ⟨js, rfl, hjs⟩ no yes hno hyes
      obtain ⟨a, ha, rfl⟩ := nt_at hi
      have hil : i < 100 := by
        have := (List.getElem?_eq_some_iff.mp ha).1
        have := okp.hi
        omega
      fail "go"
      refine ⟨pen, L, 3, _, rfl, by decide, by decide, hp7, by omega, fun d H8 e8 hp8 d0 d1 => ?_⟩
      fail "go"
      refine g_if (fun h1 => ?_) (fun h1 => ?_)
      · fail "go"
        refine hyes _ _ e8 hp8 ⟨js ++ [a], by simp [nts], ?_⟩
        rw [take_snoc ha]
        exact hjs.append (List.Sublist.refl _)
      · fail "go"
        refine hno _ e8 hp8 ⟨js, rfl, ?_⟩
        rw [take_snoc ha]
        exact hjs.trans (List.sublist_append_left _ _)
    · rintro D ys H7 nD e7 hp7 hD ⟨js, rfl, hjs⟩
      rw [List.length_map, List.take_length] at hjs
      rw [List.length_map] at hp7
      fail "go"
      refine sl_to (by decide) (.inl (.inl hD)) fun few nfew => ?_
      fail "go"
      have hfew : (upd H7 few (.lst ((nts js).take (2 : Int).toNat))) few = some (.lst (nts (js.take 2))) := by
        rw [upd_same]
        unfold nts
        rw [List.map_take]
        rfl
      have e8 : Ex H7 (upd H7 few (.lst ((nts js).take (2 : Int).toNat))) := Ex.new nfew
      have hp8 := hp7.mono e8
      have b8 : ExB pen H (upd H7 few (.lst ((nts js).take (2 : Int).toNat))) := b5.trans ((exb e6).trans (e7.trans (exb e8)))
      have nfew0 : H few = none := (b5.trans ((exb e6).trans e7)).back nfew (hp7.n1 nfew)
      revert hfew e8 hp8 b8
      generalize upd H7 few (.lst ((nts js).take (2 : Int).toNat)) = H8
      intro hfew e8 hp8 b8
      have sub : (js.take 2).Sublist ks := (List.take_sublist 2 js).trans hjs
      refine ⟨by fail "sz", fun tl ntl => ?_⟩
      fail "go"
      have e9 : Ex H8 (upd H8 tl (.lst [.str (Str.ofString "through"), .str (Str.ofString "blind"), .str (Str.ofString "either")])) := Ex.new ntl
      have ntp := hp8.n1 ntl
      have htl : (upd H8 tl (.lst [.str (Str.ofString "through"), .str (Str.ofString "blind"), .str (Str.ofString "either")])) tl = some (.lst [.str (Str.ofString "through"), .str (Str.ofString "blind"), .str (Str.ofString "either")]) := upd_same
      refine ⟨pen, L, 3, _, rfl, by decide, by decide, hp8.mono e9, by have := okp.hi; omega, fun d H9 e10 hp9 d0 d1 => ?_⟩
      fail "go"
      refine g_ixL (.inl (.inl (e10 _ _ ntp htl))) (kd_at d0 d1) ?_
      fail "go"
      refine ⟨pen, L, 15, _, rfl, by decide, by decide, hp9, by have := okp.hi; omega, fun d2 H10 e11 hp10 d2a d2b => ?_⟩
      fail "go"
      refine ⟨pen, L, 16, _, rfl, by decide, by decide, hp10, by have := okp.hi; omega, fun d3 H11 e12 hp11 d3a d3b => ?_⟩
      fail "go"
      refine ⟨by fail "sz", fun a na => ?_⟩
      fail "go"
      have b11 : ExB pen H H11 := b8.trans ((exb e9).trans (e10.trans (e11.trans e12)))
      have nfp : few ≠ pen := hp7.n1 nfew
      refine k a few ⟨name, p, kdOf d.toNat, 1 + d2, d3, js.take 2⟩ _ (b11.trans (exb (Ex.new na))) ((hp11.mono (Ex.new na)).le (by have := okp.hi; omega)) (b11.back na (hp11.n1 na)) nfew0 upd_same (Ex.new na _ _ (((exb e9).trans (e10.trans (e11.trans e12))) _ _ nfp hfew)) ?_ rfl lp
      exact ⟨hnm, okp, mx, by show 1 ≤ 1 + d2; omega, by show 1 + d2 ≤ 15; omega, d3a, by show d3 ≤ 15; omega, fun b hb => hks b (sub.subset hb), hup.sublist sub, by show (js.take 2).length ≤ 2; rw [List.length_take]; omega⟩
end
end PN

/-! Sites are told, rows drawn. -/
namespace PN
set_option maxRecDepth 100000
set_option maxHeartbeats 4000000
open PySem PySem.Spec PyProof.Rows L2
open Evl (Ex Ex.new Ex.mut ex_l ex_t fresh_back)
-- MACROS
local macro_rules | `(tactic| fail "in") => `(tactic| dsimp only [cxOf, Cx.nox, Cx.wish, L2.start, List.map, List.length_cons, List.length_nil, Nat.reduceAdd, Nat.reduceSub, List.replicate_succ, List.replicate_zero, List.cons_append, List.nil_append, List.append_nil])
local macro_rules | `(tactic| fail "ds") => `(tactic| dsimp only [List.set_cons_zero, List.set_cons_succ, List.cons_append, List.nil_append, List.append_nil])
local macro_rules | `(tactic| fail "ex") => `(tactic| first | exact exr _ | assumption | (refine ext ?_ (by assumption); fail "ex") | (refine ext ?_ (Ex.new (by assumption)); fail "ex") | (refine Ex.mut ?_ (by assumption); fail "ex"))
local macro_rules | `(tactic| fail "st") => `(tactic| first | assumption | (refine StAt.mono (by assumption) ?_; fail "ex"))
local macro_rules | `(tactic| fail "ho") => `(tactic| first | assumption | (refine HoleAt.mono (by assumption) ?_; fail "ex"))
local macro_rules | `(tactic| fail "si") => `(tactic| first | assumption | (refine SiteAt.mono (by assumption) ?_; fail "ex"))
local macro_rules | `(tactic| fail "bo") => `(tactic| first | assumption | (refine BoardAt.mono (by assumption) ?_; fail "ex"))
local macro_rules | `(tactic| fail "go1") => `(tactic| with_reducible first
  | apply g_seq | apply g_next | apply g_ret | apply g_drop | apply g_asg | apply g_asg2 | apply g_ifs | (refine g_var (by with_unfolding_all rfl) ?_) | apply g_c | apply g_op | apply g_rI0 | apply g_eqI | apply g_neI | apply g_eqS | apply g_neS
  | apply g_test | apply g_B | apply g_bl | apply g_and | apply g_or | apply g_not | apply g_andV | apply g_orV | apply g_notV | apply g_ife | apply g_nil | apply g_cons | apply g_call | apply g_mkSt | apply g_make | apply g_cb | apply g_bm | apply g_fld | apply g_con | apply g_met | apply g_chain | apply g_put | apply g_tup | apply g_lst
  | apply g_isI | apply g_isB | apply g_isS | apply g_isNon | apply g_notNon | apply g_str | apply g_inS | apply g_notInS | apply g_un | apply g_sl | apply g_pn | apply g_ps | apply g_in | apply g_for | apply g_iL | apply g_iT | apply g_iS | apply g_iR1 | apply g_iR2 | apply g_lc | apply w_S | apply c_S | apply g_yes | apply g_par | apply g_two | (refine g_aug (by with_unfolding_all rfl) ?_) | apply g_ipI | apply g_mkK | apply g_star | apply g_mkSK | apply g_revS | apply g_revT | apply g_revL | apply g_cmK | apply m_cmK | apply g_lc2 | apply g_lenSet
  | apply iteT | apply iteF | (refine y_if (by decide) ?_) | (refine n_if (by decide) ?_)
  | (refine sp_within (by fail "st") (by fail "st") ?_) | (refine met_St (by fail "st") (by decide +kernel) (by decide +kernel) ?_)
  | (refine r_must (by assumption) (by fail "ho") ?_; intro m hm) | (refine r_may (by assumption) (by fail "ho") ?_; intro m hm) | (refine r_site (by assumption) (by fail "ho") ?_) | (refine r_number (by assumption) (by fail "ho") ?_) | (refine r_hdepth (by assumption) (by fail "ho") ?_) | (refine r_hpat (by assumption) (by fail "ho") ?_) | (refine r_kind (by assumption) (by fail "ho") ?_)
  | (refine r_sname (by assumption) (by fail "si") ?_) | (refine r_spic (by assumption) (by fail "si") ?_) | (refine r_skind (by assumption) (by fail "si") ?_) | (refine r_sdepth (by assumption) (by fail "si") ?_) | (refine r_spat (by assumption) (by fail "si") ?_) | (refine r_sparts (by assumption) (by fail "si") ?_; intro pt hpt) | (refine r_sholes (by assumption) (by fail "si") ?_; intro hl has hhl hhas)
  | (refine r_blayers (by assumption) (by fail "bo") ?_) | (refine r_bsites (by assumption) (by fail "bo") ?_; intro st sts hst hsts) | (refine r_bholes (by assumption) (by fail "bo") ?_; intro bl bhs hbl hbhs)
  | (refine r_low (by assumption) (by fail "st") ?_) | (refine r_high (by assumption) (by fail "st") ?_))
local macro_rules | `(tactic| fail "go") => `(tactic| ((repeat (first | fail "go1" | (fail "ds"; fail "go1"))); (try fail "ds")))
local macro_rules | `(tactic| fail "sz") => `(tactic| (refine Evl.sz_of ?_; simp only [List.length_cons, List.length_nil, List.length_append, List.length_map, List.length_take, List.length_drop]; omega))
-- END MACROS
theorem erase_perm {α : Type} : ∀ {l : List α} {k : Nat} (h : k < l.length), (l[k] :: l.eraseIdx k).Perm l
  | [], _, h => absurd h (by simp)
  | x :: l, 0, _ => List.Perm.refl _
  | x :: l, k + 1, h => by
    rw [List.eraseIdx_cons_succ, List.getElem_cons_succ]
    exact (List.Perm.swap _ _ _).trans ((erase_perm (l := l) (k := k) (by simpa using h)).cons x)
section
variable {P : Program} {w : World} {K : PySem.W.Frag} {mg : Str → Option Value} {base : Heap}
def spSite (K : PySem.W.Frag) : Sp := fun vs H Q _ => ∃ (a : Addr) (r : Row), vs = [.ref a] ∧ RowL H a r ∧ RowOk r ∧ ∀ x H', Ex H H' → SiteAt K H' x r → Q (.ref x) H'
theorem sc_law_site : FnScope ["_law_told"] ["_law_told"] (defScope s_law_site) := C8.fnScope_by (by decide +kernel)
theorem ok_law_site (T : TX K mg) : C8.Cal P w K mg base 11 "_law_site" (spSite K) [] := by
  refine calD T.d_law_site T.g_law_site sc_law_site (fun _ _ _ _ _ _ us hl => match us, hl with | [_], _ => rfl) (fun vs H Q E h => ?_) (fun cdv A outer s H vs Q E hr h => ?_)
  · obtain ⟨a, r, rfl, _⟩ := h
    rfl
  · obtain ⟨a, r, rfl, ⟨few, ha, hf⟩, ok, k⟩ := h
    refine ⟨_, (pss_one (ps_ret (pe_cmethK (C8.pe_gc (v := .ref (c_Site K)) (by rfl) ⟨_, T.g_Site, rfl⟩) T.cm_site_of.1 T.cm_site_of.2 (fk_site_of T) (hr.mono (by decide)) pass0 (pa_cons (pe_ix ix_list (pv 0) pe_int (fun _ _ => rfl)) (pa_cons (pe_ix ix_list (pv 0) pe_int (fun _ _ => rfl)) (pa_cons (pe_ix ix_list (pv 0) pe_int (fun _ _ => rfl)) pa_nil))) (pk_cons (pe_ix ix_list (pv 0) pe_int (fun _ _ => rfl)) (pk_cons (pe_ix ix_list (pv 0) pe_int (fun _ _ => rfl)) (pk_cons (pe_ix ix_list (pv 0) pe_int (fun _ _ => rfl)) pk_nil)))))), ?_⟩
    have hs : SqL K H a (rwF r few) := .inl (.inl ha)
    fail "in"
    fail "go"
    refine g_ixL hs (atI_nn (v := .str (S r.name)) (by decide) rfl) ?_
    fail "go"
    refine g_ixL hs (atI_nn (v := .str (S r.pic)) (by decide) rfl) ?_
    fail "go"
    refine g_ixL hs (atI_nn (v := .ref few) (by decide) rfl) ?_
    fail "go"
    refine g_ixL hs (atI_nn (v := .str r.kd.str) (by decide) rfl) ?_
    fail "go"
    refine g_ixL hs (atI_nn (v := .int r.depth) (by decide) rfl) ?_
    fail "go"
    refine g_ixL hs (atI_nn (v := .int r.pat) (by decide) rfl) ?_
    fail "go"
    exact ⟨rfl, rfl, _, few, r, rfl, ok, hf, k⟩
def namesL : List (List Nat) := [[97], [98], [118, 105, 97], [122, 122, 122, 122, 122, 122, 122, 122], [115, 105, 116, 101], [98, 111, 97, 114, 100], [97, 98], [99], [117], [118], [119], [120], [110, 111, 110, 101]]
theorem names_is : [V.str (Str.ofString "a"), V.str (Str.ofString "b"), V.str (Str.ofString "via"), V.str (Str.ofString "zzzzzzzz"), V.str (Str.ofString "site"), V.str (Str.ofString "board"), V.str (Str.ofString "ab"), V.str (Str.ofString "c"), V.str (Str.ofString "u"), V.str (Str.ofString "v"), V.str (Str.ofString "w"), V.str (Str.ofString "x"), V.str (Str.ofString "none")] = namesL.map nmv := by kernel_rfl
theorem names_ok : ∀ x ∈ namesL, NameOk x := fun x hx => by
  have : ∀ x ∈ namesL, 1 ≤ x.length ∧ x.length ≤ 8 ∧ ∀ c ∈ x, 97 ≤ c ∧ c ≤ 122 := by decide
  exact ⟨(this x hx).1, (this x hx).2.1, (this x hx).2.2⟩
def RowsL (H : Hp) (as : List Addr) (rows : List Row) : Prop := All2 (fun _ a r => RowL H a r) as rows
theorem RowsL.mono {H H' : Hp} {as : List Addr} {rows : List Row} (h : RowsL H as rows) (e : Ex H H') : RowsL H' as rows := h.imp fun _ _ _ q => q.mono e
def spSites (K : PySem.W.Frag) : Sp := fun vs H Q _ => ∃ (pen L : Addr) (n k m : Int), vs = [.ref pen, .int n, .int k] ∧ 2 ≤ n ∧ n ≤ 6 ∧ 1 ≤ k ∧ k ≤ 3 ∧ PenOk H pen L m ∧ m ≤ 70000 ∧
  ∀ l as rows H', ExB pen H H' → H' l = some (.lst (rfs as)) → RowsL H' as rows → BoardOk n rows → Q (.ref l) H'
theorem sc_law_sites : FnScope ["_law_pen_here", "_law_layers_here", "_law_many", "_law_names", "_law_found", "_law_turn"] ["_law_pen_here", "_law_layers_here", "_law_many"] (defScope s_law_sites) := C8.fnScope_by (by decide +kernel)
/-- a row that stands apart from the list at l -/
def RowF (l : Addr) (H : Hp) (_ : Nat) (a : Addr) (r : Row) : Prop := ∃ few, a ≠ l ∧ few ≠ l ∧ H a = some (.lst (rwF r few)) ∧ H few = some (.lst (nts r.parts))
theorem ok_law_sites (T : TX K mg) : C8.Cal P w K mg base 4 "_law_sites" (spSites K) [] := by
  refine calD T.d_law_sites T.g_law_sites sc_law_sites (fun _ _ _ _ _ _ us hl => match us, hl with | [_, _, _], _ => rfl) (fun vs H Q E h => ?_) (fun cdv A outer s H vs Q E hr h => ?_)
  · obtain ⟨pen, L, n, k, m, rfl, _⟩ := h
    rfl
  · obtain ⟨pen, L, n, cnt, m, rfl, hn1, hn2, hk1, hk2, hp, hm, k⟩ := h
    refine ⟨_, (pss_cons (ps_set (i := 3) sc_law_sites.nd rfl (by first | exact Or.inl rfl | exact Or.inr rfl) (pe_lst (pa_cons pe_str (pa_cons pe_str (pa_cons pe_str (pa_cons pe_str (pa_cons pe_str (pa_cons pe_str (pa_cons pe_str (pa_cons pe_str (pa_cons pe_str (pa_cons pe_str (pa_cons pe_str (pa_cons pe_str (pa_cons pe_str pa_nil)))))))))))))))
      (pss_cons (ps_set (i := 4) sc_law_sites.nd rfl (by first | exact Or.inl rfl | exact Or.inr rfl) (pe_lst pa_nil))
      (pss_cons (ps_for PassesOwn.never rfl (pi_range1 (by rfl) T.b_range (pa_cons (pv 2) pa_nil)) (pg_name (i := 5) sc_law_sites.nd rfl (by first | exact Or.inl rfl | exact Or.inr rfl)) (pss_one (ps_expr (pe_bm PySem.F.plainAttrs_list PySem.F.slot_list_append PySem.F.type_list_append mt_append (pv 4) (pa_cons (C8.pe_c (ok_law_site_row T) hr (by decide) (by rfl) (pa_cons (pv 0) (pa_cons (pv 1) (pa_cons (pe_bm PySem.F.plainAttrs_list PySem.F.slot_list_pop PySem.F.type_list_pop mt_popAt (pv 3) (pa_cons (C8.pe_c (ok_law_draw T) hr (by decide) (by rfl) (pa_cons (pv 0) (pa_cons (pe_callB call_lenQ (by rfl) T.b_len PySem.boot_len (pa_cons (pv 3) pa_nil)) pa_nil))) pa_nil)) pa_nil)))) pa_nil)))))
      (pss_one (ps_ret (pv 4)))))), ?_⟩
    fail "in"
    fail "go"
    rw [names_is]
    refine ⟨Evl.sz_of (by rw [List.length_map]; decide), fun nmA nn => ?_⟩
    fail "go"
    refine ⟨by fail "sz", fun l nl => ?_⟩
    fail "go"
    have e1 : Ex H (upd H nmA (.lst (namesL.map nmv))) := Ex.new nn
    have nlA : nmA ≠ l := fun q => by rw [← q, upd_same] at nl; cases nl
    have nl0 : H l = none := fresh_back e1 nl
    have hp2 := (hp.mono e1).mono (Ex.new (o := .lst []) nl)
    have b2 : ExB pen H (upd (upd H nmA (.lst (namesL.map nmv))) l (.lst [])) := exb (ext e1 (Ex.new nl))
    have hA2 : (upd (upd H nmA (.lst (namesL.map nmv))) l (.lst [])) nmA = some (.lst (namesL.map nmv)) := by
      rw [upd_ne nlA]
      exact upd_same
    have nAp : nmA ≠ pen := hp.n1 nn
    have nAL : nmA ≠ L := hp.n2 nn
    have nlp : l ≠ pen := hp.n1 nl0
    have nlL : l ≠ L := hp.n2 nl0
    refine w_R1 (by omega) ?_
    refine loop_by it_r (fun i σ H' => ∃ (z : Option V) (rem : List (List Nat)) (as : List Addr) (rows : List Row), σ = [some (.ref pen), some (.int n), some (.int cnt), some (.ref nmA), some (.ref l), z] ∧ ExB pen H H' ∧ PenOk H' pen L (m + 200 * (i : Int)) ∧ H' nmA = some (.lst (rem.map nmv)) ∧ H' l = some (.lst (rfs as)) ∧
      All2 (RowF l H') as rows ∧ (∀ r ∈ rows, RowOk r ∧ (r.pic.length : Int) = n) ∧ (rows.map (·.name) ++ rem).Nodup ∧ (∀ x ∈ rem, NameOk x) ∧ rem.length + i = 13 ∧ rows.length = i)
      ⟨none, namesL, [], [], rfl, b2, hp2.le (by omega), hA2, upd_same, All2.nil, (fun r h => absurd h (by simp)), by decide, names_ok, rfl, rfl⟩ (fun _ _ _ _ _ => trivial) ?_ ?_
    · rintro i x σ H3 hi ⟨z, rem, as, rows, rfl, b3, hp3, hA3, hl3, has, hrows, hnd, hnm, hrl, hrc⟩
      obtain ⟨hlt, rfl⟩ := ivs_at hi
      have hlen := has.1
      show tDrop _ _ _ _
      fail "go"
      refine g_lst' (.inl (.inl hl3)) ?_
      fail "go"
      refine g_lst' (.inl (.inl hA3)) ?_
      fail "go"
      refine g_lenL (.inl (.inl hA3)) ?_
      fail "go"
      refine ⟨pen, L, _, _, rfl, by rw [List.length_map]; omega, by rw [List.length_map]; omega, hp3, by omega, fun d H4 e4 hp4 d0 d1 => ?_⟩
      fail "go"
      rw [List.length_map] at d1
      have hA4 := e4 _ _ nAp hA3
      have hl4 := e4 _ _ nlp hl3
      refine g_popAt hA4 d0 d1 (by omega) fun nm hnmk => ?_
      fail "go"
      have hk4 : d.toNat < rem.length := (List.getElem?_eq_some_iff.mp hnmk).1
      have x4 := hp4.exn (ExB.refl pen H4)
      have hl5 : (upd H4 nmA (.lst ((rem.eraseIdx d.toNat).map nmv))) l = some (.lst (rfs as)) := by rw [upd_ne nlA.symm]; exact hl4
      have hA5 : (upd H4 nmA (.lst ((rem.eraseIdx d.toNat).map nmv))) nmA = some (.lst ((rem.eraseIdx d.toNat).map nmv)) := upd_same
      have hp5 := hp4.put (o := .lst ((rem.eraseIdx d.toNat).map nmv)) nAp nAL
      have b5 : ExB pen H (upd H4 nmA (.lst ((rem.eraseIdx d.toNat).map nmv))) := (b3.trans e4).mut nn
      have has5 : All2 (RowF l (upd H4 nmA (.lst ((rem.eraseIdx d.toNat).map nmv)))) as rows := has.imp fun _ a r ⟨few, q1, q2, q3, q4⟩ => by
        have na1 : a ≠ nmA := fun q => by
          rw [q, hA3] at q3
          have e := Option.some.inj q3
          injection e with e
          have := congrArg List.length e
          rw [List.length_map] at this
          have h6 : (rwF r few).length = 6 := rfl
          omega
        have na2 : a ≠ pen := fun q => by
          obtain ⟨⟨pl, rest, hh, _⟩, _, _⟩ := hp3
          rw [q, hh] at q3
          have e := Option.some.inj q3
          injection e with e
          cases e
        have nf2 : few ≠ pen := fun q => by
          obtain ⟨⟨pl, rest, hh, _⟩, _, _⟩ := hp3
          rw [q, hh] at q4
          have e := Option.some.inj q4
          injection e with e
          cases hp : r.parts with
          | nil => rw [hp] at e; cases e
          | cons y ys => rw [hp] at e; cases e
        have nf1 : few ≠ nmA := fun q => by
          rw [q, hA3] at q4
          have e := Option.some.inj q4
          injection e with e
          cases hr : rem with
          | nil => rw [hr] at hrl; simp at hrl; omega
          | cons y ys =>
            rw [hr] at e
            cases hp : r.parts with
            | nil => rw [hp] at e; cases e
            | cons z zs => rw [hp] at e; cases e
        exact ⟨few, q1, q2, by rw [upd_ne na1]; exact e4 _ _ na2 q3, by rw [upd_ne nf1]; exact e4 _ _ nf2 q4⟩
      revert hl5 hA5 hp5 b5 has5
      generalize upd H4 nmA (.lst ((rem.eraseIdx d.toNat).map nmv)) = H5
      intro hl5 hA5 hp5 b5 has5
      refine ⟨pen, L, n, _, nm, rfl, hnm nm (List.mem_of_getElem? hnmk), hn1, hn2, hp5, by omega, fun a few r H6 e6 hp6 na nf ha6 hf6 rok rnm rpl => ?_⟩
      fail "go"
      have hl6 := e6 _ _ nlp hl5
      refine g_app hl6 (by rw [List.length_map]; omega) ?_
      fail "go"
      have nal : a ≠ l := fun q => by rw [q, hl5] at na; cases na
      have nfl : few ≠ l := fun q => by rw [q, hl5] at nf; cases nf
      refine ⟨_, rem.eraseIdx d.toNat, as ++ [a], rows ++ [r], rfl, (b5.trans e6).mut nl0, (hp6.put nlp nlL).le (by omega), by rw [upd_ne nlA]; exact e6 _ _ nAp hA5, by rw [upd_same]; simp [rfs], ?_, ?_, ?_, fun y hy => hnm y ((List.eraseIdx_sublist rem d.toNat).subset hy), ?_, by simp [hrc]⟩
      · refine All2.snoc (has5.imp fun _ a r ⟨few, q1, q2, q3, q4⟩ => ?_) ⟨few, nal, nfl, by rw [upd_ne nal]; exact ha6, by rw [upd_ne nfl]; exact hf6⟩
        have na2 : a ≠ pen := fun q => by
          obtain ⟨⟨pl, rest, hh, _⟩, _, _⟩ := hp5
          rw [q, hh] at q3
          have e := Option.some.inj q3
          injection e with e
          cases e
        have nf2 : few ≠ pen := fun q => by
          obtain ⟨⟨pl, rest, hh, _⟩, _, _⟩ := hp5
          rw [q, hh] at q4
          have e := Option.some.inj q4
          injection e with e
          cases hp : r.parts with
          | nil => rw [hp] at e; cases e
          | cons y ys => rw [hp] at e; cases e
        exact ⟨few, q1, q2, by rw [upd_ne q1]; exact e6 _ _ na2 q3, by rw [upd_ne q2]; exact e6 _ _ nf2 q4⟩
      · intro q hq
        rcases List.mem_append.mp hq with q1 | q1
        · exact hrows q q1
        · have e : q = r := by simpa using q1
          subst e
          exact ⟨rok, rpl⟩
      · rw [List.map_append]
        have pm : (rem[d.toNat] :: rem.eraseIdx d.toNat).Perm rem := erase_perm hk4
        have en : rem[d.toNat] = nm := by
          rw [List.getElem?_eq_getElem hk4] at hnmk
          exact Option.some.inj hnmk
        rw [en] at pm
        have p2 : (rows.map (·.name) ++ (nm :: rem.eraseIdx d.toNat)).Nodup := ((pm.append_left (rows.map (·.name))).nodup_iff).mpr hnd
        show ((rows.map (·.name) ++ [r.name]) ++ rem.eraseIdx d.toNat).Nodup
        rw [rnm, List.append_assoc]
        exact p2
      · rw [List.length_eraseIdx, if_pos hk4]
        omega
    · rintro σ H3 ⟨z, rem, as, rows, rfl, b3, hp3, hA3, hl3, has, hrows, hnd, hnm, hrl, hrc⟩
      rw [ivs_len] at hrc
      fail "go"
      refine k l as rows H3 b3 hl3 (has.imp fun _ a r ⟨few, q1, q2, q3, q4⟩ => ⟨few, q3, q4⟩) ⟨hn1, hn2, by omega, hrows, (List.nodup_append.mp hnd).1⟩
end
end PN

/-! A hole and its turned one. -/
namespace PN
set_option maxRecDepth 100000
set_option maxHeartbeats 4000000
open PySem PySem.Spec PyProof.Rows L2
open Evl (Ex Ex.new Ex.mut ex_l ex_t fresh_back)
-- MACROS
local macro_rules | `(tactic| fail "in") => `(tactic| dsimp only [cxOf, Cx.nox, Cx.wish, L2.start, List.map, List.length_cons, List.length_nil, Nat.reduceAdd, Nat.reduceSub, List.replicate_succ, List.replicate_zero, List.cons_append, List.nil_append, List.append_nil])
local macro_rules | `(tactic| fail "ds") => `(tactic| dsimp only [List.set_cons_zero, List.set_cons_succ, List.cons_append, List.nil_append, List.append_nil])
local macro_rules | `(tactic| fail "ex") => `(tactic| first | exact exr _ | assumption | (refine ext ?_ (by assumption); fail "ex") | (refine ext ?_ (Ex.new (by assumption)); fail "ex") | (refine Ex.mut ?_ (by assumption); fail "ex"))
local macro_rules | `(tactic| fail "st") => `(tactic| first | assumption | (refine StAt.mono (by assumption) ?_; fail "ex"))
local macro_rules | `(tactic| fail "ho") => `(tactic| first | assumption | (refine HoleAt.mono (by assumption) ?_; fail "ex"))
local macro_rules | `(tactic| fail "si") => `(tactic| first | assumption | (refine SiteAt.mono (by assumption) ?_; fail "ex"))
local macro_rules | `(tactic| fail "bo") => `(tactic| first | assumption | (refine BoardAt.mono (by assumption) ?_; fail "ex"))
local macro_rules | `(tactic| fail "go1") => `(tactic| with_reducible first
  | apply g_seq | apply g_next | apply g_ret | apply g_drop | apply g_asg | apply g_asg2 | apply g_ifs | (refine g_var (by with_unfolding_all rfl) ?_) | apply g_c | apply g_op | apply g_rI0 | apply g_eqI | apply g_neI | apply g_eqS | apply g_neS
  | apply g_test | apply g_B | apply g_bl | apply g_and | apply g_or | apply g_not | apply g_andV | apply g_orV | apply g_notV | apply g_ife | apply g_nil | apply g_cons | apply g_call | apply g_mkSt | apply g_make | apply g_cb | apply g_bm | apply g_fld | apply g_con | apply g_met | apply g_chain | apply g_put | apply g_tup | apply g_lst
  | apply g_isI | apply g_isB | apply g_isS | apply g_isNon | apply g_notNon | apply g_str | apply g_inS | apply g_notInS | apply g_un | apply g_sl | apply g_pn | apply g_ps | apply g_in | apply g_for | apply g_iL | apply g_iT | apply g_iS | apply g_iR1 | apply g_iR2 | apply g_lc | apply w_S | apply c_S | apply g_yes | apply g_par | apply g_two | (refine g_aug (by with_unfolding_all rfl) ?_) | apply g_ipI | apply g_mkK | apply g_star | apply g_mkSK | apply g_revS | apply g_revT | apply g_revL | apply g_cmK | apply m_cmK | apply g_lc2 | apply g_lenSet
  | apply iteT | apply iteF | (refine y_if (by decide) ?_) | (refine n_if (by decide) ?_)
  | (refine sp_within (by fail "st") (by fail "st") ?_) | (refine met_St (by fail "st") (by decide +kernel) (by decide +kernel) ?_)
  | (refine r_must (by assumption) (by fail "ho") ?_; intro m hm) | (refine r_may (by assumption) (by fail "ho") ?_; intro m hm) | (refine r_site (by assumption) (by fail "ho") ?_) | (refine r_number (by assumption) (by fail "ho") ?_) | (refine r_hdepth (by assumption) (by fail "ho") ?_) | (refine r_hpat (by assumption) (by fail "ho") ?_) | (refine r_kind (by assumption) (by fail "ho") ?_)
  | (refine r_sname (by assumption) (by fail "si") ?_) | (refine r_spic (by assumption) (by fail "si") ?_) | (refine r_skind (by assumption) (by fail "si") ?_) | (refine r_sdepth (by assumption) (by fail "si") ?_) | (refine r_spat (by assumption) (by fail "si") ?_) | (refine r_sparts (by assumption) (by fail "si") ?_; intro pt hpt) | (refine r_sholes (by assumption) (by fail "si") ?_; intro hl has hhl hhas)
  | (refine r_blayers (by assumption) (by fail "bo") ?_) | (refine r_bsites (by assumption) (by fail "bo") ?_; intro st sts hst hsts) | (refine r_bholes (by assumption) (by fail "bo") ?_; intro bl bhs hbl hbhs)
  | (refine r_low (by assumption) (by fail "st") ?_) | (refine r_high (by assumption) (by fail "st") ?_))
local macro_rules | `(tactic| fail "go") => `(tactic| ((repeat (first | fail "go1" | (fail "ds"; fail "go1"))); (try fail "ds")))
local macro_rules | `(tactic| fail "sz") => `(tactic| (refine Evl.sz_of ?_; simp only [List.length_cons, List.length_nil, List.length_append, List.length_map, List.length_take, List.length_drop]; omega))
-- END MACROS
theorem way_ok (w : Way) : PyData.strOk w.str = true := by cases w <;> decide +kernel
theorem kd_ok (k : Kd) : PyData.strOk k.str = true := by cases k <;> decide +kernel
theorem name_ok {n : List Nat} (h : ∀ c ∈ n, 97 ≤ c ∧ c ≤ 122) : PyData.strOk (S n) = true := by
  unfold PyData.strOk
  rw [Array.all_eq_true_iff_forall_mem]
  intro c hc
  have hc : c ∈ n := by simpa [S, SX.S] using hc
  have := h c hc
  exact decide_eq_true (by omega)
/-! ### sorted texts -/
def leS (a b : Str) : Prop := a.cps.toList ≤ b.cps.toList
theorem rising_pw : ∀ (l : List Str) (p : Str), risingS p l = true → (p :: l).Pairwise leS
  | [], p, _ => by simp
  | x :: r, p, h => by
    have h : (!ltCps x.cps.toList p.cps.toList && risingS x r) = true := h
    rw [Bool.and_eq_true, Bool.not_eq_true', ltCps_eq, decide_eq_false_iff_not] at h
    have h1 : leS p x := List.not_lt.mp h.1
    have ih := rising_pw r x h.2
    refine List.pairwise_cons.mpr ⟨fun y hy => ?_, ih⟩
    rcases List.mem_cons.mp hy with e | e
    · rw [e]
      exact h1
    · exact List.le_trans h1 ((List.pairwise_cons.mp ih).1 y e)
theorem sorted_pw : ∀ (l : List Str), sortedS l = true → l.Pairwise leS
  | [], _ => List.Pairwise.nil
  | x :: r, h => rising_pw r x h
theorem sorted_eq {ys zs : List Str} (h1 : sortedS ys = true) (h2 : sortedS zs = true) (p : ys.Perm zs) : ys = zs := by
  refine List.Perm.eq_of_pairwise (le := leS) (fun a b _ _ q1 q2 => ?_) (sorted_pw ys h1) (sorted_pw zs h2) p
  have e := List.le_antisymm q1 q2
  obtain ⟨⟨a⟩⟩ := a
  obtain ⟨⟨b⟩⟩ := b
  have e : a = b := e
  rw [e]
theorem lay_strs : ∀ ns : List Str, (∀ n ∈ ns, PyData.strOk n = true) → PyData.canLayAll0 (ns.map PyData.str) = true
  | [], _ => by simp [PyData.canLayAll0]
  | n :: ns, h => by
    rw [List.map_cons, PyData.canLayAll0, lay_strs ns fun x hx => h x (List.mem_cons_of_mem _ hx)]
    simp [PyData.canLay0, h n List.mem_cons_self]
theorem deep_strs : ∀ ns : List Str, PyData.depthAll (ns.map PyData.str) = 0
  | [] => by simp [PyData.depthAll]
  | n :: ns => by
    rw [List.map_cons, PyData.depthAll, deep_strs ns]
    simp [PyData.depth]
theorem shaped_strs {ns : List Str} (h : ∀ n ∈ ns, PyData.strOk n = true) : SeqAt.shaped (.list (ns.map PyData.str)) = true := by
  unfold SeqAt.shaped
  rw [PyData.canLay0, lay_strs ns h, PyData.depth, deep_strs]
  rfl
theorem dp_strs {K : PySem.W.Frag} {H : Hp} : ∀ ns : List Str, DpAll K H (ns.map V.str) (ns.map PyData.str)
  | [] => .nil
  | n :: ns => .cons (.str n) (dp_strs ns)
section
variable {K : PySem.W.Frag} {mg : Str → Option Value} {H H' : Hp} {Q : VK}
theorem g_sortS {a : Addr} {xs : List Str} (hx : SqL K H a (xs.map V.str)) (hz : xs.length < 64) (h : ∀ ys p, ys.Perm xs → sortedS ys = true → H p = none → Q (.ref p) (upd H p (.lst (ys.map V.str)))) : rSortedS K [.ref a] H Q := ⟨a, xs, rfl, hx, hz, h⟩
theorem g_neStr {a b : Addr} {xs : List Str} (h1 : SqL K H a (xs.map V.str)) (h2 : SqL K H b (xs.map V.str)) (hs : ∀ n ∈ xs, PyData.strOk n = true) (q : Q (.bl false) H) : rNeD K (.ref a) (.ref b) H Q :=
  g_neSame (.lst h1 (dp_strs xs)) (.lst h2 (dp_strs xs)) (shaped_strs hs) q
theorem g_neSt {a b : Addr} {s : Int × Int} (h1 : StAt K H a s) (h2 : StAt K H b s) (q : Q (.bl false) H) : rNeOwn (c_Stretch K) (spStEq K) E0 (.ref a) (.ref b) H Q := by
  obtain ⟨dx, g1⟩ := id h1
  obtain ⟨dy, g2⟩ := id h2
  refine ⟨a, b, dx, _, dy, _, rfl, rfl, g1, g2, a, b, s, s, rfl, h1, h2, true, ?_, q⟩
  rw [decide_eq_true rfl]
theorem met_Ho {E : XK} {m : Str} {t : TA} {sp : Sp} {dvs : List V} {σ : L2.St} {a : Addr} {kd : Kd} {c : Cut} {name : Str} {num depth pat : Int} (h : HoleAt K H a kd c name num depth pat)
    (h1 : (m == ("must" : Str)) = false) (h2 : (m == ("may" : Str)) = false) (h3 : (m == ("site" : Str)) = false) (h4 : (m == ("number" : Str)) = false) (h5 : (m == ("depth" : Str)) = false) (h6 : (m == ("patience" : Str)) = false)
    (q : t σ H fun vs H2 => sp (.ref a :: (vs ++ dvs)) H2 Q E) : rMet (kd.cls K) m t sp dvs E (.ref a) σ H Q := by
  obtain ⟨dx, mm, y, g, _⟩ := h
  exact ⟨a, dx, _, rfl, g, ho_no h1 h2 h3 h4 h5 h6, q⟩
end
section
variable {P : Program} {w : World} {K : PySem.W.Frag} {mg : Str → Option Value} {base : Heap}
def spLTurned (K : PySem.W.Frag) : Sp := fun vs H Q _ => ∃ (h o sm : Addr) (n : Int) (kd : Kd) (c : Cut) (name : Str) (num num2 d pat : Int) (as : List Addr), vs = [.ref h, .ref o, .ref sm, .int n] ∧ HoleAt K H h kd c name num d pat ∧ HoleAt K H o kd (turn n c.1, turn n c.2) name num2 d pat ∧
  CutIn n c ∧ n ≤ 6 ∧ PyData.strOk name = true ∧ SqL K H sm (rfs as) ∧ PiecesAt K H as n ∧ ∀ H', Ex H H' → Q (.bl true) H'
theorem sc_law_turned : FnScope ["_law_hole", "_law_other_here", "_law_some", "_law_many", "_law_piece", "_law_turned_piece", "_law_ways", "_law_way"] ["_law_hole", "_law_other_here", "_law_some", "_law_many"] (defScope s_law_turned) := C8.fnScope_by (by decide +kernel)
theorem ok_law_turned (hP : P = prg) (T : TX K mg) : C8.Cal P w K mg base 9 "_law_turned" (spLTurned K) [] := by
  refine calD T.d_law_turned T.g_law_turned sc_law_turned (fun _ _ _ _ _ _ us hl => match us, hl with | [_, _, _, _], _ => rfl) (fun vs H Q E h => ?_) (fun cdv A outer s H vs Q E hr h => ?_)
  · obtain ⟨h, o, sm, n, kd, c, name, num, num2, d, pat, as, rfl, _⟩ := h
    rfl
  · obtain ⟨h, o, sm, n, kd, c, name, num, num2, d, pat, as, rfl, hh, ho, ⟨c1, c2, c3, c4, c5⟩, hn, hname, hsm, hpc, k⟩ := h
    refine ⟨_, (pss_cons (ps_if (PW.pt (pw_or (pt_cmpR (op_neOwn T.eq_Stretch (fr_stretch_eq T) (hr.mono (by decide)) pass0) (pe_fld (pv 1) rfl) (C8.pe_mt (ok_stretch_turned T) hr (by decide) (pe_fld (pv 0) rfl) (pa_cons (pv 3) pa_nil)) (nomark _)) (pw_or1 (pt_cmpR (op_neOwn T.eq_Stretch (fr_stretch_eq T) (hr.mono (by decide)) pass0) (pe_fld (pv 1) rfl) (C8.pe_mt (ok_stretch_turned T) hr (by decide) (pe_fld (pv 0) rfl) (pa_cons (pv 3) pa_nil)) (nomark _))))) pss_never pss_nil)
      (pss_cons (ps_if (pt_cmpR (op_neD hr.units) (pe_lst (pa_cons (pe_fld (pv 1) rfl) (pa_cons (pe_fld (pv 1) rfl) (pa_cons (pe_fld (pv 1) rfl) (pa_cons (pe_con (pv 1) rfl) pa_nil))))) (pe_lst (pa_cons (pe_fld (pv 0) rfl) (pa_cons (pe_fld (pv 0) rfl) (pa_cons (pe_fld (pv 0) rfl) (pa_cons (pe_con (pv 0) rfl) pa_nil))))) (nomark _)) pss_never pss_nil)
      (pss_cons (ps_for PassesOwn.never rfl (pi_list (pv 2)) (pg_name (i := 4) sc_law_turned.nd rfl (by first | exact Or.inl rfl | exact Or.inr rfl)) (pss_cons (ps_set (i := 5) sc_law_turned.nd rfl (by first | exact Or.inl rfl | exact Or.inr rfl) (C8.pe_mt (ok_stretch_turned T) hr (by decide) (pv 4) (pa_cons (pv 3) pa_nil)))
      (pss_cons (ps_set (i := 6) sc_law_turned.nd rfl (by first | exact Or.inl rfl | exact Or.inr rfl) (C8.pe_mt (ok_hole_sides hP T kd) hr (by decide) (pv 0) (pa_cons (pv 4) pa_nil)))
      (pss_cons (ps_if (pt_cmpR (op_neD hr.units) (pe_callB cr_sortedS (by rfl) T.b_sorted (by decide +kernel) (pa_cons (pe_lc (own := [("_law_way", 7)]) (g := gName 7) (tt := tYes) (te := (tCall spOther [] C8.E0 (tCons (tVar 7) tNil))) (by rfl) sc_law_turned.nd (pi_tup (pv 6)) (blkOk_by (own := [("_law_way", 7)]) (N := ["_law_hole", "_law_other_here", "_law_some", "_law_many", "_law_piece", "_law_turned_piece", "_law_ways", "_law_way"]) (sc := defScope s_law_turned) (by decide +kernel)) (fun _ _ _ _ _ => (pg_name (i := 7) sc_law_turned.nd rfl (by first | exact Or.inl rfl | exact Or.inr rfl))) (fun _ _ _ _ _ => pts_nil) (fun _ _ _ _ _ => (C8.pe_c (ok_law_other T) hr (by decide) (by rfl) (pa_cons (pv 7) pa_nil)))) pa_nil)) (pe_callB cr_sortedS (by rfl) T.b_sorted (by decide +kernel) (pa_cons (pe_callTy call_listQ (by rfl) T.b_list (by decide +kernel) (pa_cons (C8.pe_mt (ok_hole_sides hP T kd) hr (by decide) (pv 1) (pa_cons (pv 5) pa_nil)) pa_nil)) pa_nil)) (nomark _)) pss_never pss_nil)
      (pss_one (ps_for PassesOwn.never rfl (pi_tup (pv 6)) (pg_name (i := 7) sc_law_turned.nd rfl (by first | exact Or.inl rfl | exact Or.inr rfl)) (pss_one (ps_if (pt_cmpR (op_neOwn T.eq_Stretch (fr_stretch_eq T) (hr.mono (by decide)) pass0) (C8.pe_mt (ok_hole_barrel hP T kd) hr (by decide) (pv 1) (pa_cons (pv 5) (pa_cons (C8.pe_c (ok_law_other T) hr (by decide) (by rfl) (pa_cons (pv 7) pa_nil)) pa_nil))) (C8.pe_mt (ok_stretch_turned T) hr (by decide) (C8.pe_mt (ok_hole_barrel hP T kd) hr (by decide) (pv 0) (pa_cons (pv 4) (pa_cons (pv 7) pa_nil))) (pa_cons (pv 3) pa_nil)) (nomark _)) pss_never pss_nil))))))))
      (pss_one (ps_ret pe_bl))))), ?_⟩
    fail "in"
    fail "go"
    refine ⟨_, n, c.1, rfl, by fail "st", by omega, by omega, by omega, by omega, fun x1 H1 e1 hx1 => ?_⟩
    fail "go"
    refine g_neSt (s := turn n c.1) (by fail "st") (by fail "st") ?_
    fail "go"
    refine ⟨_, n, c.2, rfl, by fail "st", by omega, by omega, by omega, by omega, fun x2 H2 e2 hx2 => ?_⟩
    fail "go"
    refine g_neSt (s := turn n c.2) (by fail "st") (by fail "st") ?_
    fail "go"
    refine ⟨by fail "sz", fun l1 n1 => ?_⟩
    fail "go"
    refine ⟨by fail "sz", fun l2 n2 => ?_⟩
    fail "go"
    have hL1 : (upd H2 l1 (.lst [.str name, .int d, .int pat, .str kd.str])) l1 = some (.lst [.str name, .int d, .int pat, .str kd.str]) := upd_same
    have e4 : Ex (upd H2 l1 (.lst [.str name, .int d, .int pat, .str kd.str])) (upd (upd H2 l1 (.lst [.str name, .int d, .int pat, .str kd.str])) l2 (.lst [.str name, .int d, .int pat, .str kd.str])) := Ex.new n2
    have e03 : Ex H (upd (upd H2 l1 (.lst [.str name, .int d, .int pat, .str kd.str])) l2 (.lst [.str name, .int d, .int pat, .str kd.str])) := ext e1 (ext e2 (ext (Ex.new n1) e4))
    have dp : DpAll K (upd (upd H2 l1 (.lst [.str name, .int d, .int pat, .str kd.str])) l2 (.lst [.str name, .int d, .int pat, .str kd.str])) [.str name, .int d, .int pat, .str kd.str] [.str name, .int d, .int pat, .str kd.str] := .cons (.str _) (.cons (.int _) (.cons (.int _) (.cons (.str _) .nil)))
    refine g_neSame (.lst (.inl (.inl (e4 _ _ hL1))) dp) (.lst (.inl (.inl upd_same)) dp) ?_ ?_
    · unfold SeqAt.shaped
      simp [PyData.canLay0, PyData.canLayAll0, PyData.depth, PyData.depthAll, hname, kd_ok]
    revert e03
    generalize upd (upd H2 l1 (.lst [.str name, .int d, .int pat, .str kd.str])) l2 (.lst [.str name, .int d, .int pat, .str kd.str]) = H3
    intro e03
    fail "go"
    refine w_L (ex_l e03 hsm) ?_
    refine loop_by it_l (fun i σ H' => ∃ z4 z5 z6 z7, σ = [some (.ref h), some (.ref o), some (.ref sm), some (.int n), z4, z5, z6, z7] ∧ Ex H H') ⟨_, _, _, _, rfl, e03⟩ (fun i σ H' _ ⟨_, _, _, _, _, e⟩ => ex_l e hsm) ?_ ?_
    · rintro i x σ H4 hi ⟨z4, z5, z6, z7, rfl, e5⟩
      obtain ⟨a, ha, rfl⟩ := rf_at hi
      obtain ⟨st, hst, s1, s2, s3⟩ := hpc.2 a (List.mem_of_getElem? ha)
      show tSeq _ _ _ _ _
      fail "go"
      refine ⟨a, n, st, rfl, by fail "st", s1, s2, s3, by omega, fun tp H5 e6 htp => ?_⟩
      fail "go"
      have hh5 : HoleAt K H5 h kd c name num d pat := by fail "ho"
      refine met_Ho hh5 (by decide +kernel) (by decide +kernel) (by decide +kernel) (by decide +kernel) (by decide +kernel) (by decide +kernel) ?_
      fail "go"
      refine ⟨h, a, c, name, num, d, pat, st, rfl, hh5, by fail "st", fun ws H6 e7 hws => ?_⟩
      fail "go"
      refine c_T hws ?_
      refine lc_by (H := H6) it_t (fun H7 e => exn_u (exn e) hws) (by rw [List.length_map]; have := ways_len kd c d st; omega) (fun j ys _ => ys = (((waysM kd c d st).take j).map fun w => w.other.str).map V.str) rfl (fun _ _ _ _ _ h => h) (fun x => rfl) ?_ ?_
      · rintro j x ys H7 hj e8 rfl no yes hno hyes
        rw [List.getElem?_map] at hj
        obtain ⟨wy, hwy, rfl⟩ : ∃ wy, (waysM kd c d st)[j]? = some wy ∧ x = wv wy := by
          cases q : (waysM kd c d st)[j]? with
          | none => rw [q] at hj; cases hj
          | some wy =>
            rw [q] at hj
            exact ⟨wy, rfl, (Option.some.inj hj).symm⟩
        fail "go"
        refine ⟨wy, rfl, ?_⟩
        refine hyes _ _ (exr _) ?_
        rw [take_snoc hwy, List.map_append, List.map_append]
        rfl
      rintro D ys H7 nD e8 hD rfl
      rw [List.length_map, List.take_length] at hD
      fail "go"
      refine g_sortS (xs := (waysM kd c d st).map fun w => w.other.str) (.inl (.inl hD)) (by rw [List.length_map]; have := ways_len kd c d st; omega) fun ys sp1 py hys nsp1 => ?_
      fail "go"
      have e9 : Ex H7 (upd H7 sp1 (.lst (ys.map V.str))) := Ex.new nsp1
      have hsp1 : (upd H7 sp1 (.lst (ys.map V.str))) sp1 = some (.lst (ys.map V.str)) := upd_same
      revert e9 hsp1
      generalize upd H7 sp1 (.lst (ys.map V.str)) = H8
      intro e9 hsp1
      have ho8 : HoleAt K H8 o kd (turn n c.1, turn n c.2) name num2 d pat := ho.mono (ext e5 (ext e6 (ext e7 (ext e8 e9))))
      refine met_Ho ho8 (by decide +kernel) (by decide +kernel) (by decide +kernel) (by decide +kernel) (by decide +kernel) (by decide +kernel) ?_
      fail "go"
      refine ⟨o, tp, (turn n c.1, turn n c.2), name, num2, d, pat, turn n st, rfl, ho8, htp.mono (ext e7 (ext e8 e9)), fun wo H9 e10 hwo => ?_⟩
      fail "go"
      refine g_listU hwo fun wl nwl => ?_
      fail "go"
      have hwl : (upd H9 wl (.lst ((waysM kd (turn n c.1, turn n c.2) d (turn n st)).map wv))) wl = some (.lst (((waysM kd (turn n c.1, turn n c.2) d (turn n st)).map Way.str).map V.str)) := by
        rw [upd_same, List.map_map]
        rfl
      have e11 : Ex H9 (upd H9 wl (.lst ((waysM kd (turn n c.1, turn n c.2) d (turn n st)).map wv))) := Ex.new nwl
      refine g_sortS (xs := (waysM kd (turn n c.1, turn n c.2) d (turn n st)).map Way.str) (.inl (.inl hwl)) (by rw [List.length_map]; have := ways_len kd (turn n c.1, turn n c.2) d (turn n st); omega) fun zs sp2 pz hzs nsp2 => ?_
      fail "go"
      have pm : ((waysM kd c d st).map fun w => w.other.str).Perm ((waysM kd (turn n c.1, turn n c.2) d (turn n st)).map Way.str) := by
        have := (ways_turn kd n c d st).map Way.str
        rw [List.map_map] at this
        exact this
      have eyz : ys = zs := sorted_eq hys hzs (py.trans (pm.trans pz.symm))
      have hok : ∀ x ∈ ys, PyData.strOk x = true := fun x hx => by
        obtain ⟨w, _, rfl⟩ := List.mem_map.mp (py.subset hx)
        exact way_ok w.other
      refine g_neStr (xs := ys) (.inl (.inl ((ext e10 (ext e11 (Ex.new nsp2))) _ _ hsp1))) (.inl (.inl (by rw [upd_same, eyz]))) hok ?_
      fail "go"
      have e12 : Ex H6 (upd (upd H9 wl (.lst ((waysM kd (turn n c.1, turn n c.2) d (turn n st)).map wv))) sp2 (.lst (zs.map V.str))) := ext e8 (ext e9 (ext e10 (ext e11 (Ex.new nsp2))))
      revert e12
      generalize upd (upd H9 wl (.lst ((waysM kd (turn n c.1, turn n c.2) d (turn n st)).map wv))) sp2 (.lst (zs.map V.str)) = H10
      intro e12
      have e4a : Ex H H10 := ext e5 (ext e6 (ext e7 e12))
      have hws10 := exn_u (exn e12) hws
      have htp10 := htp.mono (ext e7 e12)
      refine w_T hws10 ?_
      refine loop_by it_t (fun j σ H' => ∃ z7, σ = [some (.ref h), some (.ref o), some (.ref sm), some (.int n), some (.ref a), some (.ref tp), some (.ref ws), z7] ∧ Ex H10 H') ⟨_, rfl, exr _⟩ (fun j σ H' _ ⟨_, _, e⟩ => exn_u (exn e) hws10) ?_ ?_
      · rintro j x σ H11 hj ⟨z7, rfl, e13⟩
        rw [List.getElem?_map] at hj
        obtain ⟨wy, hwy, rfl⟩ : ∃ wy, (waysM kd c d st)[j]? = some wy ∧ x = wv wy := by
          cases q : (waysM kd c d st)[j]? with
          | none => rw [q] at hj; cases hj
          | some wy =>
            rw [q] at hj
            exact ⟨wy, rfl, (Option.some.inj hj).symm⟩
        have win := ways_in (List.mem_of_getElem? hwy)
        have ho11 : HoleAt K H11 o kd (turn n c.1, turn n c.2) name num2 d pat := ho.mono (ext e4a e13)
        have hh11 : HoleAt K H11 h kd c name num d pat := hh.mono (ext e4a e13)
        have hst11 : StAt K H11 a st := hst.mono (ext e4a e13)
        show tIfS _ _ _ _ _ _
        fail "go"
        refine met_Ho ho11 (by decide +kernel) (by decide +kernel) (by decide +kernel) (by decide +kernel) (by decide +kernel) (by decide +kernel) ?_
        fail "go"
        refine ⟨wy, rfl, ?_⟩
        fail "go"
        have wl1 : WellIn c.1 st wy := ⟨by omega, by omega, by omega, by omega, by omega, by omega, win⟩
        have wl2 : WellIn (turn n c.1) (turn n st) wy.other := by
          refine ⟨by show 1 ≤ n + 1 - c.1.2; omega, by show n + 1 - c.1.2 ≤ n + 1 - c.1.1; omega, by show n + 1 - c.1.1 ≤ 99; omega, by show 1 ≤ n + 1 - st.2; omega, by show n + 1 - st.2 ≤ n + 1 - st.1; omega, by show n + 1 - st.1 ≤ 99; omega, ?_⟩
          rcases win with q | q
          · subst q
            exact .inl rfl
          · exact .inr ⟨by show n + 1 - st.2 ≤ n + 1 - c.1.2; omega, by show n + 1 - c.1.1 ≤ n + 1 - st.1; omega⟩
        refine ⟨o, tp, (turn n c.1, turn n c.2), name, num2, d, pat, turn n st, wy.other, rfl, ho11, htp10.mono e13, wl2, fun b1 H12 e14 hb1 => ?_⟩
        fail "go"
        have hh12 := hh11.mono e14
        refine met_Ho hh12 (by decide +kernel) (by decide +kernel) (by decide +kernel) (by decide +kernel) (by decide +kernel) (by decide +kernel) ?_
        fail "go"
        refine ⟨h, a, c, name, num, d, pat, st, wy, rfl, hh12, hst11.mono e14, wl1, fun b2 H13 e15 hb2 => ?_⟩
        fail "go"
        have bb : 1 ≤ (barrelM c.1 st wy).1 ∧ (barrelM c.1 st wy).1 ≤ (barrelM c.1 st wy).2 ∧ (barrelM c.1 st wy).2 ≤ n := by
          rcases win with q | ⟨q1, q2⟩
          · subst q
            exact ⟨s1, s2, s3⟩
          · cases wy with
            | thr => exact ⟨s1, s2, s3⟩
            | up => exact ⟨s1, by show st.1 ≤ c.1.2; omega, by show c.1.2 ≤ n; omega⟩
            | dn => exact ⟨by show 1 ≤ c.1.1; omega, by show c.1.1 ≤ st.2; omega, s3⟩
        refine ⟨b2, n, barrelM c.1 st wy, rfl, hb2, bb.1, bb.2.1, bb.2.2, by omega, fun b3 H14 e16 hb3 => ?_⟩
        fail "go"
        refine g_neSt (s := turn n (barrelM c.1 st wy)) ?_ hb3 ?_
        · rw [← barrel_turn]
          exact hb1.mono (ext e15 e16)
        fail "go"
        exact ⟨_, rfl, ext e13 (ext e14 (ext e15 e16))⟩
      · rintro σ H11 ⟨z7, rfl, e13⟩
        exact ⟨_, _, _, _, rfl, ext e4a e13⟩
    · rintro σ H4 ⟨z4, z5, z6, z7, rfl, e5⟩
      fail "go"
      exact k _ e5
end
end PN

/-! A board and its turned one. -/
namespace PN
set_option maxRecDepth 100000
set_option maxHeartbeats 4000000
open PySem PySem.Spec PyProof.Rows L2
open Evl (Ex Ex.new Ex.mut ex_l ex_t fresh_back)
-- MACROS
local macro_rules | `(tactic| fail "in") => `(tactic| dsimp only [cxOf, Cx.nox, Cx.wish, L2.start, List.map, List.length_cons, List.length_nil, Nat.reduceAdd, Nat.reduceSub, List.replicate_succ, List.replicate_zero, List.cons_append, List.nil_append, List.append_nil])
local macro_rules | `(tactic| fail "ds") => `(tactic| dsimp only [List.set_cons_zero, List.set_cons_succ, List.cons_append, List.nil_append, List.append_nil])
local macro_rules | `(tactic| fail "ex") => `(tactic| first | exact exr _ | assumption | (refine ext ?_ (by assumption); fail "ex") | (refine ext ?_ (Ex.new (by assumption)); fail "ex") | (refine Ex.mut ?_ (by assumption); fail "ex"))
local macro_rules | `(tactic| fail "st") => `(tactic| first | assumption | (refine StAt.mono (by assumption) ?_; fail "ex"))
local macro_rules | `(tactic| fail "ho") => `(tactic| first | assumption | (refine HoleAt.mono (by assumption) ?_; fail "ex"))
local macro_rules | `(tactic| fail "si") => `(tactic| first | assumption | (refine SiteAt.mono (by assumption) ?_; fail "ex"))
local macro_rules | `(tactic| fail "bo") => `(tactic| first | assumption | (refine BoardAt.mono (by assumption) ?_; fail "ex"))
local macro_rules | `(tactic| fail "go1") => `(tactic| with_reducible first
  | apply g_seq | apply g_next | apply g_ret | apply g_drop | apply g_asg | apply g_asg2 | apply g_ifs | (refine g_var (by with_unfolding_all rfl) ?_) | apply g_c | apply g_op | apply g_rI0 | apply g_eqI | apply g_neI | apply g_eqS | apply g_neS
  | apply g_test | apply g_B | apply g_bl | apply g_and | apply g_or | apply g_not | apply g_andV | apply g_orV | apply g_notV | apply g_ife | apply g_nil | apply g_cons | apply g_call | apply g_mkSt | apply g_make | apply g_cb | apply g_bm | apply g_fld | apply g_con | apply g_met | apply g_chain | apply g_put | apply g_tup | apply g_lst
  | apply g_isI | apply g_isB | apply g_isS | apply g_isNon | apply g_notNon | apply g_str | apply g_inS | apply g_notInS | apply g_un | apply g_sl | apply g_pn | apply g_ps | apply g_in | apply g_for | apply g_iL | apply g_iT | apply g_iS | apply g_iR1 | apply g_iR2 | apply g_lc | apply w_S | apply c_S | apply g_yes | apply g_par | apply g_two | (refine g_aug (by with_unfolding_all rfl) ?_) | apply g_ipI | apply g_mkK | apply g_star | apply g_mkSK | apply g_revS | apply g_revT | apply g_revL | apply g_cmK | apply m_cmK | apply g_lc2 | apply g_lenSet
  | apply iteT | apply iteF | (refine y_if (by decide) ?_) | (refine n_if (by decide) ?_)
  | (refine sp_within (by fail "st") (by fail "st") ?_) | (refine met_St (by fail "st") (by decide +kernel) (by decide +kernel) ?_)
  | (refine r_must (by assumption) (by fail "ho") ?_; intro m hm) | (refine r_may (by assumption) (by fail "ho") ?_; intro m hm) | (refine r_site (by assumption) (by fail "ho") ?_) | (refine r_number (by assumption) (by fail "ho") ?_) | (refine r_hdepth (by assumption) (by fail "ho") ?_) | (refine r_hpat (by assumption) (by fail "ho") ?_) | (refine r_kind (by assumption) (by fail "ho") ?_)
  | (refine r_sname (by assumption) (by fail "si") ?_) | (refine r_spic (by assumption) (by fail "si") ?_) | (refine r_skind (by assumption) (by fail "si") ?_) | (refine r_sdepth (by assumption) (by fail "si") ?_) | (refine r_spat (by assumption) (by fail "si") ?_) | (refine r_sparts (by assumption) (by fail "si") ?_; intro pt hpt) | (refine r_sholes (by assumption) (by fail "si") ?_; intro hl has hhl hhas)
  | (refine r_blayers (by assumption) (by fail "bo") ?_) | (refine r_bsites (by assumption) (by fail "bo") ?_; intro st sts hst hsts) | (refine r_bholes (by assumption) (by fail "bo") ?_; intro bl bhs hbl hbhs)
  | (refine r_low (by assumption) (by fail "st") ?_) | (refine r_high (by assumption) (by fail "st") ?_))
local macro_rules | `(tactic| fail "go") => `(tactic| ((repeat (first | fail "go1" | (fail "ds"; fail "go1"))); (try fail "ds")))
local macro_rules | `(tactic| fail "sz") => `(tactic| (refine Evl.sz_of ?_; simp only [List.length_cons, List.length_nil, List.length_append, List.length_map, List.length_take, List.length_drop]; omega))
-- END MACROS
section
variable {K : PySem.W.Frag} {mg : Str → Option Value} {H H' : Hp} {Q : VK}
theorem g_neSi {a b : Addr} {r : Row} (h1 : SiteAt K H a r) (h2 : SiteAt K H b r) (q : Q (.bl false) H) : rNeOwn (c_Site K) (spSiteEq K) E0 (.ref a) (.ref b) H Q := by
  obtain ⟨dx, p1, l1, a1, g1, _⟩ := id h1
  obtain ⟨dy, p2, l2, a2, g2, _⟩ := id h2
  exact ⟨a, b, dx, _, dy, _, rfl, rfl, g1, g2, a, b, r, rfl, h1, h2, true, rfl, q⟩
/-- len of a board -/
def rLenBo (K : PySem.W.Frag) : List V → Hp → VK → Prop := fun xs H Q => ∃ a dx fs, xs = [V.ref a] ∧ H a = some (.ins (c_Board K) dx fs) ∧ spBLen K [.ref a] H (fun v H' => ∃ n : Int, v = .int n ∧ 0 ≤ n ∧ n < 2 ^ 63 ∧ Q (.int n) H') E0
theorem call_lenBo {X : Cx} (T : TX K mg) (hr : Room 2 X.A) (hK : X.K = K := by rfl) (hm : X.mg = mg := by rfl) : CallR X (.builtin "len") (rLenBo K) := by
  subst hK hm
  exact call_len_own T.me_board_len (fr_board_len T) hr pass0
theorem g_lenBo {b : Addr} {n : Int} {rows : List Row} (h : BoardAt K H b n rows) (hz : (allHoles rows).length ≤ 1000) (q : Q (.int ((allHoles rows).length : Int)) H) : rLenBo K [.ref b] H Q := by
  obtain ⟨dx, st, hl, sts, hs, g, _⟩ := id h
  exact ⟨b, dx, _, rfl, g, b, n, rows, rfl, h, _, rfl, by omega, by omega, q⟩
theorem g_lenHo {a : Addr} {has : List Addr} {H1 : Hp} {kd : Kd} {name : Str} {d p : Int} {cuts : List Cut} (hx : SqT K H a (rfs has)) (hh : HolesAt K H1 has kd name d p cuts) (q : Q (.int (cuts.length : Int)) H) : rLenQ K [.ref a] H Q := by
  refine g_lenU hx ?_
  rw [List.length_map, hh.1]
  exact q
theorem pic_ok {p : List Nat} (h : PicOk p) : PyData.strOk (S p) = true := by
  unfold PyData.strOk
  rw [Array.all_eq_true_iff_forall_mem]
  intro c hc
  have hc : c ∈ p := by simpa [S, SX.S] using hc
  have := h.ch c hc
  exact decide_eq_true (by omega)
end
section
variable {P : Program} {w : World} {K : PySem.W.Frag} {mg : Str → Option Value} {base : Heap}
def spRight (K : PySem.W.Frag) : Sp := fun vs H Q _ => ∃ (b bk tl sm : Addr) (n : Int) (rows : List Row) (tas as : List Addr), vs = [.ref b, .ref bk, .ref tl, .ref sm] ∧ BoardOk n rows ∧ BoardAt K H b n rows ∧ BoardAt K H bk n (rows.map mirror) ∧ H tl = some (.lst (rfs tas)) ∧ RowsL H tas rows ∧
  SqL K H sm (rfs as) ∧ PiecesAt K H as n ∧ ∀ H', Ex H H' → Q (.bl true) H'
theorem sc_law_right : FnScope ["_law_board", "_law_back", "_law_told", "_law_some", "_law_many", "_law_at", "_law_one", "_law_other_here", "_law_row", "_law_cut_here", "_law_k", "_law_due", "_law_number_here", "_law_last"] ["_law_board", "_law_back", "_law_told", "_law_some"] (defScope s_law_right) := C8.fnScope_by (by decide +kernel)
theorem ok_law_right (hP : P = prg) (T : TX K mg) : C8.Cal P w K mg base 11 "_law_right" (spRight K) [] := by
  refine calD T.d_law_right T.g_law_right sc_law_right (fun _ _ _ _ _ _ us hl => match us, hl with | [_, _, _, _], _ => rfl) (fun vs H Q E h => ?_) (fun cdv A outer s H vs Q E hr h => ?_)
  · obtain ⟨b, bk, tl, sm, n, rows, tas, as, rfl, _⟩ := h
    rfl
  · obtain ⟨b, bk, tl, sm, n, rows, tas, as, rfl, ok, hb, hbk, htl, hrows, hsm, hpc, k⟩ := h
    refine ⟨_, (pss_cons (ps_set (i := 4) sc_law_right.nd rfl (by first | exact Or.inl rfl | exact Or.inr rfl) (pe_fld (pv 0) rfl))
      (pss_cons (ps_if (PW.pt (pw_or (pt_cmpR op_ne (pe_fld (pv 1) rfl) (pv 4) (nomark _)) (pw_or (pt_cmpR op_ne (pe_callB (call_lenBo T (hr.mono (by decide))) (by rfl) T.b_len PySem.boot_len (pa_cons (pv 1) pa_nil)) (pe_callB (call_lenBo T (hr.mono (by decide))) (by rfl) T.b_len PySem.boot_len (pa_cons (pv 0) pa_nil)) (nomark _)) (pw_or1 (pt_cmpR op_ne (pe_callB call_lenQ (by rfl) T.b_len PySem.boot_len (pa_cons (pe_fld (pv 1) rfl) pa_nil)) (pe_callB call_lenQ (by rfl) T.b_len PySem.boot_len (pa_cons (pv 2) pa_nil)) (nomark _)))))) pss_never pss_nil)
      (pss_cons (ps_for PassesOwn.never rfl (pi_range1 (by rfl) T.b_range (pa_cons (pe_callB call_lenQ (by rfl) T.b_len PySem.boot_len (pa_cons (pv 2) pa_nil)) pa_nil)) (pg_name (i := 5) sc_law_right.nd rfl (by first | exact Or.inl rfl | exact Or.inr rfl)) (pss_cons (ps_set (i := 6) sc_law_right.nd rfl (by first | exact Or.inl rfl | exact Or.inr rfl) (pe_ix ix_tup (pe_fld (pv 0) rfl) (pv 5) (fun _ _ => rfl)))
      (pss_cons (ps_set (i := 7) sc_law_right.nd rfl (by first | exact Or.inl rfl | exact Or.inr rfl) (pe_ix ix_tup (pe_fld (pv 1) rfl) (pv 5) (fun _ _ => rfl)))
      (pss_cons (ps_set (i := 8) sc_law_right.nd rfl (by first | exact Or.inl rfl | exact Or.inr rfl) (pe_lst (pa_cons (pe_fld (pv 7) rfl) (pa_cons (pe_fld (pv 7) rfl) (pa_cons (pe_fld (pv 7) rfl) (pa_cons (pe_fld (pv 7) rfl) (pa_cons (pe_fld (pv 7) rfl) (pa_cons (pe_callTy call_listQ (by rfl) T.b_list (by decide +kernel) (pa_cons (pe_fld (pv 7) rfl) pa_nil)) pa_nil))))))))
      (pss_cons (ps_setLc (i := 9) (own := [("_law_k", 10)]) (g := gName 10) (tt := tYes) (te := (tOp (rI0 fun i j => .int (i - j)) (tOp (rI0 fun i j => .int (i + j)) (tVar 4) (tC (.int 1))) (tVar 10))) (by rfl) sc_law_right.nd rfl rfl (sw_true rfl rfl rfl (by decide +kernel)) (pi_list (pe_revL (pe_ix ix_list (pe_ix ix_list (pv 2) (pv 5) (fun _ _ => rfl)) pe_int (fun _ _ => rfl)))) (blkOk_by (own := [("_law_k", 10)]) (N := ["_law_board", "_law_back", "_law_told", "_law_some", "_law_many", "_law_at", "_law_one", "_law_other_here", "_law_row", "_law_cut_here", "_law_k", "_law_due", "_law_number_here", "_law_last"]) (sc := defScope s_law_right) (by decide +kernel)) (fun _ _ _ _ _ => (pg_name (i := 10) sc_law_right.nd rfl (by first | exact Or.inl rfl | exact Or.inr rfl))) (fun _ _ _ _ _ => pts_nil) (fun _ _ _ _ _ => (pe_op op_sub (pe_op op_add (pv 4) pe_int) (pv 10))))
      (pss_cons (ps_set (i := 11) sc_law_right.nd rfl (by first | exact Or.inl rfl | exact Or.inr rfl) (pe_op op_cat (pe_slice sl_list (pe_ix ix_list (pv 2) (pv 5) (fun _ _ => rfl)) po_none (po_some pe_int)) (pe_lst (pa_cons (pe_revS (pe_ix ix_list (pe_ix ix_list (pv 2) (pv 5) (fun _ _ => rfl)) pe_int (fun _ _ => rfl))) pa_nil))))
      (pss_cons (ps_set (i := 11) sc_law_right.nd rfl (by first | exact Or.inl rfl | exact Or.inr rfl) (pe_op op_cat (pe_op op_cat (pv 11) (pe_slice sl_list (pe_ix ix_list (pv 2) (pv 5) (fun _ _ => rfl)) (po_some pe_int) (po_some pe_int))) (pe_lst (pa_cons (pv 9) pa_nil))))
      (pss_cons (ps_if (pt_cmpR (op_neD hr.units) (pv 8) (pv 11) (nomark _)) pss_never pss_nil)
      (pss_cons (ps_if (PW.pt (pw_or (pt_cmpR op_ne (pe_callB call_lenQ (by rfl) T.b_len PySem.boot_len (pa_cons (pe_fld (pv 6) rfl) pa_nil)) (pe_callB call_lenQ (by rfl) T.b_len PySem.boot_len (pa_cons (pe_fld (pv 7) rfl) pa_nil)) (nomark _)) (pw_or1 (pt_cmpR (op_neOwn T.eq_Site (fr_site_eq T) (hr.mono (by decide)) pass0) (C8.pe_mt0 (ok_site_mirrored T) hr (by decide) (pv 6)) (pv 7) (nomark _))))) pss_never pss_nil)
      (pss_one (ps_for PassesOwn.never rfl (pi_range1 (by rfl) T.b_range (pa_cons (pe_callB call_lenQ (by rfl) T.b_len PySem.boot_len (pa_cons (pe_fld (pv 6) rfl) pa_nil)) pa_nil)) (pg_name (i := 12) sc_law_right.nd rfl (by first | exact Or.inl rfl | exact Or.inr rfl)) (pss_cons (ps_set (i := 13) sc_law_right.nd rfl (by first | exact Or.inl rfl | exact Or.inr rfl) (pe_ix ix_tup (pe_fld (pv 7) rfl) (pe_op op_sub (pe_op op_sub (pe_callB call_lenQ (by rfl) T.b_len PySem.boot_len (pa_cons (pe_fld (pv 6) rfl) pa_nil)) pe_int) (pv 12)) (fun _ _ => rfl)))
      (pss_cons (ps_if (pt_cmpR op_ne (pe_fld (pv 13) rfl) (pe_op op_sub (pe_op op_sub (pe_callB call_lenQ (by rfl) T.b_len PySem.boot_len (pa_cons (pe_fld (pv 6) rfl) pa_nil)) pe_int) (pv 12)) (nomark _)) pss_never pss_nil)
      (pss_one (ps_if (pt_not (pt_val (C8.pe_c (ok_law_turned hP T) hr (by decide) (by rfl) (pa_cons (pe_ix ix_tup (pe_fld (pv 6) rfl) (pv 12) (fun _ _ => rfl)) (pa_cons (pv 13) (pa_cons (pv 3) (pa_cons (pv 4) pa_nil))))))) pss_never pss_nil)))))))))))))))
      (pss_one (ps_ret pe_bl))))), ?_⟩
    have hmost := ok.most
    have hmost2 := mirror_count ok
    have hfew := ok.few
    have htlen : tas.length = rows.length := hrows.1
    fail "in"
    fail "go"
    rw [decide_eq_true (rfl : n = n)]
    fail "go"
    refine g_lenBo hbk (by omega) ?_
    fail "go"
    refine g_lenBo hb (by omega) ?_
    fail "go"
    rw [decide_eq_true (show ((allHoles (rows.map mirror)).length : Int) = ((allHoles rows).length : Int) by rw [hmost2])]
    fail "go"
    rename_i st sts hst hsts
    refine g_lenU hst ?_
    fail "go"
    refine g_lenL (.inl (.inl htl)) ?_
    fail "go"
    rw [decide_eq_true (show ((rfs sts).length : Int) = ((rfs tas).length : Int) by rw [List.length_map, List.length_map, htlen, hsts.1, List.length_map])]
    fail "go"
    refine g_lenL (.inl (.inl htl)) ?_
    fail "go"
    refine w_R1 (by rw [List.length_map]; omega) ?_
    refine loop_by it_r (fun i σ H' => ∃ z5 z6 z7 z8 z9 z10 z11 z12 z13, σ = [some (.ref b), some (.ref bk), some (.ref tl), some (.ref sm), some (.int n), z5, z6, z7, z8, z9, z10, z11, z12, z13] ∧ Ex H H') ⟨_, _, _, _, _, _, _, _, _, rfl, exr _⟩ (fun _ _ _ _ _ => trivial) ?_ ?_
    · rintro i x σ H1 hi ⟨z5, z6, z7, z8, z9, z10, z11, z12, z13, rfl, e1⟩
      obtain ⟨hlt, rfl⟩ := ivs_at hi
      rw [List.length_map] at hlt
      have ilt : i < rows.length := by omega
      have hri : rows[i]? = some rows[i] := List.getElem?_eq_getElem ilt
      have rok := ok.row rows[i] (List.mem_of_getElem? hri)
      obtain ⟨ta, hta, few, hta1, hfew1⟩ := hrows.get hri
      have hmi : (rows.map mirror)[i]? = some (mirror rows[i]) := by rw [List.getElem?_map, hri]; rfl
      revert hri rok hta1 hfew1 hmi
      generalize rows[i] = r
      intro hri rok hta1 hfew1 hmi
      have htl1 := e1 _ _ htl
      have hb1 := hb.mono e1
      have hbk1 := hbk.mono e1
      have hta1 := e1 _ _ hta1
      have hfew1 := e1 _ _ hfew1
      show tSeq _ _ _ _ _
      fail "go"
      rename_i st1 sts1 hst1 hsts1
      obtain ⟨one, hone, hs1⟩ := hsts1.get hri
      refine g_ixT hst1 (atI_nn (v := .ref one) (by omega) (by rw [show ((0 : Int) + (i : Int)).toNat = i by omega, List.getElem?_map, hone]; rfl)) ?_
      fail "go"
      rename_i st2 sts2 hst2 hsts2
      obtain ⟨oth, hoth, hs2⟩ := hsts2.get hmi
      refine g_ixT hst2 (atI_nn (v := .ref oth) (by omega) (by rw [show ((0 : Int) + (i : Int)).toNat = i by omega, List.getElem?_map, hoth]; rfl)) ?_
      fail "go"
      refine g_listU (by assumption) fun pl npl => ?_
      fail "go"
      refine ⟨by fail "sz", fun l1 n1 => ?_⟩
      fail "go"
      have hpl0 : (upd H1 pl (.lst (nts (mirror r).parts))) pl = some (.lst (nts (mirror r).parts)) := upd_same
      generalize hX2 : upd (upd H1 pl (.lst (nts (mirror r).parts))) l1 (.lst [.str (S (mirror r).name), .str (S (mirror r).pic), .str (mirror r).kd.str, .int (mirror r).depth, .int (mirror r).pat, .ref pl]) = H2
      have e2 : Ex H1 H2 := by
        rw [← hX2]
        exact ext (Ex.new npl) (Ex.new n1)
      have hpl : H2 pl = some (.lst (nts (mirror r).parts)) := by
        rw [← hX2]
        exact Ex.new n1 _ _ hpl0
      have hl1 : H2 l1 = some (.lst [.str (S (mirror r).name), .str (S (mirror r).pic), .str (mirror r).kd.str, .int (mirror r).depth, .int (mirror r).pat, .ref pl]) := by
        rw [← hX2]
        exact upd_same
      clear hX2 hpl0
      have htai : atI (rfs tas) (0 + (i : Int)) = some (.ref ta) := atI_nn (by omega) (by rw [show ((0 : Int) + (i : Int)).toNat = i by omega, List.getElem?_map, hta]; rfl)
      have tell : ∀ H', Ex H2 H' → SqL K H' tl (rfs tas) ∧ SqL K H' ta (rwF r few) ∧ SqL K H' few (nts r.parts) := fun H' e => ⟨.inl (.inl (e _ _ (e2 _ _ htl1))), .inl (.inl (e _ _ (e2 _ _ hta1))), .inl (.inl (e _ _ (e2 _ _ hfew1)))⟩
      refine g_ixL (tell _ (exr _)).1 htai ?_
      fail "go"
      refine g_ixL (tell _ (exr _)).2.1 (atI_nn (v := .ref few) (by decide) rfl) ?_
      fail "go"
      refine m_revL (tell _ (exr _)).2.2 fun rv nrv => ?_
      fail "go"
      generalize hX3 : upd H2 rv (.lst (nts r.parts).reverse) = H3
      have e3 : Ex H2 H3 := by
        rw [← hX3]
        exact Ex.new nrv
      have hrv : H3 rv = some (.lst (nts r.parts.reverse)) := by
        rw [← hX3, upd_same]
        unfold nts
        rw [List.map_reverse]
      clear hX3
      refine c_L (.inl (.inl hrv)) ?_
      refine lc_by (H := H3) it_l (fun H7 e => .inl (.inl (e _ _ hrv))) (by rw [List.length_map, List.length_reverse]; have := rok.1.few; omega) (fun j ys _ => ys = nts ((r.parts.reverse.take j).map fun e => n + 1 - e)) rfl (fun _ _ _ _ _ h => h) (fun x => rfl) ?_ ?_
      · rintro j x ys H7 hj e8 rfl no yes hno hyes
        obtain ⟨e, he, rfl⟩ := nt_at hj
        fail "go"
        refine hyes _ _ (exr _) ?_
        rw [take_snoc he, List.map_append]
        simp [nts]
      rintro D ys H4 nD e4 hD rfl
      rw [List.length_map, List.take_length] at hD
      have em : (r.parts.reverse.map fun e => n + 1 - e) = (mirror r).parts := by
        show _ = (r.parts.map _).reverse
        rw [List.map_reverse, rok.2]
      rw [em] at hD
      have e24 := ext e3 e4
      fail "go"
      refine g_ixL (tell _ e24).1 htai ?_
      fail "go"
      refine sl_to (by decide) (tell _ e24).2.1 fun p1 np1 => ?_
      fail "go"
      generalize hX5 : upd H4 p1 (.lst ((rwF r few).take (1 : Int).toNat)) = H5
      have e5 : Ex H4 H5 := by
        rw [← hX5]
        exact Ex.new np1
      have hp1 : H5 p1 = some (.lst [.str (S r.name)]) := by
        rw [← hX5, upd_same]
        rfl
      clear hX5
      refine g_ixL (tell _ (ext e24 e5)).1 htai ?_
      fail "go"
      refine g_ixL (tell _ (ext e24 e5)).2.1 (atI_nn (v := .str (S r.pic)) (by decide) rfl) ?_
      fail "go"
      refine m_revS (by have := rok.1.pic.hi; omega) ?_
      fail "go"
      refine ⟨by fail "sz", fun p2 np2 => ?_⟩
      fail "go"
      refine ⟨p1, p2, _, _, rfl, rfl, Ex.new np2 _ _ hp1, upd_same, by fail "sz", fun p3 np3 => ?_⟩
      fail "go"
      generalize hX6 : upd (upd H5 p2 (.lst [.str (S r.pic.reverse)])) p3 (.lst [.str (S r.name), .str (S r.pic.reverse)]) = H6
      have e6 : Ex H5 H6 := by
        rw [← hX6]
        exact ext (Ex.new np2) (Ex.new np3)
      have hp3 : H6 p3 = some (.lst [.str (S r.name), .str (S r.pic.reverse)]) := by
        rw [← hX6]
        exact upd_same
      clear hX6
      have e26 := ext e24 (ext e5 e6)
      refine g_ixL (tell _ e26).1 htai ?_
      fail "go"
      refine ⟨ta, rwF r few, rfl, (tell _ e26).2.1, fun p4 np4 => ?_⟩
      fail "go"
      have hp4 : (upd H6 p4 (.lst (cutV (rwF r few) (some 2) (some 5)))) p4 = some (.lst [.str r.kd.str, .int r.depth, .int r.pat]) := by
        rw [upd_same]
        rfl
      refine ⟨p3, p4, _, _, rfl, rfl, Ex.new np4 _ _ hp3, hp4, by fail "sz", fun p5 np5 => ?_⟩
      fail "go"
      generalize hX7 : upd (upd H6 p4 (.lst (cutV (rwF r few) (some 2) (some 5)))) p5 (.lst [.str (S r.name), .str (S r.pic.reverse), .str r.kd.str, .int r.depth, .int r.pat]) = H7
      have e7 : Ex H6 H7 := by
        rw [← hX7]
        exact ext (Ex.new np4) (Ex.new np5)
      have hp5 : H7 p5 = some (.lst [.str (S r.name), .str (S r.pic.reverse), .str r.kd.str, .int r.depth, .int r.pat]) := by
        rw [← hX7]
        exact upd_same
      clear hX7
      refine ⟨by fail "sz", fun p6 np6 => ?_⟩
      fail "go"
      refine ⟨p5, p6, _, _, rfl, rfl, Ex.new np6 _ _ hp5, upd_same, by fail "sz", fun p7 np7 => ?_⟩
      fail "go"
      generalize hX8 : upd (upd H7 p6 (.lst [.ref D])) p7 (.lst [.str (S r.name), .str (S r.pic.reverse), .str r.kd.str, .int r.depth, .int r.pat, .ref D]) = H8
      have e8 : Ex H7 H8 := by
        rw [← hX8]
        exact ext (Ex.new np6) (Ex.new np7)
      have hp7 : H8 p7 = some (.lst [.str (S r.name), .str (S r.pic.reverse), .str r.kd.str, .int r.depth, .int r.pat, .ref D]) := by
        rw [← hX8]
        exact upd_same
      clear hX8
      have e28 : Ex H2 H8 := ext e26 (ext e7 e8)
      have e48 : Ex H4 H8 := ext e5 (ext e6 (ext e7 e8))
      have dp1 : DpAll K H8 [.str (S (mirror r).name), .str (S (mirror r).pic), .str (mirror r).kd.str, .int (mirror r).depth, .int (mirror r).pat, .ref pl] [.str (S (mirror r).name), .str (S (mirror r).pic), .str (mirror r).kd.str, .int (mirror r).depth, .int (mirror r).pat, .list ((mirror r).parts.map PyData.int)] :=
        .cons (.str _) (.cons (.str _) (.cons (.str _) (.cons (.int _) (.cons (.int _) (.cons (.lst (.inl (.inl (e28 _ _ hpl))) (dp_ints _)) .nil)))))
      have dp2 : DpAll K H8 [.str (S r.name), .str (S r.pic.reverse), .str r.kd.str, .int r.depth, .int r.pat, .ref D] [.str (S (mirror r).name), .str (S (mirror r).pic), .str (mirror r).kd.str, .int (mirror r).depth, .int (mirror r).pat, .list ((mirror r).parts.map PyData.int)] :=
        .cons (.str _) (.cons (.str _) (.cons (.str _) (.cons (.int _) (.cons (.int _) (.cons (.lst (.inl (.inl (e48 _ _ hD))) (dp_ints _)) .nil)))))
      refine g_neSame (.lst (.inl (.inl (e28 _ _ hl1))) dp1) (.lst (.inl (.inl hp7)) dp2) ?_ ?_
      · have o1 := name_ok rok.1.mirror.name.ch
        have o2 := pic_ok rok.1.mirror.pic
        have o3 := kd_ok (mirror r).kd
        unfold SeqAt.shaped
        simp [PyData.canLay0, PyData.canLayAll0, PyData.depth, PyData.depthAll, o1, o2, o3, lay_ints, deep_ints]
      have e18 : Ex H1 H8 := ext e2 e28
      have hs1' := hs1.mono e18
      have hs2' := hs2.mono e18
      fail "go"
      have hmh : (holesOf (mirror r).pic (mirror r).parts) = ((holesOf r.pic r.parts).map (turnCut r.pic.length)).reverse := mirror_holes rok.1
      have hmhl : (holesOf (mirror r).pic (mirror r).parts).length = (holesOf r.pic r.parts).length := by rw [hmh, List.length_reverse, List.length_map]
      have hcnt := rok.1.most
      refine g_lenHo (by assumption) (by assumption) ?_
      fail "go"
      refine g_lenHo (by assumption) (by assumption) ?_
      fail "go"
      rw [decide_eq_true (show ((holesOf r.pic r.parts).length : Int) = ((holesOf (mirror r).pic (mirror r).parts).length : Int) by rw [hmhl])]
      fail "go"
      refine met_Si hs1' (by decide +kernel) (by decide +kernel) (by decide +kernel) (by decide +kernel) (by decide +kernel) (by decide +kernel) (by decide +kernel) ?_
      fail "go"
      refine ⟨one, r, rfl, rok.1, hs1', fun x H9 e9 hx => ?_⟩
      fail "go"
      refine g_neSi (r := mirror r) hx (hs2'.mono e9) ?_
      have hs19 := hs1'.mono e9
      have hs29 := hs2'.mono e9
      have e19 : Ex H1 H9 := ext e18 e9
      fail "go"
      refine g_lenHo (by assumption) (by assumption) ?_
      fail "go"
      refine w_R1 (by omega) ?_
      refine loop_by it_r (fun j σ H' => ∃ z10 z12 z13, σ = [some (.ref b), some (.ref bk), some (.ref tl), some (.ref sm), some (.int n), some (.int (0 + (i : Int))), some (.ref one), some (.ref oth), some (.ref l1), some (.ref D), z10, some (.ref p7), z12, z13] ∧ Ex H9 H') ⟨_, _, _, rfl, exr _⟩ (fun _ _ _ _ _ => trivial) ?_ ?_
      · rintro j x σ H10 hj ⟨z10, z12, z13, rfl, e10⟩
        obtain ⟨hjl, rfl⟩ := ivs_at hj
        have hs1a := hs19.mono e10
        have hs2a := hs29.mono e10
        have jl : j < (holesOf r.pic r.parts).length := by omega
        have jc : (holesOf r.pic r.parts)[j]? = some (holesOf r.pic r.parts)[j] := List.getElem?_eq_getElem jl
        have jm : (holesOf (mirror r).pic (mirror r).parts)[(holesOf r.pic r.parts).length - 1 - j]? = some (turnCut r.pic.length (holesOf r.pic r.parts)[j]) := by
          rw [hmh, List.getElem?_reverse (by rw [List.length_map]; omega), List.length_map, show (holesOf r.pic r.parts).length - 1 - ((holesOf r.pic r.parts).length - 1 - j) = j by omega, List.getElem?_map, List.getElem?_eq_getElem jl]
          rfl
        have cin := holes_in rok.1.up _ (List.getElem_mem jl)
        rw [rok.2] at cin
        revert jc jm cin
        generalize (holesOf r.pic r.parts)[j] = cut
        intro jc jm cin
        show tSeq _ _ _ _ _
        fail "go"
        refine g_lenHo (by assumption) (by assumption) ?_
        fail "go"
        rename_i hlB hasB hhlB hhasB hlA hasA hhlA hhasA
        obtain ⟨hB, hBi, hBt⟩ := hhasB.get jm
        refine g_ixT hhlB (atI_nn (v := .ref hB) (by omega) (by rw [show (((holesOf r.pic r.parts).length : Int) - 1 - (0 + (j : Int))).toNat = (holesOf r.pic r.parts).length - 1 - j by omega, List.getElem?_map, hBi]; rfl)) ?_
        have hBt : HoleAt K H10 hB (mirror r).kd (turn n cut.1, turn n cut.2) (S (mirror r).name) (((holesOf r.pic r.parts).length - 1 - j : Nat) : Int) (mirror r).depth (mirror r).pat := by
          rw [← rok.2]
          exact hBt
        fail "go"
        refine g_lenHo (by assumption) (by assumption) ?_
        fail "go"
        rw [decide_eq_true (show (((holesOf r.pic r.parts).length - 1 - j : Nat) : Int) = ((holesOf r.pic r.parts).length : Int) - 1 - (0 + (j : Int)) by omega)]
        fail "go"
        rename_i hlC hasC hhlC hhasC hlD hasD hhlD hhasD
        obtain ⟨hA, hAi, hAt⟩ := hhasD.get jc
        refine g_ixT hhlD (atI_nn (v := .ref hA) (by omega) (by rw [show ((0 : Int) + (j : Int)).toNat = j by omega, List.getElem?_map, hAi]; rfl)) ?_
        fail "go"
        have e0a : Ex H H10 := ext e1 (ext e19 e10)
        refine ⟨hA, hB, sm, n, r.kd, cut, S r.name, _, _, r.depth, r.pat, as, rfl, hAt, hBt, cin, ok.hi, name_ok rok.1.name.ch, ex_l e0a hsm, hpc.nono (exn e0a), fun H11 e11 => ?_⟩
        fail "go"
        exact ⟨_, _, _, rfl, ext e10 e11⟩
      · rintro σ H10 ⟨z10, z12, z13, rfl, e10⟩
        exact ⟨_, _, _, _, _, _, _, _, _, rfl, ext e1 (ext e19 e10)⟩
    · rintro σ H1 ⟨z5, z6, z7, z8, z9, z10, z11, z12, z13, rfl, e1⟩
      fail "go"
      exact k _ e1
end
end PN

/-! The law. -/
namespace PN
set_option maxRecDepth 100000
set_option maxHeartbeats 4000000
open PySem PySem.Spec PyProof.Rows L2
open Evl (Ex Ex.new Ex.mut ex_l ex_t fresh_back)
-- MACROS
local macro_rules | `(tactic| fail "in") => `(tactic| dsimp only [cxOf, Cx.nox, Cx.wish, L2.start, List.map, List.length_cons, List.length_nil, Nat.reduceAdd, Nat.reduceSub, List.replicate_succ, List.replicate_zero, List.cons_append, List.nil_append, List.append_nil])
local macro_rules | `(tactic| fail "ds") => `(tactic| dsimp only [List.set_cons_zero, List.set_cons_succ, List.cons_append, List.nil_append, List.append_nil])
local macro_rules | `(tactic| fail "ex") => `(tactic| first | exact exr _ | assumption | (refine ext ?_ (by assumption); fail "ex") | (refine ext ?_ (Ex.new (by assumption)); fail "ex") | (refine Ex.mut ?_ (by assumption); fail "ex"))
local macro_rules | `(tactic| fail "st") => `(tactic| first | assumption | (refine StAt.mono (by assumption) ?_; fail "ex"))
local macro_rules | `(tactic| fail "ho") => `(tactic| first | assumption | (refine HoleAt.mono (by assumption) ?_; fail "ex"))
local macro_rules | `(tactic| fail "si") => `(tactic| first | assumption | (refine SiteAt.mono (by assumption) ?_; fail "ex"))
local macro_rules | `(tactic| fail "bo") => `(tactic| first | assumption | (refine BoardAt.mono (by assumption) ?_; fail "ex"))
local macro_rules | `(tactic| fail "go1") => `(tactic| with_reducible first
  | apply g_seq | apply g_next | apply g_ret | apply g_drop | apply g_asg | apply g_asg2 | apply g_ifs | (refine g_var (by with_unfolding_all rfl) ?_) | apply g_c | apply g_op | apply g_rI0 | apply g_eqI | apply g_neI | apply g_eqS | apply g_neS
  | apply g_test | apply g_B | apply g_bl | apply g_and | apply g_or | apply g_not | apply g_andV | apply g_orV | apply g_notV | apply g_ife | apply g_nil | apply g_cons | apply g_call | apply g_mkSt | apply g_make | apply g_cb | apply g_bm | apply g_fld | apply g_con | apply g_met | apply g_chain | apply g_put | apply g_tup | apply g_lst
  | apply g_isI | apply g_isB | apply g_isS | apply g_isNon | apply g_notNon | apply g_str | apply g_inS | apply g_notInS | apply g_un | apply g_sl | apply g_pn | apply g_ps | apply g_in | apply g_for | apply g_iL | apply g_iT | apply g_iS | apply g_iR1 | apply g_iR2 | apply g_lc | apply w_S | apply c_S | apply g_yes | apply g_par | apply g_two | (refine g_aug (by with_unfolding_all rfl) ?_) | apply g_ipI | apply g_mkK | apply g_star | apply g_mkSK | apply g_revS | apply g_revT | apply g_revL | apply g_cmK | apply m_cmK | apply g_lc2 | apply g_lenSet
  | apply iteT | apply iteF | (refine y_if (by decide) ?_) | (refine n_if (by decide) ?_)
  | (refine sp_within (by fail "st") (by fail "st") ?_) | (refine met_St (by fail "st") (by decide +kernel) (by decide +kernel) ?_)
  | (refine r_must (by assumption) (by fail "ho") ?_; intro m hm) | (refine r_may (by assumption) (by fail "ho") ?_; intro m hm) | (refine r_site (by assumption) (by fail "ho") ?_) | (refine r_number (by assumption) (by fail "ho") ?_) | (refine r_hdepth (by assumption) (by fail "ho") ?_) | (refine r_hpat (by assumption) (by fail "ho") ?_) | (refine r_kind (by assumption) (by fail "ho") ?_)
  | (refine r_sname (by assumption) (by fail "si") ?_) | (refine r_spic (by assumption) (by fail "si") ?_) | (refine r_skind (by assumption) (by fail "si") ?_) | (refine r_sdepth (by assumption) (by fail "si") ?_) | (refine r_spat (by assumption) (by fail "si") ?_) | (refine r_sparts (by assumption) (by fail "si") ?_; intro pt hpt) | (refine r_sholes (by assumption) (by fail "si") ?_; intro hl has hhl hhas)
  | (refine r_blayers (by assumption) (by fail "bo") ?_) | (refine r_bsites (by assumption) (by fail "bo") ?_; intro st sts hst hsts) | (refine r_bholes (by assumption) (by fail "bo") ?_; intro bl bhs hbl hbhs)
  | (refine r_low (by assumption) (by fail "st") ?_) | (refine r_high (by assumption) (by fail "st") ?_))
local macro_rules | `(tactic| fail "go") => `(tactic| ((repeat (first | fail "go1" | (fail "ds"; fail "go1"))); (try fail "ds")))
local macro_rules | `(tactic| fail "sz") => `(tactic| (refine Evl.sz_of ?_; simp only [List.length_cons, List.length_nil, List.length_append, List.length_map, List.length_take, List.length_drop]; omega))
-- END MACROS
section
variable {P : Program} {w : World} {K : PySem.W.Frag} {mg : Str → Option Value} {base : Heap}
theorem map_mirror (rows : List Row) : (rows.map mirror).map mirror = rows := by
  rw [List.map_map]
  conv => rhs; rw [← List.map_id rows]
  congr 1
  funext r
  exact mirror_mirror r
/-- the sites of the rows, made anew -/
theorem lc_sites {H : Hp} {Q : VK} {σ : L2.St} {l : Addr} {tas : List Addr} {rows : List Row} {n : Int} (ok : BoardOk n rows) (hl : H l = some (.lst (rfs tas))) (hr : RowsL H tas rows) (hσ : σ.length = 7)
    (hd : ∀ D sts H1, H D = none → Ex H H1 → H1 D = some (.lst (rfs sts)) → SitesAt K H1 sts rows → Q (.ref D) H1) : LcB (Itl K l) (gName 5) tYes (tCall (spSite K) [] C8.E0 (tCons (tVar 5) tNil)) [5] σ H Q := by
  have hlen : tas.length = rows.length := hr.1
  have hfew := ok.few
  refine lc_by (H := H) it_l (fun H2 e => .inl (.inl (e _ _ hl))) (by rw [List.length_map]; omega) (fun i ys H1 => ∃ as, ys = rfs as ∧ SitesAt K H1 as (rows.take i)) ⟨[], rfl, All2.nil⟩ (fun i ys H1 H2 e ⟨as, q1, q2⟩ => ⟨as, q1, q2.nono e⟩) (fun x => ?_) ?_ ?_
  · match σ, hσ with
    | [_, _, _, _, _, _, _], _ => rfl
  · rintro i x ys H2 hi2 e2 ⟨as, rfl, has⟩ no yes hno hyes
    obtain ⟨ta, hta, rfl⟩ := rf_at hi2
    obtain ⟨r, hr', hs⟩ := hr.getL hta
    match σ, hσ with
    | [_, _, _, _, _, _, _], _ =>
      fail "go"
      refine ⟨ta, r, rfl, hs.mono e2, (ok.row r (List.mem_of_getElem? hr')).1, fun x H3 e3 hx => ?_⟩
      refine hyes _ _ e3 ⟨as ++ [x], by simp [rfs], ?_⟩
      rw [take_snoc hr']
      exact All2.snoc (has.nono (exn e3)) hx
  · rintro D ys H2 nD e2 hD ⟨as, rfl, has⟩
    rw [List.length_map, hlen, List.take_length] at has
    exact hd D as H2 nD e2 hD has
def spLaw (K : PySem.W.Frag) : Sp := fun vs H Q _ => ∃ (a : Addr) (ns : List Int), vs = [.ref a] ∧ SqL K H a (ns.map V.int) ∧ ns.length ≤ 63 ∧ ∀ H', Q (.bl true) H'
theorem sc_law : FnScope ["_law_script", "_law_pen_here", "_law_many", "_law_told", "_law_board", "_law_one", "_law_back"] ["_law_script"] (defScope s_law) := C8.fnScope_by (by decide +kernel)
theorem body_law (hP : P = prg) (T : TX K mg) : BodyOk P w K mg base ["_law_script", "_law_pen_here", "_law_many", "_law_told", "_law_board", "_law_one", "_law_back"] "law" (defScope s_law) (defBody s_law) (f_law K) 12 (spLaw K) := by
  intro cdv A outer s H vs Q E hr h
  obtain ⟨a, ns, rfl, ha, hz, k⟩ := h
  refine ⟨_, (pss_cons (ps_set (i := 1) sc_law.nd rfl (by first | exact Or.inl rfl | exact Or.inr rfl) (C8.pe_c (ok_law_pen T) hr (by decide) (by rfl) (pa_cons (pv 0) pa_nil)))
      (pss_cons (ps_set (i := 2) sc_law.nd rfl (by first | exact Or.inl rfl | exact Or.inr rfl) (pe_op op_add pe_int (C8.pe_c (ok_law_draw T) hr (by decide) (by rfl) (pa_cons (pv 1) (pa_cons pe_int pa_nil)))))
      (pss_cons (ps_set (i := 3) sc_law.nd rfl (by first | exact Or.inl rfl | exact Or.inr rfl) (C8.pe_c (ok_law_sites T) hr (by decide) (by rfl) (pa_cons (pv 1) (pa_cons (pv 2) (pa_cons (pe_op op_add pe_int (C8.pe_c (ok_law_draw T) hr (by decide) (by rfl) (pa_cons (pv 1) (pa_cons pe_int pa_nil)))) pa_nil)))))
      (pss_cons (ps_set (i := 4) sc_law.nd rfl (by first | exact Or.inl rfl | exact Or.inr rfl) (pe_cmethK (C8.pe_gc (v := .ref (c_Board K)) (by rfl) ⟨_, T.g_Board, rfl⟩) T.cm_board_of.1 T.cm_board_of.2 (fk_board_of T) (hr.mono (by decide)) pass0 (pa_cons (pv 2) (pa_cons (pe_lc (own := [("_law_one", 5)]) (g := gName 5) (tt := tYes) (te := (tCall (spSite K) [] C8.E0 (tCons (tVar 5) tNil))) (by rfl) sc_law.nd (pi_list (pv 3)) (blkOk_by (own := [("_law_one", 5)]) (N := ["_law_script", "_law_pen_here", "_law_many", "_law_told", "_law_board", "_law_one", "_law_back"]) (sc := defScope s_law) (by decide +kernel)) (fun _ _ _ _ _ => (pg_name (i := 5) sc_law.nd rfl (by first | exact Or.inl rfl | exact Or.inr rfl))) (fun _ _ _ _ _ => pts_nil) (fun _ _ _ _ _ => (C8.pe_c (ok_law_site T) hr (by decide) (by rfl) (pa_cons (pv 5) pa_nil)))) pa_nil)) pk_nil))
      (pss_cons (ps_set (i := 6) sc_law.nd rfl (by first | exact Or.inl rfl | exact Or.inr rfl) (C8.pe_mt0 (ok_board_mirrored T) hr (by decide) (pv 4)))
      (pss_cons (ps_if (pt_not (pt_val (C8.pe_c (ok_law_right hP T) hr (by decide) (by rfl) (pa_cons (pv 4) (pa_cons (pv 6) (pa_cons (pv 3) (pa_cons (C8.pe_c (ok_law_pieces T) hr (by decide) (by rfl) (pa_cons (pv 2) pa_nil)) pa_nil))))))) pss_never pss_nil)
      (pss_one (ps_ret (pe_and (pe_cmpR (op_eqG (rcBoard T) (hr.mono (by decide))) (C8.pe_mt0 (ok_board_mirrored T) hr (by decide) (pv 6)) (pv 4) (nomark _)) (pe_one (pe_cmpR (op_eqG (rcBoard T) (hr.mono (by decide))) (pv 4) (pe_cmethK (C8.pe_gc (v := .ref (c_Board K)) (by rfl) ⟨_, T.g_Board, rfl⟩) T.cm_board_of.1 T.cm_board_of.2 (fk_board_of T) (hr.mono (by decide)) pass0 (pa_cons (pv 2) (pa_cons (pe_lc (own := [("_law_one", 5)]) (g := gName 5) (tt := tYes) (te := (tCall (spSite K) [] C8.E0 (tCons (tVar 5) tNil))) (by rfl) sc_law.nd (pi_list (pv 3)) (blkOk_by (own := [("_law_one", 5)]) (N := ["_law_script", "_law_pen_here", "_law_many", "_law_told", "_law_board", "_law_one", "_law_back"]) (sc := defScope s_law) (by decide +kernel)) (fun _ _ _ _ _ => (pg_name (i := 5) sc_law.nd rfl (by first | exact Or.inl rfl | exact Or.inr rfl))) (fun _ _ _ _ _ => pts_nil) (fun _ _ _ _ _ => (C8.pe_c (ok_law_site T) hr (by decide) (by rfl) (pa_cons (pv 5) pa_nil)))) pa_nil)) pk_nil) (nomark _)))))))))))), ?_⟩
  fail "in"
  fail "go"
  refine ⟨a, ns, rfl, ha, hz, fun pen L H1 e1 npen hp1 => ?_⟩
  fail "go"
  refine ⟨pen, L, 5, 0, rfl, by decide, by decide, hp1, by decide, fun d1 H2 e2 hp2 d1a d1b => ?_⟩
  fail "go"
  refine ⟨pen, L, 3, _, rfl, by decide, by decide, hp2, by decide, fun d2 H3 e3 hp3 d2a d2b => ?_⟩
  fail "go"
  refine ⟨pen, L, 2 + d1, 1 + d2, _, rfl, by omega, by omega, by omega, by omega, hp3, by decide, fun tl tas rows H4 e4 htl hrows ok => ?_⟩
  fail "go"
  refine c_L (.inl (.inl htl)) ?_
  refine lc_sites ok htl hrows rfl fun D1 sts1 H5 nD1 e5 hD1 hs1 => ?_
  fail "go"
  refine ⟨rfl, rfl, _, D1, 2 + d1, sts1, rows, rfl, ok, hD1, hs1, fun b H6 e6 hb => ?_⟩
  fail "go"
  refine met_Bo hb (by decide +kernel) (by decide +kernel) (by decide +kernel) ?_
  fail "go"
  refine ⟨b, _, rows, rfl, ok, hb, fun bk H7 e7 hbk => ?_⟩
  fail "go"
  refine ⟨2 + d1, rfl, by omega, by omega, fun pl H8 as e8 hpl hpc => ?_⟩
  fail "go"
  have e47 : Ex H4 H7 := ext e5 (ext e6 e7)
  have e48 : Ex H4 H8 := ext e47 e8
  refine ⟨b, bk, tl, pl, 2 + d1, rows, tas, as, rfl, ok, hb.mono (ext e7 e8), hbk.mono e8, e48 _ _ htl, hrows.mono e48, .inl (.inl hpl), hpc, fun H9 e9 => ?_⟩
  fail "go"
  have hb9 : BoardAt K H9 b (2 + d1) rows := hb.mono (ext e7 (ext e8 e9))
  have hbk9 : BoardAt K H9 bk (2 + d1) (rows.map mirror) := hbk.mono (ext e8 e9)
  have e49 := ext e48 e9
  refine met_Bo hbk9 (by decide +kernel) (by decide +kernel) (by decide +kernel) ?_
  fail "go"
  refine ⟨bk, _, rows.map mirror, rfl, ok.mirror, hbk9, fun bb H10 e10 hbb => ?_⟩
  rw [map_mirror] at hbb
  fail "go"
  have hb10 := hb9.mono e10
  obtain ⟨dx1, st1, hl1, sts, hs, g1, g2⟩ := id hbb
  obtain ⟨dx2, st2, hl2, sts', hs', g3, g4⟩ := id hb10
  refine ⟨⟨bb, b, dx1, dx2, _, _, rfl, rfl, g1, g3, 2 + d1, rows, hbb, hb10⟩, fun H11 e11 => ?_⟩
  have e11 : Ex H10 H11 := e11
  fail "go"
  have e4b : Ex H4 H11 := ext e49 (ext e10 e11)
  have htl11 := e4b _ _ htl
  refine c_L (.inl (.inl htl11)) ?_
  refine lc_sites ok htl11 (hrows.mono e4b) rfl fun D2 sts2 H12 nD2 e12 hD2 hs2 => ?_
  fail "go"
  refine ⟨rfl, rfl, _, D2, 2 + d1, sts2, rows, rfl, ok, hD2, hs2, fun b2 H13 e13 hb2 => ?_⟩
  fail "go"
  have hb13 := hb10.mono (ext e11 (ext e12 e13))
  obtain ⟨dx3, st3, hl3, sts3, hs3, g5, g6⟩ := id hb13
  obtain ⟨dx4, st4, hl4, sts4, hs4, g7, g8⟩ := id hb2
  refine ⟨⟨b, b2, dx3, dx4, _, _, rfl, rfl, g5, g7, 2 + d1, rows, hb13, hb2⟩, fun H14 e14 => ?_⟩
  exact k _
end
end PN

/-! The end. -/
namespace PN
set_option maxRecDepth 100000
set_option maxHeartbeats 0
open PySem PySem.Spec PyProof.Rows L2
theorem facts {P : Program} {w : World} {K : PySem.W.Frag} {h : Heap} {mg : Str → Option Value} {f : Addr} (hP : P = prg) (KX : K.In h) (G : h.Ns mainGlobals mg) (hfa : mg ("law" : Str) = some (.ref f)) (c : SaysZ K) :
    ∃ fd : FuncData, (∀ (s : Shared) (v : Value), BindsTo s fd ⟨[v], []⟩ [("_law_script", v)]) ∧ ∀ base : Heap, K.In base → base.Ns mainGlobals mg → FnOk P w K mg base L2.CX0 13 f fd ["_law_script"] (spLaw K) := by
  have T : TX K mg := tx_of KX G c
  obtain ⟨fd, F⟩ := T.d_law
  have e := hfa.symm.trans T.g_law
  cases e
  have b := FunD.bindsA (ps := ["_law_script"]) F fun _ _ _ _ _ _ us hl => match us, hl with | [_], _ => rfl
  refine ⟨fd, fun s v => b s [v] rfl, fun base _ _ => fnD F sc_law (fun vs H Q E h => ?_) (body_law hP T)⟩
  obtain ⟨a, ns, rfl, _⟩ := h
  rfl
end PN

open PySem PySem.W PySem.Calls PyProof.Rows in
theorem PySem.Challenge.cw_pressnest_k15_whole_boards_upside_down_holds : PySem.Challenge.rw_pressnest_k15_whole_boards_upside_down.Holds := by
  w_on; o_law
  refine HandSHeadRun.head_any (r := OpenLaw.row PySem.Challenge.rw_pressnest_k15_whole_boards_upside_down) (q := view (OpenLaw.row PySem.Challenge.rw_pressnest_k15_whole_boards_upside_down).prog [64]) (H := PN.hookZ PN.adZ) (ob := PN.topOb) (M := 8000) (loose := PN.topNames) (d := HandSHeadRun.topDef (OpenLaw.row PySem.Challenge.rw_pressnest_k15_whole_boards_upside_down).prog 64) (kwd := []) PN.topOb_eq
    (by kernel_rfl) (fun s => by kernel_rfl) PN.headRun (by kernel_rfl) (by kernel_rfl) (by kernel_rfl) (by rfl) (by first | assumption | decide +kernel) (by decide +kernel) ⟨rfl, rfl, rfl, rfl, rfl, by decide +kernel⟩ ?hw ?hc
  case hw => w_witness2
  case hc =>
    refine L2.walk_ofE (l := PySem.Challenge.rw_pressnest_k15_whole_boards_upside_down) (n := 63) (k := 13) (x := "_law_script") (CX := L2.CX0) rfl (by decide) (by kernel_rfl) ⟨rfl, by decide, by decide⟩ ?F (fun _ _ _ _ z => z)
    intro w mg fa h Y G hmg0
    obtain ⟨K, KX, c⟩ := Y
    have hmg : mg ("law" : PySem.Str) = some (.ref fa) := by
      have e : (HandSHeadRun.topDef (OpenLaw.row PySem.Challenge.rw_pressnest_k15_whole_boards_upside_down).prog 64).name = ("law" : PySem.Str) := by kernel_rfl
      rw [← e]
      exact hmg0
    obtain ⟨fd, hb, hF⟩ := PN.facts (P := (PySem.Challenge.rw_pressnest_k15_whole_boards_upside_down).prog) (w := w) rfl KX G hmg c
    exact ⟨K, fd, PN.spLaw K, KX, hb, fun H a ns hl _ hS => ⟨a, ns, rfl, hS, hl, fun _ => rfl⟩, hF⟩
