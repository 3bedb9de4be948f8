import PyProof.Rows.All
import Wide.All
import OpenK.AllK
import Wide.FinOn
import HandS.ForMost
import HandS.Wide
import HandS.WideBits
import HandS.Gcd
import HandS.Zip
import HandS.Rev
import HandS.RevRange
import HandS.TupAny
import HandS.IsInst
import HandS.Style
import HandS.Codes
import HandS.Defaults
import PyProof.ReprRoads
import PyProof.Draws
import KE.GoesMore
import PyProof.EnumMake
import HandS.ForExc
import HandS.More
import HandS.Head0
import HandS.Head1
import HandS.Head2
import HandS.Head3
import HandS.HeadEnd
import HandS.HeadHook1
import HandS.HeadHook2
import HandS.HeadHook3
import HandS.Comp
import HandS.Conv
import PySem.Challenge.RW_allhelms_k44_whole_bounds_of_the_worst
set_option Elab.async false
set_option linter.all false
set_option maxRecDepth 100000
set_option maxHeartbeats 4000000
set_option autoImplicit false
set_option exponentiation.threshold 10000
namespace DL
open PySem PySem.Spec PyProof.Rows L2
def top (i : Nat) : Stmt := PySem.Challenge.pw_allhelms_k44_whole_bounds_of_the_worst.main.body.getD i (.Pass ⟨0, 0, 0, 0⟩)
end DL
/-! DL41: the head's facts with looks of one's own. -/
namespace DL
open PySem PySem.Spec PyProof.Rows L2
abbrev LkB : Type := PySem.W.Frag → Bool
abbrev AlV : Type := He.AlD × List Bool
def obsV (fa : List He.Fa) (fn : List He.DefD) (bs : List LkB) (K : PySem.W.Frag) : AlV := (He.obsD fa fn K, bs.map fun b => b K)
def valV (fn : List He.DefD) (bs : List LkB) : AlV := (He.valD fn, bs.map fun _ => true)
def SaysV (fa : List He.Fa) (fn : List He.DefD) (bs : List LkB) (K : PySem.W.Frag) : Prop := obsV fa fn bs K = valV fn bs
def obsVG (n : Nat) (fa : List He.Fa) (fn : List He.DefD) (bs : List LkB) (g : Addr → Option Obj) : AlV := obsV fa fn bs (He.frG g (He.asD g n))
def hookV (n : Nat) (fa : List He.Fa) (fn : List He.DefD) (bs : List LkB) : PySem.W.Hook where
  α := AlV
  obs := fun s => obsVG n fa fn bs s.heap.get?
  val := fun _ => valV fn bs
  says := fun _ h => ∃ K : PySem.W.Frag, K.In h ∧ SaysV fa fn bs K
  of := fun _ _ e => ⟨_, He.frG_in, e⟩
  keeps := fun _ _ _ h k => h.elim fun K q => ⟨K, PySem.W.Frag.In.keeps q.1 k, q.2⟩
theorem obsVG_eq {n : Nat} {fa : List He.Fa} {fn : List He.DefD} {bs : List LkB} {g : Addr → Option Obj} {s : Shared} (h : ∀ a, g a = s.heap.get? a) : obsVG n fa fn bs g = (hookV n fa fn bs).obs s := by
  have e : g = s.heap.get? := funext h
  subst e
  rfl
section
variable {fa : List He.Fa} {fn : List He.DefD} {bs : List LkB} {K : PySem.W.Frag}
theorem SaysV.d (c : SaysV fa fn bs K) : He.SaysD fa fn K := congrArg (fun z : AlV => z.1) c
theorem SaysV.bool (c : SaysV fa fn bs K) (i : Nat) {t : LkB} (h : bs[i]? = some t := by rfl) : t K = true := by
  have e : bs.map (fun t => t K) = bs.map fun _ => true := congrArg (fun z : AlV => z.2) c
  have e2 : (bs.map fun t => t K)[i]? = (bs.map fun _ => true)[i]? := by rw [e]
  rw [List.getElem?_map, List.getElem?_map, h] at e2
  exact Option.some.inj e2
theorem SaysV.def_ (c : SaysV fa fn bs K) (i : Nat) {d : He.DefD} (h : fn[i]? = some d := by rfl) : ∃ fd, FunD K d.name d.qual d.params d.body d.scope (d.dvs K) (d.kws K) (He.fAd K d.at_) fd := c.d.def_ i h
theorem SaysV.fact (c : SaysV fa fn bs K) (i : Nat) {f : He.Fa} (h : fa[i]? = some f := by rfl) : f.ok K = true := c.d.fact i h
end
/-- the module's name x is this built-in -/
def bltB (x : PySem.Str) (b : String) : LkB := fun K => He.eqO (PySem.W.nsIn K mainGlobals x) (some (some (.builtin b)))
theorem blt_ok {K : PySem.W.Frag} {h : Heap} {mg : PySem.Str → Option Value} {x : PySem.Str} {b : String} (X : K.In h) (G : h.Ns mainGlobals mg) (c : bltB x b K = true) : mg x = some (.builtin b) := PySem.W.mg_of X G (He.eqO_ok c)
end DL
namespace DL
open PySem PySem.Spec PyProof.Rows L2
def mkD (p : PySem.Str × Nat) : He.DefD := ⟨(p.1, none), p.1, p.1, defArgs (top p.2), defBody (top p.2), defScope (top p.2), [], []⟩
def tbl0 : List (PySem.Str × Nat) := [("_law_cut", 72), ("_law_deep", 61), ("_law_low", 62), ("_law_prod", 65), ("_law_times", 74), ("_law_per", 66), ("_law_lowest_one", 78), ("_law_minus", 64), ("_law_parted", 77), ("_law_common", 79), ("_law_answer", 80), ("_law_draw", 59), ("_law_pick", 60), ("divisor_of", 10), ("lowest", 11)]
def tbl1 : List (PySem.Str × Nat) := [("ratio", 16), ("plus", 17), ("total", 21), ("size_of", 23), ("sizes_by", 51), ("trimmed", 26), ("minus", 18), ("number_at", 27), ("lessened", 29), ("is_below", 22), ("times", 19), ("multiplied", 30), ("over", 20), ("bounds_by", 52), ("scaled", 28)]
def tbl2 : List (PySem.Str × Nat) := [("first_of", 33), ("parted_by", 31), ("divisor_by", 34), ("quotient_of", 32), ("normal_of", 40), ("is_whole", 7), ("are_wholes", 9), ("is_ratio", 15), ("is_row", 43), ("is_led_by", 35), ("is_led", 44), ("is_answer", 46), ("check_answer", 47), ("is_between", 8), ("check_many", 50)]
def tbl3 : List (PySem.Str × Nat) := [("are_near", 53), ("numbers_by", 41), ("bounding_by", 54), ("next_numbers", 37), ("led_by", 36), ("bends_by", 38), ("is_steady_by", 39), ("worst_row", 56), ("worst_near", 55), ("_law_plus", 63), ("_law_add", 75), ("_law_less", 76), ("_law_numbers", 81), ("_law_ints", 71), ("_law_mul", 73)]
def tbl4 : List (PySem.Str × Nat) := [("_law_all", 69), ("_law_size", 68), ("_law_sizes", 70), ("_law_below", 67), ("_law_own_bounds", 92), ("_law_some", 83), ("_law_any", 82), ("_law_row", 84), ("_law_is_int", 90), ("_law_is_part", 91), ("_law_are_bounds", 93), ("_law_do_meet", 94), ("_law_pair_factor", 88), ("_law_within", 85), ("_law_factor", 87)]
def tbl5 : List (PySem.Str × Nat) := [("_law_beyond", 86), ("_law_calm", 89), ("_law_same", 95), ("_law_right", 96), ("_law_well", 58), ("law", 97)]
def tbl : List (PySem.Str × Nat) := tbl0 ++ (tbl1 ++ (tbl2 ++ (tbl3 ++ (tbl4 ++ (tbl5)))))
def fn : List He.DefD := tbl.map mkD
def fb0 : List He.Fa := [.free "len", .free "abs", .free "int", .free "list", .free "tuple", .free "all", .free "any", .free "sum", .free "divmod", .free "max", .free "min", .free "repr", .free "range", .free "reversed", .free "zip"]
def fb1 : List He.Fa := [.free "enumerate", .free "isinstance", .free "bool", .int "MOST_MANY" 1000000, .glo "ZERO", .glo "ONE", .glo "UNIT"]
def fb : List He.Fa := fb0 ++ (fb1)
def fa : List He.Fa := tbl.map (fun p => .glo p.1) ++ fb
def loose0 : List PySem.Str := ["HelmError", "InvalidNumber", "InvalidAnswer", "NotSteady", "is_whole", "is_between", "are_wholes", "divisor_of", "lowest", "ZERO", "ONE", "is_ratio", "ratio", "plus", "minus"]
def loose1 : List PySem.Str := ["times", "over", "total", "is_below", "size_of", "UNIT", "trimmed", "number_at", "scaled", "lessened", "multiplied", "parted_by", "quotient_of", "first_of", "divisor_by"]
def loose2 : List PySem.Str := ["is_led_by", "led_by", "next_numbers", "bends_by", "is_steady_by", "normal_of", "numbers_by", "is_row", "is_led", "is_answer", "check_answer", "MOST_MANY", "check_many", "sizes_by", "bounds_by"]
def loose3 : List PySem.Str := ["are_near", "bounding_by", "worst_near", "worst_row", "_law_well", "_law_draw", "_law_pick", "_law_deep", "_law_low", "_law_plus", "_law_minus", "_law_prod", "_law_per", "_law_below", "_law_size"]
def loose4 : List PySem.Str := ["_law_all", "_law_sizes", "_law_ints", "_law_cut", "_law_mul", "_law_times", "_law_add", "_law_less", "_law_parted", "_law_lowest_one", "_law_common", "_law_answer", "_law_numbers", "_law_any", "_law_some"]
def loose5 : List PySem.Str := ["_law_row", "_law_within", "_law_beyond", "_law_factor", "_law_pair_factor", "_law_calm", "_law_is_int", "_law_is_part", "_law_own_bounds", "_law_are_bounds", "_law_do_meet", "_law_same", "_law_right"]
def loose : List PySem.Str := loose0 ++ (loose1 ++ (loose2 ++ (loose3 ++ (loose4 ++ (loose5)))))
def bs : List LkB := [fun K => He.tupB K "ZERO" [.int 0, .int 1], fun K => He.tupB K "ONE" [.int 1, .int 1], fun K => He.tupB K "UNIT" [.glo "ONE"], bltB "gcd" "math.gcd"]
abbrev R : PySem.W.OpenRow := PySem.W.OpenLaw.row PySem.Challenge.rw_allhelms_k44_whole_bounds_of_the_worst
abbrev hk : PySem.W.Hook := hookV 2 fa fn bs
def ob (s : PySem.W.SharedT) : AlV := obsVG 2 fa fn bs (HandSHeadRun.getT s)
theorem ob_eq (s : PySem.W.SharedT) : ob s = hk.obs s.abs := obsVG_eq (HandSHeadRun.getT_eq s)
theorem run (w : World) : HandSHeadRun.RunEqI R (PySem.W.view R.prog [0, 97]) hk ob 3600 loose w := by
  unfold HandSHeadRun.RunEqI
  kernel_rfl
end DL
/-! DL1: the data level. Values are PyData; lists that change have an address of their own. -/
namespace DL
open PySem PySem.Spec PyProof.Rows L2

/-- what a value is: data; a list of its own, new; a list of the caller's; a list that is looked at; the well -/
inductive Rv where
  | d (x : PyData) | l (xs : List PyData) | a (xs : List PyData) | p (xs : List PyData) | w

abbrev W3 := Int × Int × Int
structure S where
  sl : List (Option Rv)
  w : W3

structure Am where
  K : PySem.W.Frag
  H0 : Hp
  F0 : Hp
  pw : Option Addr

mutual
theorem dp_mono {K : PySem.W.Frag} {F F' : Hp} (e : Same F F') : ∀ (d : PyData) (v : V), Dp K F v d → Dp K F' v d
  | .none, _, h => by cases h; exact .non
  | .bool b, _, h => by cases h; exact .bl b
  | .int i, _, h => by cases h; exact .int i
  | .str x, _, h => by cases h; exact .str x
  | .list ds, _, h => by
    cases h with
    | lst hs ha => exact .lst (e.seq hs) (dpa_mono e ds _ ha)
  | .tuple ds, _, h => by
    cases h with
    | tup hs ha =>
      refine .tup ?_ (dpa_mono e ds _ ha)
      rcases hs with (h | ⟨o, h⟩) | h
      · exact .inl (.inl (e _ _ h))
      · exact .inl (.inr ⟨o, e _ _ h⟩)
      · exact .inr h
  | .dict _, _, h => by cases h
theorem dpa_mono {K : PySem.W.Frag} {F F' : Hp} (e : Same F F') : ∀ (ds : List PyData) (vs : List V), DpAll K F vs ds → DpAll K F' vs ds
  | [], _, h => by cases h; exact .nil
  | d :: ds, _, h => by
    cases h with
    | cons h1 h2 => exact .cons (dp_mono e d _ h1) (dpa_mono e ds _ h2)
end
theorem dpa_len {K : PySem.W.Frag} {F : Hp} : ∀ {ds : List PyData} {vs : List V}, DpAll K F vs ds → vs.length = ds.length
  | [], _, h => by cases h; rfl
  | d :: ds, _, h => by
    cases h with
    | cons h1 h2 => simp [dpa_len h2]
theorem dpa_get {K : PySem.W.Frag} {F : Hp} : ∀ {ds : List PyData} {vs : List V} {i : Nat} {d : PyData}, DpAll K F vs ds → ds[i]? = some d → ∃ v, vs[i]? = some v ∧ Dp K F v d
  | [], _, _, _, h, e => by simp at e
  | x :: ds, _, 0, d, h, e => by
    cases h with
    | cons h1 h2 =>
      simp at e
      subst e
      exact ⟨_, rfl, h1⟩
  | x :: ds, _, i + 1, d, h, e => by
    cases h with
    | cons h1 h2 =>
      obtain ⟨v, e1, e2⟩ := dpa_get (i := i) (d := d) h2 (by simpa using e)
      exact ⟨v, by simpa using e1, e2⟩
theorem dpa_append {K : PySem.W.Frag} {F : Hp} : ∀ {xs ys : List PyData} {vs us : List V}, DpAll K F vs xs → DpAll K F us ys → DpAll K F (vs ++ us) (xs ++ ys)
  | [], _, _, _, h, g => by cases h; exact g
  | x :: xs, _, _, _, h, g => by
    cases h with
    | cons h1 h2 => exact .cons h1 (dpa_append h2 g)
theorem dpa_take {K : PySem.W.Frag} {F : Hp} : ∀ {xs : List PyData} {vs : List V} (n : Nat), DpAll K F vs xs → DpAll K F (vs.take n) (xs.take n)
  | _, _, 0, _ => by simpa using DpAll.nil
  | [], _, n + 1, h => by cases h; exact .nil
  | x :: xs, _, n + 1, h => by
    cases h with
    | cons h1 h2 => exact .cons h1 (dpa_take n h2)
theorem dpa_drop {K : PySem.W.Frag} {F : Hp} : ∀ {xs : List PyData} {vs : List V} (n : Nat), DpAll K F vs xs → DpAll K F (vs.drop n) (xs.drop n)
  | _, _, 0, h => by simpa using h
  | [], _, n + 1, h => by cases h; exact .nil
  | x :: xs, _, n + 1, h => by
    cases h with
    | cons h1 h2 => exact dpa_drop n h2
theorem dpa_set {K : PySem.W.Frag} {F : Hp} {v : V} {d : PyData} (hd : Dp K F v d) : ∀ {xs : List PyData} {vs : List V} (n : Nat), DpAll K F vs xs → DpAll K F (vs.set n v) (xs.set n d)
  | [], _, _, h => by cases h; exact .nil
  | x :: xs, _, 0, h => by
    cases h with
    | cons h1 h2 => exact .cons hd h2
  | x :: xs, _, n + 1, h => by
    cases h with
    | cons h1 h2 => exact .cons h1 (dpa_set hd n h2)
theorem dpa_reverse {K : PySem.W.Frag} {F : Hp} : ∀ {xs : List PyData} {vs : List V}, DpAll K F vs xs → DpAll K F vs.reverse xs.reverse
  | [], _, h => by cases h; exact .nil
  | x :: xs, _, h => by
    cases h with
    | cons h1 h2 =>
      rw [List.reverse_cons, List.reverse_cons]
      exact dpa_append (dpa_reverse h2) (.cons h1 .nil)

/-! ### relations -/
def ListR (A : Am) (H F : Hp) (v : V) (xs : List PyData) : Prop := ∃ p vs, v = .ref p ∧ H p = some (.lst vs) ∧ A.pw ≠ some p ∧ DpAll A.K F vs xs
/-- a slot's value -/
def SltR (A : Am) (H F : Hp) (v : V) : Rv → Prop
  | .d x => Dp A.K F v x
  | .l xs => ∃ p vs, v = .ref p ∧ A.H0 p = none ∧ F p = none ∧ H p = some (.lst vs) ∧ DpAll A.K F vs xs
  | .a xs => ∃ p vs, v = .ref p ∧ A.H0 p = some (.lst vs) ∧ A.pw ≠ some p ∧ DpAll A.K F vs xs
  | .p _ => False
  | .w => ∃ p, v = .ref p ∧ A.pw = some p
def WellR (A : Am) (H : Hp) (w : W3) : Prop := ∀ p, A.pw = some p → H p = some (.lst [.int w.1, .int w.2.1, .int w.2.2]) ∧ A.H0 p ≠ none ∧ A.F0 p = none
/-- the heaps against the entry's -/
structure Gd (A : Am) (H F : Hp) : Prop where
  ext : ∀ a o, A.H0 a = some o → A.pw ≠ some a → H a = some o
  old : ∀ a, A.H0 a ≠ none → H a ≠ none
  sub : Same F H
  sub0 : Same A.F0 F
  new : ∀ a, F a ≠ none → A.F0 a ≠ none ∨ A.H0 a = none
structure Rel (A : Am) (σ : L2.St) (H F : Hp) (s : S) : Prop where
  gd : Gd A H F
  well : WellR A H s.w
  len : σ.length = s.sl.length
  slot : ∀ (i : Nat) (r : Rv), s.sl[i]? = some (some r) → ∃ v, σ[i]? = some (some v) ∧ SltR A H F v r
  dist : ∀ (i j : Nat) (xs ys : List PyData), s.sl[i]? = some (some (.l xs)) → s.sl[j]? = some (some (.l ys)) → i ≠ j → σ[i]? ≠ σ[j]?
/-- a step of an expression -/
structure Fw (A : Am) (H F H' F' : Hp) : Prop where
  ext : ∀ a o, H a = some o → A.pw ≠ some a → H' a = some o
  old : ∀ a, H a ≠ none → H' a ≠ none
  sub : Same F F'
  sub' : Same F' H'
  new : ∀ a, F' a ≠ none → F a ≠ none ∨ H a = none
/-- a result: new lists are new since H -/
def ResR (A : Am) (H H' F' : Hp) (v : V) : Rv → Prop
  | .d x => Dp A.K F' v x
  | .l xs => ∃ p vs, v = .ref p ∧ H p = none ∧ F' p = none ∧ H' p = some (.lst vs) ∧ DpAll A.K F' vs xs
  | .a xs => ∃ p vs, v = .ref p ∧ A.H0 p = some (.lst vs) ∧ A.pw ≠ some p ∧ DpAll A.K F' vs xs
  | .p xs => ListR A H' F' v xs
  | .w => ∃ p, v = .ref p ∧ A.pw = some p
/-- a value in hand -/
def ValR (A : Am) (H F : Hp) (v : V) : Rv → Prop
  | .d x => Dp A.K F v x
  | .l xs => ListR A H F v xs
  | .a xs => ListR A H F v xs
  | .p xs => ListR A H F v xs
  | .w => ∃ p, v = .ref p ∧ A.pw = some p

section
variable {A : Am} {σ : L2.St} {H F H' F' H1 F1 H2 F2 : Hp} {s : S} {v : V} {r : Rv}
theorem Gd.pwF (g : Gd A H F) (hw : WellR A H s.w) {p : Addr} (h : A.pw = some p) : F p = none := by
  cases e : F p with
  | none => rfl
  | some o =>
    obtain ⟨_, h1, h2⟩ := hw p h
    rcases g.new p (by rw [e]; simp) with q | q
    · exact absurd h2 q
    · exact absurd q h1
theorem Fw.refl (h : Same F H) : Fw A H F H F := ⟨fun _ _ e _ => e, fun _ e => e, Same.refl F, h, fun _ e => .inl e⟩
theorem Fw.trans (a : Fw A H F H1 F1) (b : Fw A H1 F1 H2 F2) : Fw A H F H2 F2 :=
  ⟨fun c o e n => b.ext c o (a.ext c o e n) n, fun c e => b.old c (a.old c e), a.sub.trans b.sub, b.sub', fun c e => by
    rcases b.new c e with q | q
    · exact a.new c q
    · right
      cases e2 : H c with
      | none => rfl
      | some o => exact absurd q (a.old c (by rw [e2]; simp))⟩
theorem Gd.fw (g : Gd A H F) (f : Fw A H F H' F') : Gd A H' F' where
  ext := fun a o e n => f.ext a o (g.ext a o e n) n
  old := fun a e => f.old a (g.old a e)
  sub := f.sub'
  sub0 := g.sub0.trans f.sub
  new := fun a e => by
    rcases f.new a e with q | q
    · exact g.new a q
    · right
      cases e2 : A.H0 a with
      | none => rfl
      | some o => exact absurd q (g.old a (by rw [e2]; simp))
theorem own_ne_pw {w : W3} (hw : WellR A H w) {p : Addr} (h : A.H0 p = none) : A.pw ≠ some p := fun e => (hw p e).2.1 h
theorem ListR.fw {xs : List PyData} (h : ListR A H F v xs) (f : Fw A H F H' F') : ListR A H' F' v xs := by
  obtain ⟨p, vs, e, h1, h2, h3⟩ := h
  exact ⟨p, vs, e, f.ext _ _ h1 h2, h2, dpa_mono f.sub _ _ h3⟩
theorem ValR.fw (h : ValR A H F v r) (f : Fw A H F H' F') : ValR A H' F' v r := by
  cases r with
  | d x => exact dp_mono f.sub _ _ h
  | l xs => exact ListR.fw h f
  | a xs => exact ListR.fw h f
  | p xs => exact ListR.fw h f
  | w => exact h
theorem SltR.fw {w : W3} (hw : WellR A H w) (h : SltR A H F v r) (f : Fw A H F H' F') : SltR A H' F' v r := by
  cases r with
  | d x => exact dp_mono f.sub _ _ h
  | l xs =>
    obtain ⟨p, vs, e, h0, hF, h1, h3⟩ := h
    refine ⟨p, vs, e, h0, ?_, f.ext _ _ h1 (own_ne_pw hw h0), dpa_mono f.sub _ _ h3⟩
    cases q : F' p with
    | none => rfl
    | some o =>
      rcases f.new p (by rw [q]; simp) with z | z
      · exact absurd hF z
      · rw [h1] at z; cases z
  | a xs =>
    obtain ⟨p, vs, e, h0, h1, h3⟩ := h
    exact ⟨p, vs, e, h0, h1, dpa_mono f.sub _ _ h3⟩
  | p xs => exact h.elim
  | w => exact h
theorem Rel.fw (R : Rel A σ H F s) (f : Fw A H F H' F') {w' : W3} (hw : WellR A H' w') : Rel A σ H' F' ⟨s.sl, w'⟩ :=
  ⟨R.gd.fw f, hw, R.len, fun i r e => let ⟨v, e1, h1⟩ := R.slot i r e; ⟨v, e1, h1.fw R.well f⟩, R.dist⟩
theorem Rel.fw0 (R : Rel A σ H F s) (f : Fw A H F H' F') (hp : ∀ p, A.pw = some p → H' p = H p) : Rel A σ H' F' s := by
  have := R.fw f (w' := s.w) (fun p hp' => by rw [hp p hp']; exact R.well p hp')
  exact this
theorem ResR.val (g : Gd A H F) {w : W3} (hw : WellR A H w) (f : Fw A H F H' F') (h : ResR A H H' F' v r) : ValR A H' F' v r := by
  cases r with
  | d x => exact h
  | l xs =>
    obtain ⟨p, vs, e, h0, hF, h1, h3⟩ := h
    refine ⟨p, vs, e, h1, fun e2 => ?_, h3⟩
    have := (hw p e2).1
    rw [h0] at this; cases this
  | a xs =>
    obtain ⟨p, vs, e, h0, h1, h3⟩ := h
    exact ⟨p, vs, e, f.ext _ _ (g.ext _ _ h0 h1) h1, h1, h3⟩
  | p xs => exact h
  | w => exact h
theorem ResR.early (h : ResR A H1 H2 F2 v r) (k : ∀ a, H a ≠ none → H1 a ≠ none) : ResR A H H2 F2 v r := by
  cases r with
  | l xs =>
    obtain ⟨p, vs, e, h0, hr⟩ := h
    refine ⟨p, vs, e, ?_, hr⟩
    cases q : H p with
    | none => rfl
    | some o => exact absurd h0 (k p (by rw [q]; simp))
  | d x => exact h
  | a xs => exact h
  | p xs => exact h
  | w => exact h
/-- a result, later -/
theorem ResR.later (h : ResR A H H1 F1 v r) (f : Fw A H1 F1 H2 F2) (hpw : ∀ p, A.pw = some p → H p ≠ none) : ResR A H H2 F2 v r := by
  cases r with
  | d x => exact dp_mono f.sub _ _ h
  | l xs =>
    obtain ⟨p, vs, e, h0, hF, h1, h3⟩ := h
    refine ⟨p, vs, e, h0, ?_, f.ext _ _ h1 (fun q => hpw p q h0), dpa_mono f.sub _ _ h3⟩
    cases q : F2 p with
    | none => rfl
    | some o =>
      rcases f.new p (by rw [q]; simp) with z | z
      · exact absurd hF z
      · rw [h1] at z; cases z
  | a xs =>
    obtain ⟨p, vs, e, h0, h1, h3⟩ := h
    exact ⟨p, vs, e, h0, h1, dpa_mono f.sub _ _ h3⟩
  | p xs => exact ListR.fw h f
  | w => exact h
theorem Rel.pwH (R : Rel A σ H F s) : ∀ p, A.pw = some p → H p ≠ none := fun p h => by rw [(R.well p h).1]; simp
end

/-! ### the new objects -/
section
variable {A : Am} {σ : L2.St} {H F : Hp} {s : S}
theorem none_of_same {F H : Hp} (h : Same F H) {p : Addr} (e : H p = none) : F p = none := h.free e
/-- a new object that is frozen at once -/
theorem fw_froz (h : Same F H) {p : Addr} {o : HO} (e : H p = none) : Fw A H F (upd H p o) (upd F p o) := by
  refine ⟨fun a u q _ => by rw [upd_ne (ne_of_none q e)]; exact q, fun a q => ?_, fun a u q => by rw [upd_ne (ne_of_none q (h.free e))]; exact q, fun a u q => ?_, fun a q => ?_⟩
  · unfold upd; split
    · simp
    · exact q
  · unfold upd at q ⊢
    split
    · rename_i c; rw [if_pos c] at q; exact q
    · rename_i c; rw [if_neg c] at q; exact h _ _ q
  · by_cases c : a = p
    · subst c; exact .inr e
    · rw [upd_ne c] at q; exact .inl q
/-- a new object that is not frozen -/
theorem fw_new (h : Same F H) {p : Addr} {o : HO} (e : H p = none) : Fw A H F (upd H p o) F := by
  refine ⟨fun a u q _ => by rw [upd_ne (ne_of_none q e)]; exact q, fun a q => ?_, Same.refl F, fun a u q => ?_, fun a q => .inl q⟩
  · unfold upd; split
    · simp
    · exact q
  · rw [upd_ne (ne_of_none (h _ _ q) e)]; exact h _ _ q
theorem pw_new (R : Rel A σ H F s) {p : Addr} {o : HO} (e : H p = none) : ∀ q, A.pw = some q → upd H p o q = H q := fun q h => by
  have := R.pwH q h
  rw [upd_ne]
  intro z; subst z; exact this e
end

/-! ### the judgements -/
/-- the same slots, another well -/
abbrev S.wl (s : S) (w : W3) : S := ⟨s.sl, w⟩
abbrev TD := S → (Rv → W3 → Prop) → Prop
abbrev TDT := S → (Bool → W3 → Prop) → Prop
structure De where
  nx : S → Prop
  rt : Rv → W3 → Prop
  bk : S → Prop := fun _ => False
  ct : S → Prop := fun _ => False
abbrev TSD := De → S → Prop

structure DE (A : Am) (te : TE) (t : TD) : Prop where
  run : ∀ σ H F s (Q : Rv → W3 → Prop) (Q' : VK), Rel A σ H F s → t s Q → (∀ v H' F' r w', Fw A H F H' F' → WellR A H' w' → ResR A H H' F' v r → Q r w' → Q' v H') → te σ H Q'
structure DT (A : Am) (tt : TT) (t : TDT) : Prop where
  run : ∀ σ H F s (Q : Bool → W3 → Prop) (Q' : Bool → Hp → Prop), Rel A σ H F s → t s Q → (∀ b H' F' w', Fw A H F H' F' → WellR A H' w' → Q b w' → Q' b H') → tt σ H Q'

/-- an end of the function -/
def RetR (A : Am) (H F : Hp) (v : V) : Rv → Prop
  | .d x => Dp A.K F v x
  | .l xs => ∃ p vs, v = .ref p ∧ A.H0 p = none ∧ F p = none ∧ H p = some (.lst vs) ∧ DpAll A.K F vs xs
  | _ => False
structure EndsR (A : Am) (F0 : Hp) (D : De) (D' : Ends) : Prop where
  nx : ∀ σ H F s, Same F0 F → Rel A σ H F s → D.nx s → D'.nx σ H
  bk : ∀ σ H F s, Same F0 F → Rel A σ H F s → D.bk s → D'.bk σ H
  ct : ∀ σ H F s, Same F0 F → Rel A σ H F s → D.ct s → D'.ct σ H
  rt : ∀ v H F r w, Gd A H F → WellR A H w → RetR A H F v r → D.rt r w → D'.rt v H
structure DS (A : Am) (ts : TS) (t : TSD) : Prop where
  run : ∀ σ H F s D D', Rel A σ H F s → t D s → EndsR A F D D' → ts D' σ H

/-! ### names, constants -/
def dVar (i : Nat) : TD := fun s Q => match s.sl[i]? with
  | some (some (.d x)) => Q (.d x) s.w
  | some (some (.l xs)) => Q (.p xs) s.w
  | some (some (.a xs)) => Q (.a xs) s.w
  | some (some .w) => Q .w s.w
  | _ => False
def dC (x : PyData) : TD := fun s Q => Q (.d x) s.w
section
variable {A : Am}
theorem de_var {i : Nat} : DE A (tVar i) (dVar i) := by
  refine ⟨fun σ H F s Q Q' R h k => ?_⟩
  unfold dVar at h
  split at h
  · rename_i x e
    obtain ⟨v, e1, h1⟩ := R.slot i _ e
    exact ⟨v, e1, k v H F (.d x) s.w (Fw.refl R.gd.sub) R.well h1 h⟩
  · rename_i xs e
    obtain ⟨v, e1, p, vs, e2, h0, hF, h1, h3⟩ := R.slot i _ e
    exact ⟨v, e1, k v H F (.p xs) s.w (Fw.refl R.gd.sub) R.well ⟨p, vs, e2, h1, own_ne_pw R.well h0, h3⟩ h⟩
  · rename_i xs e
    obtain ⟨v, e1, h1⟩ := R.slot i _ e
    exact ⟨v, e1, k v H F (.a xs) s.w (Fw.refl R.gd.sub) R.well h1 h⟩
  · rename_i e
    obtain ⟨v, e1, h1⟩ := R.slot i _ e
    exact ⟨v, e1, k v H F .w s.w (Fw.refl R.gd.sub) R.well h1 h⟩
  · exact h.elim
theorem de_c {v : V} {x : PyData} (h : ∀ F : Hp, Dp A.K F v x) : DE A (tC v) (dC x) :=
  ⟨fun _ H F s _ _ R q k => k v H F (.d x) s.w (Fw.refl R.gd.sub) R.well (h F) q⟩
theorem de_int {i : Int} : DE A (tC (.int i)) (dC (.int i)) := de_c fun _ => .int i
theorem de_bl {b : Bool} : DE A (tC (.bl b)) (dC (.bool b)) := de_c fun _ => .bl b
theorem de_non : DE A (tC .non) (dC .none) := de_c fun _ => .non
theorem de_str {x : Str} : DE A (tC (.str x)) (dC (.str x)) := de_c fun _ => .str x
end

/-! ### operations by values -/
/-- two values in, one out -/
structure OpD (A : Am) (r : R2) (f : Rv → Rv → (Rv → Prop) → Prop) : Prop where
  run : ∀ σ H F s x y rx ry (Q : Rv → Prop) (Q' : VK), Rel A σ H F s → ValR A H F x rx → ValR A H F y ry → f rx ry Q → (∀ v H' F' r', Fw A H F H' F' → WellR A H' s.w → ResR A H H' F' v r' → Q r' → Q' v H') → r x y H Q'
def dOp (f : Rv → Rv → (Rv → Prop) → Prop) (ta tb : TD) : TD := fun s Q => ta s fun x w1 => tb (s.wl w1) fun y w2 => f x y fun z => Q z w2
theorem de_op {A : Am} {r : R2} {f} {ta tb : TE} {da db : TD} (ho : OpD A r f) (ha : DE A ta da) (hb : DE A tb db) : DE A (tOp r ta tb) (dOp f da db) := by
  refine ⟨fun σ H F s Q Q' R h k => ?_⟩
  refine ha.run σ H F s _ _ R h fun x H1 F1 rx w1 f1 W1 v1 h1 => ?_
  have R1 := R.fw f1 W1
  refine hb.run σ H1 F1 _ _ _ R1 h1 fun y H2 F2 ry w2 f2 W2 v2 h2 => ?_
  have R2 := R1.fw f2 W2
  refine ho.run σ H2 F2 _ x y rx ry _ _ R2 ((v1.val R.gd R.well f1).fw f2) (v2.val R1.gd R1.well f2) h2 fun v H3 F3 r3 f3 W3 v3 h3 => ?_
  exact k v H3 F3 r3 w2 ((f1.trans f2).trans f3) W3 (v3.early fun a e => (f1.trans f2).old a e) h3
/-- one value in -/
structure UnD (A : Am) (r : V → Hp → VK → Prop) (f : Rv → (Rv → Prop) → Prop) : Prop where
  run : ∀ σ H F s x rx (Q : Rv → Prop) (Q' : VK), Rel A σ H F s → ValR A H F x rx → f rx Q → (∀ v H' F' r', Fw A H F H' F' → WellR A H' s.w → ResR A H H' F' v r' → Q r' → Q' v H') → r x H Q'
def dUn (f : Rv → (Rv → Prop) → Prop) (ta : TD) : TD := fun s Q => ta s fun x w1 => f x fun z => Q z w1
theorem de_un {A : Am} {r} {f} {ta : TE} {da : TD} (ho : UnD A r f) (ha : DE A ta da) : DE A (tUn r ta) (dUn f da) := by
  refine ⟨fun σ H F s Q Q' R h k => ?_⟩
  refine ha.run σ H F s _ _ R h fun x H1 F1 rx w1 f1 W1 v1 h1 => ?_
  have R1 := R.fw f1 W1
  refine ho.run σ H1 F1 _ x rx _ _ R1 (v1.val R.gd R.well f1) h1 fun v H3 F3 r3 f3 W3 v3 h3 => ?_
  exact k v H3 F3 r3 w1 (f1.trans f3) W3 (v3.early fun a e => f1.old a e) h3

/-- ints -/
def fI (C : Int → Int → Prop) (g : Int → Int → PyData) : Rv → Rv → (Rv → Prop) → Prop
  | .d (.int i), .d (.int j), Q => C i j ∧ Q (.d (g i j))
  | _, _, _ => False
def fI0 (g : Int → Int → PyData) : Rv → Rv → (Rv → Prop) → Prop
  | .d (.int i), .d (.int j), Q => Q (.d (g i j))
  | _, _, _ => False
section
variable {A : Am}
theorem od_I {C : Int → Int → Prop} {g : Int → Int → V} {g' : Int → Int → PyData} (hg : ∀ i j (F : Hp), Dp A.K F (g i j) (g' i j)) : OpD A (rI C g) (fI C g') := by
  refine ⟨fun σ H F s x y rx ry Q Q' R hx hy h k => ?_⟩
  unfold fI at h
  split at h
  · cases hx
    cases hy
    exact ⟨_, _, rfl, rfl, h.1, k _ H F (.d _) (Fw.refl R.gd.sub) R.well (hg _ _ F) h.2⟩
  · exact h.elim
theorem od_I0 {g : Int → Int → V} {g' : Int → Int → PyData} (hg : ∀ i j (F : Hp), Dp A.K F (g i j) (g' i j)) : OpD A (rI0 g) (fI0 g') := by
  refine ⟨fun σ H F s x y rx ry Q Q' R hx hy h k => ?_⟩
  unfold fI0 at h
  split at h
  · cases hx
    cases hy
    exact ⟨_, _, rfl, rfl, k _ H F (.d _) (Fw.refl R.gd.sub) R.well (hg _ _ F) h⟩
  · exact h.elim
theorem od_ii {C : Int → Int → Prop} {g : Int → Int → Int} : OpD A (rI C fun i j => .int (g i j)) (fI C fun i j => .int (g i j)) := od_I fun _ _ _ => .int _
theorem od_ii0 {g : Int → Int → Int} : OpD A (rI0 fun i j => .int (g i j)) (fI0 fun i j => .int (g i j)) := od_I0 fun _ _ _ => .int _
theorem od_ib0 {g : Int → Int → Bool} : OpD A (rI0 fun i j => .bl (g i j)) (fI0 fun i j => .bool (g i j)) := od_I0 fun _ _ _ => .bl _
def fU (g : Int → Int) : Rv → (Rv → Prop) → Prop
  | .d (.int i), Q => Q (.d (.int (g i)))
  | _, _ => False
theorem ud_U {g : Int → Int} : UnD A (rU fun i => .int (g i)) (fU g) := by
  refine ⟨fun σ H F s x rx Q Q' R hx h k => ?_⟩
  unfold fU at h
  split at h
  · cases hx
    exact ⟨_, rfl, k _ H F (.d _) (Fw.refl R.gd.sub) R.well (Dp.int _) h⟩
  · exact h.elim
/-- a value as data (lists too), where it is only looked at -/
def datOf : Rv → Option PyData
  | .d x => some x
  | .l xs => some (.list xs)
  | .a xs => some (.list xs)
  | .p xs => some (.list xs)
  | .w => none
theorem val_dp {H F : Hp} {v : V} {r : Rv} {x : PyData} (hs : Same F H) (h : ValR A H F v r) (e : datOf r = some x) : Dp A.K H v x := by
  cases r with
  | d y => cases e; exact dp_mono hs _ _ h
  | l xs => cases e; obtain ⟨p, vs, rfl, h1, _, h3⟩ := h; exact .lst (SqL.of h1) (dpa_mono hs _ _ h3)
  | a xs => cases e; obtain ⟨p, vs, rfl, h1, _, h3⟩ := h; exact .lst (SqL.of h1) (dpa_mono hs _ _ h3)
  | p xs => cases e; obtain ⟨p, vs, rfl, h1, _, h3⟩ := h; exact .lst (SqL.of h1) (dpa_mono hs _ _ h3)
  | w => cases e
def fEq (neg : Bool) : Rv → Rv → (Rv → Prop) → Prop := fun x y Q => match datOf x, datOf y with
  | some a, some b => (SeqAt.shaped a = true ∧ SeqAt.shaped b = true) ∧ Q (.d (.bool (if neg then !PyData.eqv a b else PyData.eqv a b)))
  | _, _ => False
theorem od_eq : OpD A (rEqD A.K) (fEq false) := by
  refine ⟨fun σ H F s x y rx ry Q Q' R hx hy h k => ?_⟩
  unfold fEq at h
  split at h
  · rename_i a b ea eb
    exact ⟨_, _, val_dp R.gd.sub hx ea, val_dp R.gd.sub hy eb, h.1.1, h.1.2, k _ H F (.d _) (Fw.refl R.gd.sub) R.well (Dp.bl _) h.2⟩
  · exact h.elim
theorem od_ne : OpD A (rNeD A.K) (fEq true) := by
  refine ⟨fun σ H F s x y rx ry Q Q' R hx hy h k => ?_⟩
  unfold fEq at h
  split at h
  · rename_i a b ea eb
    exact ⟨_, _, val_dp R.gd.sub hx ea, val_dp R.gd.sub hy eb, h.1.1, h.1.2, k _ H F (.d _) (Fw.refl R.gd.sub) R.well (Dp.bl _) h.2⟩
  · exact h.elim
end
end DL
/-! DL2: arguments, displays, calls, tests. -/
namespace DL
open PySem PySem.Spec PyProof.Rows L2

/-! ### arguments -/
abbrev TDA := S → (List Rv → W3 → Prop) → Prop
abbrev TDD := S → (List PyData → W3 → Prop) → Prop
/-- how a callee sees a value -/
def argOf : Rv → Rv
  | .d x => .d x
  | .l xs => .d (.list xs)
  | .a xs => .a xs
  | .p xs => .a xs
  | .w => .w
def ArgR (A : Am) (H F : Hp) (v : V) : Rv → Prop
  | .d x => Dp A.K F v x
  | .a xs => ListR A H F v xs
  | .w => ∃ p, v = .ref p ∧ A.pw = some p
  | _ => False
inductive ArgsR (A : Am) (H F : Hp) : List V → List Rv → Prop
  | nil : ArgsR A H F [] []
  | cons {v : V} {vs : List V} {r : Rv} {rs : List Rv} : ArgR A H F v r → ArgsR A H F vs rs → ArgsR A H F (v :: vs) (r :: rs)
structure DA (A : Am) (ta : TA) (t : TDA) : Prop where
  run : ∀ σ H F s (Q : List Rv → W3 → Prop) (Q' : List V → Hp → Prop), Rel A σ H F s → t s Q → (∀ vs H' F' rs w', Fw A H F H' F' → WellR A H' w' → ArgsR A H' F' vs rs → Q rs w' → Q' vs H') → ta σ H Q'
/-- a display's parts: they are kept -/
def keepOf : Rv → Option PyData
  | .d x => some x
  | .l xs => some (.list xs)
  | _ => none
structure DD (A : Am) (ta : TA) (t : TDD) : Prop where
  run : ∀ σ H F s (Q : List PyData → W3 → Prop) (Q' : List V → Hp → Prop), Rel A σ H F s → t s Q → (∀ vs H' F' xs w', Fw A H F H' F' → WellR A H' w' → DpAll A.K F' vs xs → Q xs w' → Q' vs H') → ta σ H Q'
section
variable {A : Am} {σ : L2.St} {H F H' F' H1 F1 : Hp} {s : S} {v : V}
theorem ArgR.fw {r : Rv} (h : ArgR A H F v r) (f : Fw A H F H' F') : ArgR A H' F' v r := by
  cases r with
  | d x => exact dp_mono f.sub _ _ h
  | a xs => exact ListR.fw h f
  | w => exact h
  | l xs => exact h
  | p xs => exact h
theorem ArgR.val {r : Rv} (h : ArgR A H F v r) : ValR A H F v r := by
  cases r with
  | d x => exact h
  | a xs => exact h
  | w => exact h
  | l xs => exact h.elim
  | p xs => exact h.elim
theorem ArgsR.fw {vs : List V} {rs : List Rv} (h : ArgsR A H F vs rs) (f : Fw A H F H' F') : ArgsR A H' F' vs rs := by
  induction h with
  | nil => exact .nil
  | cons h _ ih => exact .cons (h.fw f) ih
theorem ArgsR.len {vs : List V} {rs : List Rv} (h : ArgsR A H F vs rs) : vs.length = rs.length := by
  induction h with
  | nil => rfl
  | cons h _ ih => simp [ih]
theorem ArgsR.amb {vs : List V} {rs : List Rv} {H0 F0 : Hp} (h : ArgsR A H F vs rs) : ArgsR ⟨A.K, H0, F0, A.pw⟩ H F vs rs := by
  induction h with
  | nil => exact .nil
  | @cons v vs r rs h _ ih =>
    refine .cons ?_ ih
    cases r <;> exact h
/-- a new list is frozen -/
theorem Fw.froz (f : Fw A H F H1 F1) {p : Addr} {o : HO} (h0 : H p = none) (h1 : H1 p = some o) (hF : F1 p = none) : Fw A H F H1 (upd F1 p o) := by
  refine ⟨f.ext, f.old, fun a u q => ?_, fun a u q => ?_, fun a q => ?_⟩
  · have := f.sub a u q
    rw [upd_ne (ne_of_none this hF)]; exact this
  · by_cases c : a = p
    · subst c; rw [upd_same] at q; cases q; exact h1
    · rw [upd_ne c] at q; exact f.sub' a u q
  · by_cases c : a = p
    · subst c; exact .inr h0
    · rw [upd_ne c] at q; exact f.new a q
theorem same_upd {F : Hp} {p : Addr} {o : HO} (h : F p = none) : Same F (upd F p o) := fun a u q => by
  rw [upd_ne (ne_of_none q h)]; exact q
/-- a result is kept: as data -/
theorem ResR.keep {r : Rv} {x : PyData} (f : Fw A H F H1 F1) (h : ResR A H H1 F1 v r) (e : keepOf r = some x) :
    ∃ F2, Fw A H F H1 F2 ∧ Same F1 F2 ∧ Dp A.K F2 v x := by
  cases r with
  | d y => cases e; exact ⟨F1, f, Same.refl _, h⟩
  | l xs =>
    cases e
    obtain ⟨p, vs, rfl, h0, hF, h1, h3⟩ := h
    exact ⟨_, f.froz h0 h1 hF, same_upd hF, .lst (SqL.of upd_same) (dpa_mono (same_upd hF) _ _ h3)⟩
  | a xs => cases e
  | p xs => cases e
  | w => cases e
theorem ResR.arg {r : Rv} (R : Rel A σ H F s) (f : Fw A H F H1 F1) (h : ResR A H H1 F1 v r) :
    ∃ F2, Fw A H F H1 F2 ∧ Same F1 F2 ∧ ArgR A H1 F2 v (argOf r) := by
  cases r with
  | d y => exact ⟨F1, f, Same.refl _, h⟩
  | l xs =>
    obtain ⟨F2, f2, s2, d2⟩ := ResR.keep (x := .list xs) f h rfl
    exact ⟨F2, f2, s2, d2⟩
  | a xs =>
    have := ResR.val R.gd R.well f h
    exact ⟨F1, f, Same.refl _, this⟩
  | p xs => exact ⟨F1, f, Same.refl _, h⟩
  | w => exact ⟨F1, f, Same.refl _, h⟩
end
def daNil : TDA := fun s Q => Q [] s.w
def daCons (ta : TD) (tr : TDA) : TDA := fun s Q => ta s fun x w1 => tr (s.wl w1) fun xs w2 => Q (argOf x :: xs) w2
def ddNil : TDD := fun s Q => Q [] s.w
def kp (r : Rv) (k : PyData → Prop) : Prop := match keepOf r with
  | some x => k x
  | none => False
def ddCons (ta : TD) (tr : TDD) : TDD := fun s Q => ta s fun x w1 => kp x fun y => tr (s.wl w1) fun xs w2 => Q (y :: xs) w2
section
variable {A : Am}
theorem da_nil : DA A tNil daNil := ⟨fun σ H F s Q Q' R h k => k [] H F [] s.w (Fw.refl R.gd.sub) R.well .nil h⟩
theorem da_cons {te : TE} {t : TA} {d : TD} {ds : TDA} (h1 : DE A te d) (h2 : DA A t ds) : DA A (tCons te t) (daCons d ds) := by
  refine ⟨fun σ H F s Q Q' R h k => ?_⟩
  refine h1.run σ H F s _ _ R h fun x H1 F1 rx w1 f1 W1 v1 q1 => ?_
  obtain ⟨F2, f2, _, a2⟩ := v1.arg R f1
  have R2 := R.fw f2 W1
  refine h2.run σ H1 F2 _ _ _ R2 q1 fun vs H3 F3 rs w3 f3 W3 as q3 => ?_
  exact k _ H3 F3 _ w3 (f2.trans f3) W3 (.cons (a2.fw f3) as) q3
theorem dd_nil : DD A tNil ddNil := ⟨fun σ H F s Q Q' R h k => k [] H F [] s.w (Fw.refl R.gd.sub) R.well .nil h⟩
theorem dd_cons {te : TE} {t : TA} {d : TD} {ds : TDD} (h1 : DE A te d) (h2 : DD A t ds) : DD A (tCons te t) (ddCons d ds) := by
  refine ⟨fun σ H F s Q Q' R h k => ?_⟩
  refine h1.run σ H F s _ _ R h fun x H1 F1 rx w1 f1 W1 v1 q1 => ?_
  unfold kp at q1
  split at q1
  · rename_i y ey
    obtain ⟨F2, f2, _, a2⟩ := v1.keep f1 ey
    have R2 := R.fw f2 W1
    refine h2.run σ H1 F2 _ _ _ R2 q1 fun vs H3 F3 rs w3 f3 W3 as q3 => ?_
    exact k _ H3 F3 _ w3 (f2.trans f3) W3 (.cons (dp_mono f3.sub _ _ a2) as) q3
  · exact q1.elim

/-! ### displays -/
def small (n : Nat) (k : Prop) : Prop := match Nat.ble n 1000 with
  | true => k
  | false => False
theorem small_of {n : Nat} {k : Prop} (h : small n k) : n ≤ sizeLine ∧ k := by
  unfold small at h
  split at h
  · rename_i e
    have := Nat.le_of_ble_eq_true e
    exact ⟨Nat.le_of_lt (small1000 this), h⟩
  · exact h.elim
def dTup (t : TDD) : TD := fun s Q => t s fun xs w => small xs.length (Q (.d (.tuple xs)) w)
def dLst (t : TDD) : TD := fun s Q => t s fun xs w => small xs.length (Q (.l xs) w)
theorem WellR.fw {A : Am} {H H' F F' : Hp} {w : W3} (W : WellR A H w) (f : Fw A H F H' F') (hp : ∀ p, A.pw = some p → H' p = H p) : WellR A H' w := fun p hp' => by rw [hp p hp']; exact W p hp'
theorem well_new {H : Hp} {w : W3} (W : WellR A H w) {p : Addr} {o : HO} (e : H p = none) : WellR A (upd H p o) w := fun q hq => by
  rw [upd_ne]
  · exact W q hq
  · intro z; subst z; rw [(W q hq).1] at e; cases e
theorem de_tup {t : TA} {d : TDD} (h : DD A t d) : DE A (tTup t) (dTup d) := by
  refine ⟨fun σ H F s Q Q' R q k => ?_⟩
  refine h.run σ H F s _ _ R q fun vs H1 F1 xs w1 f1 W1 as q1 => ?_
  obtain ⟨hz, q1⟩ := small_of q1
  refine ⟨by rw [dpa_len as]; exact hz, fun p hp => ?_⟩
  have hF := none_of_same f1.sub' hp
  exact k (.ref p) _ (upd F1 p (.tup vs)) (.d (.tuple xs)) w1 (f1.trans (fw_froz f1.sub' hp)) (well_new W1 hp) (.tup (.inl (.inl upd_same)) (dpa_mono (same_upd hF) _ _ as)) q1
theorem de_lst {t : TA} {d : TDD} (h : DD A t d) : DE A (tLst t) (dLst d) := by
  refine ⟨fun σ H F s Q Q' R q k => ?_⟩
  refine h.run σ H F s _ _ R q fun vs H1 F1 xs w1 f1 W1 as q1 => ?_
  obtain ⟨hz, q1⟩ := small_of q1
  refine ⟨by rw [dpa_len as]; exact hz, fun p hp => ?_⟩
  refine k (.ref p) _ F1 (.l xs) w1 (f1.trans (fw_new f1.sub' hp)) (well_new W1 hp) ⟨p, vs, rfl, ?_, none_of_same f1.sub' hp, upd_same, as⟩ q1
  cases e : H p with
  | none => rfl
  | some o => exact absurd hp (f1.old p (by rw [e]; simp))

/-! ### calls of defs -/
abbrev FSpec := List Rv → W3 → (Rv → W3 → Prop) → Prop
def spD (K : PySem.W.Frag) (n : Nat) (Sp : FSpec) : L2.Sp := fun vs H Q _ => vs.length = n ∧ ∃ (F : Hp) (pw : Option Addr) (w : W3) (rs : List Rv) (k : Rv → W3 → Prop),
  Same F H ∧ (∀ p, pw = some p → H p = some (.lst [.int w.1, .int w.2.1, .int w.2.2]) ∧ F p = none) ∧ ArgsR ⟨K, H, F, pw⟩ H F vs rs ∧ Sp rs w k ∧
  ∀ v H' F' r w', Gd ⟨K, H, F, pw⟩ H' F' → WellR ⟨K, H, F, pw⟩ H' w' → RetR ⟨K, H, F, pw⟩ H' F' v r → k r w' → Q v H'
theorem spD_len {K : PySem.W.Frag} {n : Nat} {Sp : FSpec} (vs : List V) (H : Hp) (Q : VK) (E : XK) (h : spD K n Sp vs H Q E) : vs.length = n := h.1
def dCall (n : Nat) (Sp : FSpec) (t : TDA) : TD := fun s Q => t s fun rs w => (match Nat.beq rs.length n with
  | true => Sp rs w Q
  | false => False)
theorem de_call {n : Nat} {Sp : FSpec} {E : XK} {t : TA} {d : TDA} (h : DA A t d) : DE A (tCall (spD A.K n Sp) [] E t) (dCall n Sp d) := by
  refine ⟨fun σ H F s Q Q' R q k => ?_⟩
  refine h.run σ H F s _ _ R q fun vs H1 F1 rs w1 f1 W1 as q1 => ?_
  rw [List.append_nil]
  split at q1
  · rename_i e
    have R1 := R.fw f1 W1
    refine ⟨by rw [as.len]; exact Nat.eq_of_beq_eq_true e, F1, A.pw, w1, rs, Q, f1.sub', fun p hp => ⟨(W1 p hp).1, R1.gd.pwF (s := s.wl w1) W1 hp⟩, as.amb, q1, fun v H2 F2 r w2 g2 W2 r2 q2 => ?_⟩
    have f2 : Fw A H1 F1 H2 F2 := ⟨g2.ext, g2.old, g2.sub0, g2.sub, g2.new⟩
    refine k v H2 F2 r w2 (f1.trans f2) (fun p hp => ⟨(W2 p hp).1, (W1 p hp).2⟩) ?_ q2
    have : ResR A H1 H2 F2 v r := by
      cases r with
      | d x => exact r2
      | l xs =>
        obtain ⟨p, vs', rfl, h0, hF, h1, h3⟩ := r2
        exact ⟨p, vs', rfl, h0, hF, h1, h3⟩
      | a xs => exact r2.elim
      | p xs => exact r2.elim
      | w => exact r2.elim
    exact this.early f1.old
  · exact q1.elim

/-! ### calls of builtins -/
structure CbD (A : Am) (r : List V → Hp → VK → Prop) (f : List Rv → (Rv → Prop) → Prop) : Prop where
  run : ∀ σ H F s xs rs (Q : Rv → Prop) (Q' : VK), Rel A σ H F s → ArgsR A H F xs rs → f rs Q → (∀ v H' F' r', Fw A H F H' F' → WellR A H' s.w → ResR A H H' F' v r' → Q r' → Q' v H') → r xs H Q'
def dCB (f : List Rv → (Rv → Prop) → Prop) (t : TDA) : TD := fun s Q => t s fun rs w => f rs fun z => Q z w
theorem de_cb {r} {f} {t : TA} {d : TDA} (ho : CbD A r f) (h : DA A t d) : DE A (tCB r t) (dCB f d) := by
  refine ⟨fun σ H F s Q Q' R q k => ?_⟩
  refine h.run σ H F s _ _ R q fun vs H1 F1 rs w1 f1 W1 as q1 => ?_
  have R1 := R.fw f1 W1
  refine ho.run σ H1 F1 _ vs rs _ _ R1 as q1 fun v H3 F3 r3 f3 W3 v3 h3 => ?_
  exact k v H3 F3 r3 w1 (f1.trans f3) W3 (v3.early fun a e => f1.old a e) h3
/-- a list, a tuple, as it is looked at -/
def seqOf : Rv → Option (List PyData)
  | .d (.list xs) => some xs
  | .d (.tuple xs) => some xs
  | .l xs => some xs
  | .a xs => some xs
  | .p xs => some xs
  | _ => none
theorem seq_val {H F : Hp} {v : V} {r : Rv} {xs : List PyData} (hs : Same F H) (h : ValR A H F v r) (e : seqOf r = some xs) : ∃ p vs, v = .ref p ∧ (SqL A.K H p vs ∨ SqT A.K H p vs) ∧ DpAll A.K F vs xs := by
  cases r with
  | d y =>
    cases y with
    | list ys =>
      cases e
      cases h with
      | lst hq ha => exact ⟨_, _, rfl, .inl (hs.seq hq), ha⟩
    | tuple ys =>
      cases e
      cases h with
      | tup hq ha =>
        refine ⟨_, _, rfl, .inr ?_, ha⟩
        rcases hq with (h | ⟨o, h⟩) | h
        · exact .inl (.inl (hs _ _ h))
        · exact .inl (.inr ⟨o, hs _ _ h⟩)
        · exact .inr h
    | _ => cases e
  | l xs => cases e; obtain ⟨p, vs, rfl, h1, _, h3⟩ := h; exact ⟨p, vs, rfl, .inl (SqL.of h1), h3⟩
  | a xs => cases e; obtain ⟨p, vs, rfl, h1, _, h3⟩ := h; exact ⟨p, vs, rfl, .inl (SqL.of h1), h3⟩
  | p xs => cases e; obtain ⟨p, vs, rfl, h1, _, h3⟩ := h; exact ⟨p, vs, rfl, .inl (SqL.of h1), h3⟩
  | w => cases e
/-- one argument that is seen as a sequence -/
def f1S (g : List PyData → (Rv → Prop) → Prop) : List Rv → (Rv → Prop) → Prop
  | [x], Q => (match seqOf x with
    | some xs => g xs Q
    | none => False)
  | _, _ => False
theorem ArgsR.one {H F : Hp} {xs : List V} {r : Rv} (h : ArgsR A H F xs [r]) : ∃ x, xs = [x] ∧ ArgR A H F x r := by
  cases h with
  | cons h1 h2 => cases h2; exact ⟨_, rfl, h1⟩
theorem ArgsR.two {H F : Hp} {xs : List V} {r t : Rv} (h : ArgsR A H F xs [r, t]) : ∃ x y, xs = [x, y] ∧ ArgR A H F x r ∧ ArgR A H F y t := by
  cases h with
  | cons h1 h2 =>
    obtain ⟨y, rfl, h3⟩ := h2.one
    exact ⟨_, y, rfl, h1, h3⟩
def fLen : List Rv → (Rv → Prop) → Prop := f1S fun xs Q => Q (.d (.int xs.length))
theorem cb_len : CbD A (fun xs H Q => ∃ p ys, xs = [.ref p] ∧ (SqL A.K H p ys ∨ SqT A.K H p ys) ∧ Q (.int ys.length) H) fLen := by
  refine ⟨fun σ H F s xs rs Q Q' R as h k => ?_⟩
  unfold fLen f1S at h
  split at h
  · rename_i x
    obtain ⟨v, rfl, a1⟩ := as.one
    split at h
    · rename_i ys e
      obtain ⟨p, vs, rfl, h1, h2⟩ := seq_val R.gd.sub a1.val e
      refine ⟨p, vs, rfl, h1, ?_⟩
      rw [dpa_len h2]
      exact k _ H F (.d (.int _)) (Fw.refl R.gd.sub) R.well (Dp.int _) h
    · exact h.elim
  · exact h.elim
def f1I (g : Int → Int) : List Rv → (Rv → Prop) → Prop
  | [.d (.int i)], Q => Q (.d (.int (g i)))
  | _, _ => False
def f2I (g : Int → Int → Int) : List Rv → (Rv → Prop) → Prop
  | [.d (.int i), .d (.int j)], Q => Q (.d (.int (g i j)))
  | _, _ => False
theorem cb_1I {g : Int → Int} {r : List V → Hp → VK → Prop} (hr : ∀ i H Q, Q (.int (g i)) H → r [.int i] H Q) : CbD A r (f1I g) := by
  refine ⟨fun σ H F s xs rs Q Q' R as h k => ?_⟩
  unfold f1I at h
  split at h
  · obtain ⟨v, rfl, a1⟩ := as.one
    cases a1
    exact hr _ _ _ (k _ H F (.d (.int _)) (Fw.refl R.gd.sub) R.well (Dp.int _) h)
  · exact h.elim
theorem cb_2I {g : Int → Int → Int} {r : List V → Hp → VK → Prop} (hr : ∀ i j H Q, Q (.int (g i j)) H → r [.int i, .int j] H Q) : CbD A r (f2I g) := by
  refine ⟨fun σ H F s xs rs Q Q' R as h k => ?_⟩
  unfold f2I at h
  split at h
  · obtain ⟨v, u, rfl, a1, a2⟩ := as.two
    cases a1
    cases a2
    exact hr _ _ _ _ (k _ H F (.d (.int _)) (Fw.refl R.gd.sub) R.well (Dp.int _) h)
  · exact h.elim
theorem cb_abs : CbD A (fun xs H Q => ∃ i : Int, xs = [V.int i] ∧ Q (.int (if i < 0 then -i else i)) H) (f1I fun i => (i.natAbs : Int)) :=
  cb_1I fun i H Q q => ⟨i, rfl, by
    have e : (if i < 0 then -i else i) = (i.natAbs : Int) := by split <;> omega
    rw [e]; exact q⟩
theorem cb_int1 : CbD A (fun xs H Q => (∃ i, xs = [V.int i] ∧ Q (V.int i) H) ∨ ∃ k, xs = [V.bl k] ∧ Q (.int (if k then 1 else 0)) H) (f1I fun i => i) := cb_1I fun i H Q q => .inl ⟨i, rfl, q⟩
theorem cb_max2 : CbD A (fun xs H Q => ∃ i j : Int, xs = [V.int i, V.int j] ∧ Q (.int (if j > i then j else i)) H) (f2I fun i j => max i j) :=
  cb_2I fun i j H Q q => ⟨i, j, rfl, by
    have e : (if j > i then j else i) = max i j := by split <;> omega
    rw [e]; exact q⟩
theorem cb_min2 : CbD A (fun xs H Q => ∃ i j : Int, xs = [V.int i, V.int j] ∧ Q (.int (if j < i then j else i)) H) (f2I fun i j => min i j) :=
  cb_2I fun i j H Q q => ⟨i, j, rfl, by
    have e : (if j < i then j else i) = min i j := by split <;> omega
    rw [e]; exact q⟩
theorem cb_gcd : CbD A rGcd (f2I fun i j => ((Nat.gcd i.natAbs j.natAbs : Nat) : Int)) := cb_2I fun i j H Q q => ⟨i, j, rfl, q⟩
/-- list(x): a new list -/
def fList : List Rv → (Rv → Prop) → Prop := f1S fun xs Q => Q (.l xs)
theorem cb_list : CbD A (fun xs H Q => ∃ p ys, xs = [V.ref p] ∧ (SqL A.K H p ys ∨ SqT A.K H p ys) ∧ ∀ l, H l = none → Q (.ref l) (upd H l (.lst ys))) fList := by
  refine ⟨fun σ H F s xs rs Q Q' R as h k => ?_⟩
  unfold fList f1S at h
  split at h
  · obtain ⟨v, rfl, a1⟩ := as.one
    split at h
    · rename_i ys e
      obtain ⟨p, vs, rfl, h1, h2⟩ := seq_val R.gd.sub a1.val e
      exact ⟨p, vs, rfl, h1, fun l hl => k _ _ F (.l ys) (fw_new R.gd.sub hl) (well_new R.well hl) ⟨l, vs, rfl, hl, none_of_same R.gd.sub hl, upd_same, h2⟩ h⟩
    · exact h.elim
  · exact h.elim
/-- tuple(x) -/
def fTuple : List Rv → (Rv → Prop) → Prop := f1S fun xs Q => Q (.d (.tuple xs))
theorem cb_tuple : CbD A (fun xs H Q => ∃ p ys, xs = [V.ref p] ∧ ((SqL A.K H p ys ∧ ∀ l, H l = none → Q (.ref l) (upd H l (.tup ys))) ∨ (SqT A.K H p ys ∧ Q (.ref p) H))) fTuple := by
  refine ⟨fun σ H F s xs rs Q Q' R as h k => ?_⟩
  unfold fTuple f1S at h
  split at h
  · rename_i x
    obtain ⟨v, rfl, a1⟩ := as.one
    split at h
    · rename_i ys e
      have new : ∀ (p : Addr) (vs : List V), SqL A.K H p vs → DpAll A.K F vs ys → v = .ref p → ∃ p ys_1, [v] = [V.ref p] ∧ ((SqL A.K H p ys_1 ∧ ∀ l, H l = none → Q' (.ref l) (upd H l (.tup ys_1))) ∨ (SqT A.K H p ys_1 ∧ Q' (.ref p) H)) := fun p vs h1 h2 ev => by
        subst ev
        refine ⟨p, vs, rfl, .inl ⟨h1, fun l hl => ?_⟩⟩
        have hF := none_of_same R.gd.sub hl
        exact k _ _ (upd F l (.tup vs)) (.d (.tuple ys)) (fw_froz R.gd.sub hl) (well_new R.well hl) (Dp.tup (.inl (.inl upd_same)) (dpa_mono (same_upd hF) _ _ h2)) h
      cases x with
      | d y =>
        cases y with
        | list zs =>
          cases e
          cases a1 with
          | lst hq ha => exact new _ _ (R.gd.sub.seq hq) ha rfl
        | tuple zs =>
          cases e
          cases a1 with
          | @tup a vs _ hq ha =>
            refine ⟨a, vs, rfl, .inr ⟨?_, k _ H F (.d (.tuple ys)) (Fw.refl R.gd.sub) R.well (Dp.tup hq ha) h⟩⟩
            rcases hq with (h | ⟨o, h⟩) | h
            · exact .inl (.inl (R.gd.sub _ _ h))
            · exact .inl (.inr ⟨o, R.gd.sub _ _ h⟩)
            · exact .inr h
        | _ => cases e
      | l zs => exact a1.elim
      | a zs => cases e; obtain ⟨p, vs, ev, h1, _, h3⟩ := a1; exact new p vs (SqL.of h1) h3 ev
      | p zs => exact a1.elim
      | w => cases e
    · exact h.elim
  · exact h.elim
/-- all(x), any(x) of a list of truth values -/
def boolsOf : List PyData → Option (List Bool)
  | [] => some []
  | .bool b :: r => (match boolsOf r with
    | some bs => some (b :: bs)
    | none => none)
  | _ => none
theorem bools_vs {F : Hp} : ∀ {xs : List PyData} {bs : List Bool} {vs : List V}, boolsOf xs = some bs → DpAll A.K F vs xs → vs = bs.map V.bl
  | [], bs, vs, e, h => by cases e; cases h; rfl
  | x :: xs, bs, vs, e, h => by
    cases h with
    | cons h1 h2 =>
      cases x with
      | bool b =>
        unfold boolsOf at e
        cases q : boolsOf xs with
        | none => rw [q] at e; cases e
        | some cs =>
          rw [q] at e
          cases e
          cases h1
          rw [bools_vs q h2]
          rfl
      | _ => cases e
def listOf : Rv → Option (List PyData)
  | .d (.list xs) => some xs
  | .l xs => some xs
  | .a xs => some xs
  | .p xs => some xs
  | _ => none
theorem list_val {H F : Hp} {v : V} {r : Rv} {xs : List PyData} (hs : Same F H) (h : ValR A H F v r) (e : listOf r = some xs) : ∃ p vs, v = .ref p ∧ SqL A.K H p vs ∧ DpAll A.K F vs xs := by
  cases r with
  | d y =>
    cases y with
    | list ys =>
      cases e
      cases h with
      | lst hq ha => exact ⟨_, _, rfl, hs.seq hq, ha⟩
    | _ => cases e
  | l xs => cases e; obtain ⟨p, vs, rfl, h1, _, h3⟩ := h; exact ⟨p, vs, rfl, SqL.of h1, h3⟩
  | a xs => cases e; obtain ⟨p, vs, rfl, h1, _, h3⟩ := h; exact ⟨p, vs, rfl, SqL.of h1, h3⟩
  | p xs => cases e; obtain ⟨p, vs, rfl, h1, _, h3⟩ := h; exact ⟨p, vs, rfl, SqL.of h1, h3⟩
  | w => cases e
def fBools (g : List Bool → Bool) : List Rv → (Rv → Prop) → Prop
  | [x], Q => (match listOf x with
    | some xs => (match boolsOf xs with
      | some bs => Q (.d (.bool (g bs)))
      | none => False)
    | none => False)
  | _, _ => False
theorem cb_bools {g : List Bool → Bool} {r : List V → Hp → VK → Prop} (hr : ∀ (a : Addr) (bs : List Bool) H Q, SqL A.K H a (bs.map V.bl) → Q (.bl (g bs)) H → r [.ref a] H Q) : CbD A r (fBools g) := by
  refine ⟨fun σ H F s xs rs Q Q' R as h k => ?_⟩
  unfold fBools at h
  split at h
  · obtain ⟨v, rfl, a1⟩ := as.one
    split at h
    · rename_i ys e
      obtain ⟨p, vs, rfl, h1, h2⟩ := list_val R.gd.sub a1.val e
      split at h
      · rename_i bs eb
        have ev := bools_vs eb h2
        subst ev
        exact hr _ _ _ _ h1 (k _ H F (.d (.bool _)) (Fw.refl R.gd.sub) R.well (Dp.bl _) h)
      · exact h.elim
    · exact h.elim
  · exact h.elim
theorem cb_all : CbD A (rAll A.K) (fBools fun bs => bs.all id) := cb_bools fun a bs H Q h q => ⟨a, bs, rfl, h, q⟩
theorem cb_any : CbD A (rAny A.K) (fBools fun bs => bs.any id) := cb_bools fun a bs H Q h q => ⟨a, bs, rfl, h, q⟩
/-- sum of a list of ints -/
def intsOf : List PyData → Option (List Int)
  | [] => some []
  | .int b :: r => (match intsOf r with
    | some bs => some (b :: bs)
    | none => none)
  | _ => none
theorem ints_vs {F : Hp} : ∀ {xs : List PyData} {bs : List Int} {vs : List V}, intsOf xs = some bs → DpAll A.K F vs xs → vs = bs.map V.int
  | [], bs, vs, e, h => by cases e; cases h; rfl
  | x :: xs, bs, vs, e, h => by
    cases h with
    | cons h1 h2 =>
      cases x with
      | int b =>
        unfold intsOf at e
        cases q : intsOf xs with
        | none => rw [q] at e; cases e
        | some cs =>
          rw [q] at e
          cases e
          cases h1
          rw [ints_vs q h2]
          rfl
      | _ => cases e
def fSum : List Rv → (Rv → Prop) → Prop
  | [x], Q => (match listOf x with
    | some xs => (match intsOf xs with
      | some bs => Q (.d (.int bs.sum))
      | none => False)
    | none => False)
  | _, _ => False
theorem cb_sum : CbD A (rSum A.K) fSum := by
  refine ⟨fun σ H F s xs rs Q Q' R as h k => ?_⟩
  unfold fSum at h
  split at h
  · obtain ⟨v, rfl, a1⟩ := as.one
    split at h
    · rename_i ys e
      obtain ⟨p, vs, rfl, h1, h2⟩ := list_val R.gd.sub a1.val e
      split at h
      · rename_i bs eb
        have ev := ints_vs eb h2
        subst ev
        exact ⟨p, bs, rfl, h1, k _ H F (.d (.int _)) (Fw.refl R.gd.sub) R.well (Dp.int _) h⟩
      · exact h.elim
    · exact h.elim
  · exact h.elim
end
end DL
/-! DL3: places, slices, isinstance, truth, repr, statements. -/
namespace DL
open PySem PySem.Spec PyProof.Rows L2
section
variable {A : Am}
/-! ### x[i] -/
def fIx : Rv → Rv → (Rv → Prop) → Prop := fun x y Q => match seqOf x, y with
  | some xs, .d (.int i) => (match atI xs i with
    | some z => Q (.d z)
    | none => False)
  | _, _ => False
theorem atI_dpa {F : Hp} {xs : List PyData} {vs : List V} {i : Int} {z : PyData} (h : DpAll A.K F vs xs) (e : atI xs i = some z) : ∃ v, atI vs i = some v ∧ Dp A.K F v z := by
  unfold atI at e ⊢
  rw [dpa_len h]
  cases q : ixN xs.length i with
  | none => rw [q] at e; cases e
  | some j =>
    rw [q] at e
    exact dpa_get h e
theorem od_ix : OpD A (rIx A.K) fIx := by
  refine ⟨fun σ H F s x y rx ry Q Q' R hx hy h k => ?_⟩
  unfold fIx at h
  split at h
  · rename_i xs i ex
    cases hy
    obtain ⟨p, vs, rfl, h1, h2⟩ := seq_val R.gd.sub hx ex
    split at h
    · rename_i z ez
      obtain ⟨v, ev, dv⟩ := atI_dpa h2 ez
      have q := k v H F (.d z) (Fw.refl R.gd.sub) R.well dv h
      rcases h1 with h1 | h1
      · exact .inl ⟨p, vs, _, v, rfl, rfl, h1, ev, q⟩
      · exact .inr (.inl ⟨p, vs, _, v, rfl, rfl, h1, ev, q⟩)
    · exact h.elim
  · exact h.elim
/-! ### slices -/
abbrev TDO := S → (Option Int → W3 → Prop) → Prop
structure DO (A : Am) (to : TO) (t : TDO) : Prop where
  run : ∀ σ H F s (Q : Option Int → W3 → Prop) (Q' : Option Int → Hp → Prop), Rel A σ H F s → t s Q → (∀ o H' F' w', Fw A H F H' F' → WellR A H' w' → Q o w' → Q' o H') → to σ H Q'
def doNone : TDO := fun s Q => Q none s.w
def doSome (t : TD) : TDO := fun s Q => t s fun x w => match x with
  | .d (.int i) => Q (some i) w
  | _ => False
theorem do_none : DO A tNoPart doNone := ⟨fun σ H F s Q Q' R h k => k none H F s.w (Fw.refl R.gd.sub) R.well h⟩
theorem do_some {te : TE} {t : TD} (h : DE A te t) : DO A (tPart te) (doSome t) := by
  refine ⟨fun σ H F s Q Q' R q k => ?_⟩
  refine h.run σ H F s _ _ R q fun v H1 F1 r w1 f1 W1 v1 q1 => ?_
  split at q1
  · cases v1
    exact ⟨_, rfl, k _ H1 F1 w1 f1 W1 q1⟩
  · exact q1.elim
def cutD (xs : List PyData) (lo hi : Option Int) : List PyData := (xs.drop (HT.sIx xs.length 0 lo)).take (HT.sIx xs.length xs.length hi - HT.sIx xs.length 0 lo)
theorem cut_dpa {F : Hp} {xs : List PyData} {vs : List V} (lo hi : Option Int) (h : DpAll A.K F vs xs) : DpAll A.K F (cutV vs lo hi) (cutD xs lo hi) := by
  unfold cutV cutD
  rw [dpa_len h]
  exact dpa_take _ (dpa_drop _ h)
/-- both kinds -/
def rSlB (K : PySem.W.Frag) : V → Option Int → Option Int → Hp → VK → Prop := fun x lo hi H Q => rSlL K x lo hi H Q ∨ rSlA K x lo hi H Q
theorem sl_both {X : Cx} : SlR X (rSlB X.K) := SlR.or sl_list sl_tupA
def fSl : Rv → Option Int → Option Int → (Rv → Prop) → Prop
  | .d (.tuple xs), lo, hi, Q => Q (.d (.tuple (cutD xs lo hi)))
  | .d (.list xs), lo, hi, Q => Q (.l (cutD xs lo hi))
  | .l xs, lo, hi, Q => Q (.l (cutD xs lo hi))
  | .a xs, lo, hi, Q => Q (.l (cutD xs lo hi))
  | .p xs, lo, hi, Q => Q (.l (cutD xs lo hi))
  | .w, _, _, _ => False
  | _, _, _, _ => False
def dSl (te : TD) (tl th : TDO) : TD := fun s Q => te s fun x w1 => tl (s.wl w1) fun l w2 => th (s.wl w2) fun u w3 => fSl x l u fun z => Q z w3
theorem de_sl {te : TE} {tl th : TO} {t : TD} {dl dh : TDO} (h : DE A te t) (hl : DO A tl dl) (hh : DO A th dh) : DE A (tSl (rSlB A.K) te tl th) (dSl t dl dh) := by
  refine ⟨fun σ H F s Q Q' R q k => ?_⟩
  refine h.run σ H F s _ _ R q fun x H1 F1 r w1 f1 W1 v1 q1 => ?_
  have R1 := R.fw f1 W1
  refine hl.run σ H1 F1 _ _ _ R1 q1 fun l H2 F2 w2 f2 W2 q2 => ?_
  have R2 := R1.fw f2 W2
  refine hh.run σ H2 F2 _ _ _ R2 q2 fun u H3 F3 w3 f3 W3 q3 => ?_
  have R3 := R2.fw f3 W3
  have hv := ((v1.val R.gd R.well f1).fw f2).fw f3
  have f := (f1.trans f2).trans f3
  have lst : ∀ xs : List PyData, (∃ p vs, x = .ref p ∧ SqL A.K H3 p vs ∧ DpAll A.K F3 vs xs) → Q (.l (cutD xs l u)) w3 → rSlB A.K x l u H3 Q' := fun xs hx hq => by
    obtain ⟨p, vs, rfl, h1, h2⟩ := hx
    refine .inl ⟨p, vs, rfl, h1, fun d hd => ?_⟩
    refine k (.ref d) _ F3 (.l _) w3 (f.trans (fw_new f3.sub' hd)) (well_new W3 hd) ⟨d, _, rfl, ?_, none_of_same f3.sub' hd, upd_same, cut_dpa l u h2⟩ hq
    cases e : H d with
    | none => rfl
    | some o => exact absurd hd (f.old d (by rw [e]; simp))
  cases r with
  | d y =>
    cases y with
    | tuple xs =>
      cases hv with
      | @tup a vs _ hq ha =>
        have h1 : SqT A.K H3 a vs := by
          rcases hq with (h | ⟨o, h⟩) | h
          · exact .inl (.inl (f3.sub' _ _ h))
          · exact .inl (.inr ⟨o, f3.sub' _ _ h⟩)
          · exact .inr h
        refine .inr ⟨a, vs, rfl, h1, fun hw => ?_, fun hw p hp => ?_⟩
        · have e : cutD xs l u = xs := by
            unfold cutD
            rw [dpa_len ha] at hw
            rw [hw.1, hw.2]
            simp
          have q4 : Q (.d (.tuple (cutD xs l u))) w3 := q3
          rw [e] at q4
          exact k (.ref a) H3 F3 (.d (.tuple xs)) w3 f W3 (Dp.tup hq ha) q4
        · have hF := none_of_same f3.sub' hp
          exact k (.ref p) _ (upd F3 p _) (.d (.tuple _)) w3 (f.trans (fw_froz f3.sub' hp)) (well_new W3 hp) (Dp.tup (.inl (.inl upd_same)) (dpa_mono (same_upd hF) _ _ (cut_dpa l u ha))) q3
    | list xs => exact lst xs (list_val (r := .d (.list xs)) f3.sub' hv rfl) q3
    | _ => exact q3.elim
  | l xs => exact lst xs (list_val (r := .l xs) f3.sub' hv rfl) q3
  | a xs => exact lst xs (list_val (r := .a xs) f3.sub' hv rfl) q3
  | p xs => exact lst xs (list_val (r := .p xs) f3.sub' hv rfl) q3
  | w => exact q3.elim
/-- x[::-1] of a list -/
def dRevL (te : TD) : TD := fun s Q => te s fun x w => match listOf x with
  | some xs => Q (.l xs.reverse) w
  | none => False
theorem de_revL {te : TE} {t : TD} (h : DE A te t) : DE A (tRevL A.K te) (dRevL t) := by
  refine ⟨fun σ H F s Q Q' R q k => ?_⟩
  refine h.run σ H F s _ _ R q fun x H1 F1 r w1 f1 W1 v1 q1 => ?_
  split at q1
  · rename_i xs e
    obtain ⟨p, vs, rfl, h1, h2⟩ := list_val f1.sub' (v1.val R.gd R.well f1) e
    refine ⟨p, vs, rfl, h1, fun d hd => ?_⟩
    refine k (.ref d) _ F1 (.l _) w1 (f1.trans (fw_new f1.sub' hd)) (well_new W1 hd) ⟨d, _, rfl, ?_, none_of_same f1.sub' hd, upd_same, dpa_reverse h2⟩ q1
    cases e : H d with
    | none => rfl
    | some o => exact absurd hd (f1.old d (by rw [e]; simp))
  · exact q1.elim
/-! ### isinstance -/
def tyName : PyData → String
  | .none => "NoneType"
  | .bool _ => "bool"
  | .int _ => "int"
  | .str _ => "str"
  | .list _ => "list"
  | .tuple _ => "tuple"
  | .dict _ => "dict"
theorem ty_data {H F : Hp} {v : V} {r : Rv} {x : PyData} (hs : Same F H) (h : ValR A H F v r) (e : datOf r = some x) : TyX A.K H v (.type (tyName x)) := by
  have hd := val_dp hs h e
  cases hd with
  | non => exact .base .non
  | bl b => exact .base (.bl b)
  | int i => exact .base (.int i)
  | str y => exact .base (.str y)
  | lst hq ha =>
    rcases hq with (h | ⟨o, h⟩) | ⟨o, its, n, h, c, _⟩
    · exact .base (.lst h)
    · exact .base (.frz h)
    · exact .kList h c
  | tup hq ha =>
    rcases hq with (h | ⟨o, h⟩) | ⟨o, its, n, h, c, _⟩
    · exact .base (.tup h)
    · exact .fTuple h
    · exact .kTuple h c
def dIsI (T : String) (te : TD) : TD := fun s Q => te s fun x w => match datOf x with
  | some y => (match kitB (tyName y) T with
    | some b => Q (.d (.bool b)) w
    | none => False)
  | none => False
theorem de_isi {te : TE} {t : TD} {T : String} (h : DE A te t) : DE A (tCB (rIsi A.K) (tCons te (tCons (tC (.ty T)) tNil))) (dIsI T t) := by
  refine ⟨fun σ H F s Q Q' R q k => ?_⟩
  refine h.run σ H F s _ _ R q fun x H1 F1 r w1 f1 W1 v1 q1 => ?_
  split at q1
  · rename_i y ey
    split at q1
    · rename_i b eb
      exact ⟨x, .ty T, _, _, b, rfl, .ty T, ty_data f1.sub' (v1.val R.gd R.well f1) ey, kit_ty eb, k _ H1 F1 (.d (.bool b)) w1 f1 W1 (Dp.bl b) q1⟩
    · exact q1.elim
  · exact q1.elim
/-! ### is None -/
def isNoneD : PyData → Bool
  | .none => true
  | _ => false
theorem val_none {H F : Hp} {v : V} {r : Rv} {x : PyData} (hs : Same F H) (h : ValR A H F v r) (e : datOf r = some x) : decide (v = .non) = isNoneD x := by
  have hd := val_dp hs h e
  cases hd with
  | non => rfl
  | bl b => exact decide_eq_false (fun z => nomatch z)
  | int i => exact decide_eq_false (fun z => nomatch z)
  | str y => exact decide_eq_false (fun z => nomatch z)
  | lst hq ha => exact decide_eq_false (fun z => nomatch z)
  | tup hq ha => exact decide_eq_false (fun z => nomatch z)
def dIsN (neg : Bool) (te : TD) : TD := fun s Q => te s fun x w => match datOf x with
  | some y => Q (.d (.bool (if neg then !isNoneD y else isNoneD y))) w
  | none => False
theorem de_isN {te : TE} {t : TD} (h : DE A te t) : DE A (tIsN te) (dIsN false t) := by
  refine ⟨fun σ H F s Q Q' R q k => ?_⟩
  refine h.run σ H F s _ _ R q fun x H1 F1 r w1 f1 W1 v1 q1 => ?_
  split at q1
  · rename_i y e
    rw [val_none f1.sub' (v1.val R.gd R.well f1) e]
    exact k _ H1 F1 (.d (.bool _)) w1 f1 W1 (Dp.bl _) q1
  · exact q1.elim
theorem de_notN {te : TE} {t : TD} (h : DE A te t) : DE A (tNotN te) (dIsN true t) := by
  refine ⟨fun σ H F s Q Q' R q k => ?_⟩
  refine h.run σ H F s _ _ R q fun x H1 F1 r w1 f1 W1 v1 q1 => ?_
  split at q1
  · rename_i y e
    rw [val_none f1.sub' (v1.val R.gd R.well f1) e]
    exact k _ H1 F1 (.d (.bool _)) w1 f1 W1 (Dp.bl _) q1
  · exact q1.elim
/-! ### truth -/
def tru (r : Rv) (k : Bool → Prop) : Prop := match r with
  | .d (.bool b) => k b
  | _ => False
def dTst (t : TD) : TDT := fun s Q => t s fun x w => tru x fun b => Q b w
theorem tru_of {r : Rv} {k : Bool → Prop} (h : tru r k) : ∃ b, r = .d (.bool b) ∧ k b := by
  unfold tru at h
  split at h
  · exact ⟨_, rfl, h⟩
  · exact h.elim
theorem dt_tst {te : TE} {t : TD} (h : DE A te t) : DT A (tTest te) (dTst t) := by
  refine ⟨fun σ H F s Q Q' R q k => ?_⟩
  refine h.run σ H F s _ _ R q fun x H1 F1 r w1 f1 W1 v1 q1 => ?_
  obtain ⟨b, rfl, q1⟩ := tru_of q1
  cases v1
  exact ⟨b, rfl, k b H1 F1 w1 f1 W1 q1⟩
theorem dt_tB {te : TE} {t : TD} (h : DE A te t) : DT A (tB te) (dTst t) := ⟨(dt_tst h).run⟩
theorem dt_truth {te : TE} {t : TD} (h : DE A te t) : DT A (fun σ H Q => te σ H fun x H' => ∃ k, TruV A.K x H' k ∧ Q k H') (dTst t) := by
  refine ⟨fun σ H F s Q Q' R q k => ?_⟩
  refine h.run σ H F s _ _ R q fun x H1 F1 r w1 f1 W1 v1 q1 => ?_
  obtain ⟨b, rfl, q1⟩ := tru_of q1
  cases v1
  exact ⟨b, rfl, k b H1 F1 w1 f1 W1 q1⟩
def dAndT (t u : TDT) : TDT := fun s Q => t s fun b w => if b = true then u (s.wl w) Q else Q false w
def dOrT (t u : TDT) : TDT := fun s Q => t s fun b w => if b = true then Q true w else u (s.wl w) Q
def dNotT (t : TDT) : TDT := fun s Q => t s fun b w => Q (!b) w
theorem dt_and {t u : TT} {d e : TDT} (h1 : DT A t d) (h2 : DT A u e) : DT A (tAnd t u) (dAndT d e) := by
  refine ⟨fun σ H F s Q Q' R q k => ?_⟩
  refine h1.run σ H F s _ _ R q fun b H1 F1 w1 f1 W1 q1 => ?_
  cases b with
  | true => exact h2.run σ H1 F1 _ _ _ (R.fw f1 W1) q1 fun b H2 F2 w2 f2 W2 q2 => k b H2 F2 w2 (f1.trans f2) W2 q2
  | false => exact k false H1 F1 w1 f1 W1 q1
theorem dt_or {t u : TT} {d e : TDT} (h1 : DT A t d) (h2 : DT A u e) : DT A (tOr t u) (dOrT d e) := by
  refine ⟨fun σ H F s Q Q' R q k => ?_⟩
  refine h1.run σ H F s _ _ R q fun b H1 F1 w1 f1 W1 q1 => ?_
  cases b with
  | false => exact h2.run σ H1 F1 _ _ _ (R.fw f1 W1) q1 fun b H2 F2 w2 f2 W2 q2 => k b H2 F2 w2 (f1.trans f2) W2 q2
  | true => exact k true H1 F1 w1 f1 W1 q1
theorem dt_not {t : TT} {d : TDT} (h1 : DT A t d) : DT A (tNot t) (dNotT d) := by
  refine ⟨fun σ H F s Q Q' R q k => ?_⟩
  exact h1.run σ H F s _ _ R q fun b H1 F1 w1 f1 W1 q1 => k _ H1 F1 w1 f1 W1 q1
def dAndV (t u : TD) : TD := fun s Q => t s fun x w => tru x fun b => if b = true then u (s.wl w) Q else Q (.d (.bool false)) w
def dOrV (t u : TD) : TD := fun s Q => t s fun x w => tru x fun b => if b = true then Q (.d (.bool true)) w else u (s.wl w) Q
def dNotV (t : TD) : TD := fun s Q => t s fun x w => tru x fun b => Q (.d (.bool (!b))) w
theorem de_and {t u : TE} {d e : TD} (h1 : DE A t d) (h2 : DE A u e) : DE A (tAndV t u) (dAndV d e) := by
  refine ⟨fun σ H F s Q Q' R q k => ?_⟩
  refine h1.run σ H F s _ _ R q fun x H1 F1 r w1 f1 W1 v1 q1 => ?_
  obtain ⟨b, rfl, q1⟩ := tru_of q1
  cases v1
  refine ⟨b, rfl, ?_⟩
  cases b with
  | true => exact h2.run σ H1 F1 _ _ _ (R.fw f1 W1) q1 fun v H2 F2 r w2 f2 W2 v2 q2 => k v H2 F2 r w2 (f1.trans f2) W2 (v2.early f1.old) q2
  | false => exact k _ H1 F1 (.d (.bool false)) w1 f1 W1 (Dp.bl _) q1
theorem de_or {t u : TE} {d e : TD} (h1 : DE A t d) (h2 : DE A u e) : DE A (tOrV t u) (dOrV d e) := by
  refine ⟨fun σ H F s Q Q' R q k => ?_⟩
  refine h1.run σ H F s _ _ R q fun x H1 F1 r w1 f1 W1 v1 q1 => ?_
  obtain ⟨b, rfl, q1⟩ := tru_of q1
  cases v1
  refine ⟨b, rfl, ?_⟩
  cases b with
  | false => exact h2.run σ H1 F1 _ _ _ (R.fw f1 W1) q1 fun v H2 F2 r w2 f2 W2 v2 q2 => k v H2 F2 r w2 (f1.trans f2) W2 (v2.early f1.old) q2
  | true => exact k _ H1 F1 (.d (.bool true)) w1 f1 W1 (Dp.bl _) q1
theorem de_not {t : TE} {d : TD} (h1 : DE A t d) : DE A (tNotV t) (dNotV d) := by
  refine ⟨fun σ H F s Q Q' R q k => ?_⟩
  refine h1.run σ H F s _ _ R q fun x H1 F1 r w1 f1 W1 v1 q1 => ?_
  obtain ⟨b, rfl, q1⟩ := tru_of q1
  cases v1
  exact ⟨b, rfl, k _ H1 F1 (.d (.bool _)) w1 f1 W1 (Dp.bl _) q1⟩
def dIf (c : TDT) (t u : TD) : TD := fun s Q => c s fun b w => if b = true then t (s.wl w) Q else u (s.wl w) Q
theorem de_if {c : TT} {t u : TE} {dc : TDT} {d e : TD} (hc : DT A c dc) (h1 : DE A t d) (h2 : DE A u e) : DE A (tIf c t u) (dIf dc d e) := by
  refine ⟨fun σ H F s Q Q' R q k => ?_⟩
  refine hc.run σ H F s _ _ R q fun b H1 F1 w1 f1 W1 q1 => ?_
  cases b with
  | true => exact h1.run σ H1 F1 _ _ _ (R.fw f1 W1) q1 fun v H2 F2 r w2 f2 W2 v2 q2 => k v H2 F2 r w2 (f1.trans f2) W2 (v2.early f1.old) q2
  | false => exact h2.run σ H1 F1 _ _ _ (R.fw f1 W1) q1 fun v H2 F2 r w2 f2 W2 v2 q2 => k v H2 F2 r w2 (f1.trans f2) W2 (v2.early f1.old) q2
/-! ### chains a < b < c -/
def dChain (f g : Rv → Rv → (Rv → Prop) → Prop) (ta tb tc : TD) : TD := fun s Q => ta s fun x w1 => tb (s.wl w1) fun y w2 => f x y fun z => tru z fun b => if b = true then tc (s.wl w2) fun u w3 => g y u fun z => Q z w3 else Q (.d (.bool false)) w2
end
end DL
/-! DL4: statements. -/
namespace DL
open PySem PySem.Spec PyProof.Rows L2
section
variable {A : Am}
theorem EndsR.later {F F' : Hp} {D : De} {D' : Ends} (h : EndsR A F D D') (e : Same F F') : EndsR A F' D D' :=
  ⟨fun σ H G s q => h.nx σ H G s (e.trans q), fun σ H G s q => h.bk σ H G s (e.trans q), fun σ H G s q => h.ct σ H G s (e.trans q), h.rt⟩
/-! ### blocks -/
def dNext : TSD := fun D s => D.nx s
def dSeq (t u : TSD) : TSD := fun D s => t { D with nx := u D } s
theorem ds_next : DS A tNext dNext := ⟨fun σ H F s D D' R h e => e.nx σ H F s (Same.refl F) R h⟩
theorem ds_seq {t u : TS} {d e : TSD} (h1 : DS A t d) (h2 : DS A u e) : DS A (tSeq t u) (dSeq d e) := by
  refine ⟨fun σ H F s D D' R h k => ?_⟩
  refine h1.run σ H F s _ _ R h ⟨fun σ1 H1 F1 s1 q1 R1 h1 => ?_, k.bk, k.ct, k.rt⟩
  exact h2.run σ1 H1 F1 s1 D D' R1 h1 (k.later q1)
def dNever : TSD := fun _ _ => False
theorem ds_never : DS A tNever dNever := ⟨fun σ H F s D D' R h k => h⟩
def dBreak : TSD := fun D s => D.bk s
def dCont : TSD := fun D s => D.ct s
theorem ds_break : DS A tBreak dBreak := ⟨fun σ H F s D D' R h e => e.bk σ H F s (Same.refl F) R h⟩
theorem ds_cont : DS A tCont dCont := ⟨fun σ H F s D D' R h e => e.ct σ H F s (Same.refl F) R h⟩
def dIfS (c : TDT) (t u : TSD) : TSD := fun D s => c s fun b w => if b = true then t D (s.wl w) else u D (s.wl w)
theorem ds_if {c : TT} {t u : TS} {dc : TDT} {d e : TSD} (hc : DT A c dc) (h1 : DS A t d) (h2 : DS A u e) : DS A (tIfS c t u) (dIfS dc d e) := by
  refine ⟨fun σ H F s D D' R h k => ?_⟩
  refine hc.run σ H F s _ _ R h fun b H1 F1 w1 f1 W1 q1 => ?_
  cases b with
  | true => exact h1.run σ H1 F1 _ D D' (R.fw f1 W1) q1 (k.later f1.sub)
  | false => exact h2.run σ H1 F1 _ D D' (R.fw f1 W1) q1 (k.later f1.sub)
/-! ### return -/
def retk (r : Rv) (k : Rv → Prop) : Prop := match r with
  | .d x => k (.d x)
  | .l xs => k (.l xs)
  | _ => False
def dRet (t : TD) : TSD := fun D s => t s fun r w => retk r fun z => D.rt z w
theorem ds_ret {te : TE} {t : TD} (h : DE A te t) : DS A (tRet te) (dRet t) := by
  refine ⟨fun σ H F s D D' R q k => ?_⟩
  refine h.run σ H F s _ _ R q fun v H1 F1 r w1 f1 W1 v1 q1 => ?_
  have R1 := R.fw f1 W1
  cases r with
  | d x => exact k.rt v H1 F1 (.d x) w1 R1.gd W1 v1 q1
  | l xs =>
    obtain ⟨p, vs, e, h0, hF, h1, h3⟩ := v1
    refine k.rt v H1 F1 (.l xs) w1 R1.gd W1 ⟨p, vs, e, ?_, hF, h1, h3⟩ q1
    cases z : A.H0 p with
    | none => rfl
    | some o => exact absurd h0 (R.gd.old p (by rw [z]; simp))
  | a xs => exact q1.elim
  | p xs => exact q1.elim
  | w => exact q1.elim
/-- a list of one's own is handed back -/
def dRetV (i : Nat) : TSD := fun D s => match s.sl[i]? with
  | some (some (.l xs)) => D.rt (.l xs) s.w
  | some (some (.d x)) => D.rt (.d x) s.w
  | _ => False
theorem ds_retV {i : Nat} : DS A (tRet (tVar i)) (dRetV i) := by
  refine ⟨fun σ H F s D D' R q k => ?_⟩
  unfold dRetV at q
  split at q
  · rename_i xs e
    obtain ⟨v, e1, h1⟩ := R.slot i _ e
    exact ⟨v, e1, k.rt v H F (.l xs) s.w R.gd R.well h1 q⟩
  · rename_i x e
    obtain ⟨v, e1, h1⟩ := R.slot i _ e
    exact ⟨v, e1, k.rt v H F (.d x) s.w R.gd R.well h1 q⟩
  · exact q.elim
def dRetN : TSD := fun D s => D.rt (.d .none) s.w
theorem ds_retN : DS A tRetN dRetN := ⟨fun σ H F s D D' R q k => k.rt .non H F (.d .none) s.w R.gd R.well .non q⟩
/-! ### stores to names -/
def sto (r : Rv) (k : Prop) : Prop := match r with
  | .p _ => False
  | _ => k
theorem getElem?_set_cases {α : Type} {l : List α} {i j : Nat} {x y : α} (h : (l.set i x)[j]? = some y) : (j = i ∧ y = x ∧ i < l.length) ∨ (j ≠ i ∧ l[j]? = some y) := by
  by_cases e : j = i
  · subst e
    by_cases hl : j < l.length
    · rw [List.getElem?_set_self hl] at h
      exact .inl ⟨rfl, (Option.some.inj h).symm, hl⟩
    · rw [List.getElem?_eq_none (by simpa using hl)] at h
      cases h
  · rw [List.getElem?_set_ne (Ne.symm e)] at h
    exact .inr ⟨e, h⟩
/-- a value is stored in a slot -/
theorem Rel.store {σ : L2.St} {H F : Hp} {s : S} {i : Nat} {v : V} {r : Rv} (R : Rel A σ H F s) (h : SltR A H F v r) (new : ∀ xs, r = .l xs → ∀ (j : Nat) ys, j ≠ i → s.sl[j]? = some (some (.l ys)) → σ[j]? ≠ some (some v)) : Rel A (σ.set i (some v)) H F ⟨s.sl.set i (some r), s.w⟩ := by
  have hl := R.len
  refine ⟨R.gd, R.well, by simpa using R.len, fun j q e => ?_, fun j k xs ys e1 e2 ne => ?_⟩
  · rcases getElem?_set_cases e with ⟨rfl, e1, hi⟩ | ⟨ne, e1⟩
    · cases e1
      exact ⟨v, by rw [List.getElem?_set_self (by omega)], h⟩
    · obtain ⟨u, e2, h2⟩ := R.slot j q e1
      exact ⟨u, by rw [List.getElem?_set_ne (Ne.symm ne)]; exact e2, h2⟩
  · rcases getElem?_set_cases e1 with ⟨rfl, q1, hi⟩ | ⟨n1, q1⟩
    · rcases getElem?_set_cases e2 with ⟨rfl, q2, _⟩ | ⟨n2, q2⟩
      · exact absurd rfl ne
      · cases q1
        rw [List.getElem?_set_self (by omega), List.getElem?_set_ne (Ne.symm n2)]
        exact fun z => new xs rfl k ys n2 q2 z.symm
    · rcases getElem?_set_cases e2 with ⟨rfl, q2, hi⟩ | ⟨n2, q2⟩
      · cases q2
        rw [List.getElem?_set_self (by omega), List.getElem?_set_ne (Ne.symm n1)]
        exact new ys rfl j xs n1 q1
      · rw [List.getElem?_set_ne (Ne.symm n1), List.getElem?_set_ne (Ne.symm n2)]
        exact R.dist j k xs ys q1 q2 ne
/-- a result as a slot's value -/
theorem ResR.slot {σ : L2.St} {H F H1 F1 : Hp} {s : S} {v : V} {r : Rv} (R : Rel A σ H F s) (h : ResR A H H1 F1 v r) (hp : ∀ xs, r ≠ .p xs) : SltR A H1 F1 v r := by
  cases r with
  | d x => exact h
  | l xs =>
    obtain ⟨p, vs, e, h0, hF, h1, h3⟩ := h
    refine ⟨p, vs, e, ?_, hF, h1, h3⟩
    cases z : A.H0 p with
    | none => rfl
    | some o => exact absurd h0 (R.gd.old p (by rw [z]; simp))
  | a xs => exact h
  | p xs => exact absurd rfl (hp xs)
  | w => exact h
theorem ResR.new {σ : L2.St} {H F H1 F1 : Hp} {s : S} {v : V} {r : Rv} (R : Rel A σ H F s) (h : ResR A H H1 F1 v r) : ∀ xs, r = .l xs → ∀ (j : Nat) ys, s.sl[j]? = some (some (.l ys)) → σ[j]? ≠ some (some v) := by
  intro xs e j ys ej z
  subst e
  obtain ⟨p, vs, rfl, h0, _⟩ := h
  obtain ⟨u, e1, q, us, eu, _, _, h1, _⟩ := R.slot j _ ej
  rw [e1] at z
  cases z
  cases eu
  rw [h0] at h1
  cases h1
def dSet (i : Nat) (t : TD) : TSD := fun D s => t s fun r w => sto r (D.nx ⟨s.sl.set i (some r), w⟩)
theorem sto_of {r : Rv} {k : Prop} (h : sto r k) : (∀ xs, r ≠ .p xs) ∧ k := by
  cases r with
  | p xs => exact False.elim h
  | d x => exact ⟨fun _ z => (nomatch z), h⟩
  | l xs => exact ⟨fun _ z => (nomatch z), h⟩
  | a xs => exact ⟨fun _ z => (nomatch z), h⟩
  | w => exact ⟨fun _ z => (nomatch z), h⟩
theorem ds_set {i : Nat} {te : TE} {t : TD} (h : DE A te t) : DS A (tAsg te (gName i)) (dSet i t) := by
  refine ⟨fun σ H F s D D' R q k => ?_⟩
  refine h.run σ H F s _ _ R q fun v H1 F1 r w1 f1 W1 v1 q1 => ?_
  obtain ⟨hp, q1⟩ := sto_of q1
  have R1 := R.fw f1 W1
  exact k.nx _ H1 F1 _ f1.sub (R1.store (v1.slot R hp) fun xs e j ys _ ej => v1.new R xs e j ys ej) q1
/-- a, b = x, y -/
def dPar (i j : Nat) (t u : TD) : TSD := fun D s => t s fun r w => sto r (u (s.wl w) fun r2 w2 => sto r2 (D.nx ⟨(s.sl.set i (some r)).set j (some r2), w2⟩))
theorem SltR.ne {H F : Hp} {v u : V} {xs ys : List PyData} {H0 : Hp} (h : ResR A H0 H F u (.l ys)) (h1 : ValR A H0 F v (.l xs)) : v ≠ u := by
  obtain ⟨p, vs, rfl, h0, _⟩ := h
  obtain ⟨q, us, rfl, h2, _⟩ := h1
  intro z
  cases z
  rw [h0] at h2
  cases h2
theorem ds_par {i j : Nat} {te ue : TE} {t u : TD} (h : DE A te t) (h2 : DE A ue u) (hij : i ≠ j := by decide) : DS A (tPar i j (tCons te (tCons ue tNil))) (dPar i j t u) := by
  refine ⟨fun σ H F s D D' R q k => ?_⟩
  refine h.run σ H F s _ _ R q fun v H1 F1 r w1 f1 W1 v1 q1 => ?_
  obtain ⟨hp, q1⟩ := sto_of q1
  have R1 := R.fw f1 W1
  refine h2.run σ H1 F1 _ _ _ R1 q1 fun u H2 F2 r2 w2 f2 W2 v2 q2 => ?_
  obtain ⟨hp2, q2⟩ := sto_of q2
  have R2 := R1.fw f2 W2
  refine ⟨v, u, rfl, ?_⟩
  have v1' : ResR A H H2 F2 v r := v1.later f2 R.pwH
  have Ra := R2.store (i := i) (v1'.slot R hp) fun xs e j ys _ ej => v1'.new R xs e j ys ej
  refine k.nx _ H2 F2 _ (f1.sub.trans f2.sub) (Ra.store (i := j) (v2.slot R1 hp2) fun xs e l ys nl el => ?_) q2
  rcases getElem?_set_cases el with ⟨rfl, e1, hi⟩ | ⟨nl2, e1⟩
  · cases e1
    have := R2.len
    rw [List.getElem?_set_self (by simp at hi this; omega)]
    intro z
    cases z
    subst e
    obtain ⟨p, vs, rfl, h0, _⟩ := v2
    have := v1.val R.gd R.well f1
    obtain ⟨p', vs', e', h1, _⟩ := this
    cases e'
    rw [h0] at h1
    cases h1
  · rw [List.getElem?_set_ne (Ne.symm nl2)]
    exact v2.new R1 xs e l ys e1
/-- a list of one's own becomes data -/
def dFz (i : Nat) (t : TSD) : TSD := fun D s => match s.sl[i]? with
  | some (some (.l xs)) => t D ⟨s.sl.set i (some (.d (.list xs))), s.w⟩
  | _ => False
theorem ds_fz {i : Nat} {ts : TS} {t : TSD} (h : DS A ts t) : DS A ts (dFz i t) := by
  refine ⟨fun σ H F s D D' R q k => ?_⟩
  unfold dFz at q
  split at q
  · rename_i xs e
    obtain ⟨v, e1, p, vs, rfl, h0, hF, h1, h3⟩ := R.slot i _ e
    have sm : Same F (upd F p (.lst vs)) := same_upd hF
    have hl := R.len
    refine h.run σ H (upd F p (.lst vs)) ⟨s.sl.set i (some (.d (.list xs))), s.w⟩ D D' ⟨⟨R.gd.ext, R.gd.old, fun a o q => ?_, R.gd.sub0.trans sm, fun a q => ?_⟩, R.well, by simpa using R.len, fun j r ej => ?_, fun j l ys zs ej el ne => ?_⟩ q (k.later sm)
    · by_cases c : a = p
      · subst c; rw [upd_same] at q; cases q; exact h1
      · rw [upd_ne c] at q; exact R.gd.sub a o q
    · by_cases c : a = p
      · subst c; exact .inr h0
      · rw [upd_ne c] at q; exact R.gd.new a q
    · rcases getElem?_set_cases ej with ⟨rfl, e2, hi⟩ | ⟨ne, e2⟩
      · cases e2
        exact ⟨_, e1, .lst (SqL.of upd_same) (dpa_mono sm _ _ h3)⟩
      · obtain ⟨u, e3, h4⟩ := R.slot j r e2
        refine ⟨u, e3, ?_⟩
        cases r with
        | d x => exact dp_mono sm _ _ h4
        | l ys =>
          obtain ⟨p', vs', rfl, g0, gF, g1, g3⟩ := h4
          refine ⟨p', vs', rfl, g0, ?_, g1, dpa_mono sm _ _ g3⟩
          rw [upd_ne]
          · exact gF
          · intro z
            subst z
            have := R.dist j i ys xs e2 e ne
            rw [e3, e1] at this
            exact this rfl
        | a ys =>
          obtain ⟨p', vs', rfl, g0, g1, g3⟩ := h4
          exact ⟨p', vs', rfl, g0, g1, dpa_mono sm _ _ g3⟩
        | p ys => exact h4
        | w => exact h4
    · rcases getElem?_set_cases ej with ⟨rfl, e2, hi⟩ | ⟨n1, e2⟩
      · cases e2
      · rcases getElem?_set_cases el with ⟨rfl, e3, hi⟩ | ⟨n2, e3⟩
        · cases e3
        · exact R.dist j l ys zs e2 e3 ne
  · exact q.elim
end
end DL
/-! DL5: targets, loops, comprehensions. -/
namespace DL
open PySem PySem.Spec PyProof.Rows L2
section
variable {A : Am}
/-! ### targets -/
abbrev TDG := PyData → S → (S → Prop) → Prop
abbrev TDGs := List PyData → S → (S → Prop) → Prop
structure DG (A : Am) (g : TG) (is : List Nat) (tg : TDG) : Prop where
  run : ∀ σ H F s v x (Q : S → Prop) (Q' : L2.St → Hp → Prop), Rel A σ H F s → Dp A.K F v x → tg x s Q → (∀ σ' s', Rel A σ' H F s' → σ'.length = σ.length → (∀ k, k ∉ is → σ'[k]? = σ[k]?) → Q s' → Q' σ' H) → g v σ H Q'
structure DGs (A : Am) (g : TGs) (is : List Nat) (tg : TDGs) : Prop where
  run : ∀ σ H F s vs xs (Q : S → Prop) (Q' : L2.St → Hp → Prop), Rel A σ H F s → DpAll A.K F vs xs → tg xs s Q → (∀ σ' s', Rel A σ' H F s' → σ'.length = σ.length → (∀ k, k ∉ is → σ'[k]? = σ[k]?) → Q s' → Q' σ' H) → g vs σ H Q'
def tgN (i : Nat) : TDG := fun x s Q => Q ⟨s.sl.set i (some (.d x)), s.w⟩
def tgNil : TDGs := fun xs s Q => match xs with
  | [] => Q s
  | _ => False
def tgCons (t : TDG) (u : TDGs) : TDGs := fun xs s Q => match xs with
  | x :: r => t x s fun s1 => u r s1 Q
  | [] => False
def tgTup (n : Nat) (t : TDGs) : TDG := fun x s Q => match x with
  | .tuple xs => (match Nat.beq xs.length n with
    | true => t xs s Q
    | false => False)
  | _ => False
theorem dg_name {i : Nat} : DG A (gName i) [i] (tgN i) := by
  refine ⟨fun σ H F s v x Q Q' R d q k => ?_⟩
  refine k _ _ (R.store (r := .d x) d fun xs e => nomatch e) (by simp) (fun j hj => ?_) q
  rw [List.getElem?_set_ne]
  intro z
  subst z
  exact hj (by simp)
theorem dgs_nil : DGs A gNil [] tgNil := by
  refine ⟨fun σ H F s vs xs Q Q' R d q k => ?_⟩
  cases xs with
  | nil =>
    cases d
    exact ⟨rfl, k σ s R rfl (fun _ _ => rfl) q⟩
  | cons x r => exact q.elim
theorem dgs_cons {g : TG} {gs : TGs} {is js : List Nat} {t : TDG} {u : TDGs} (h1 : DG A g is t) (h2 : DGs A gs js u) : DGs A (gCons g gs) (is ++ js) (tgCons t u) := by
  refine ⟨fun σ H F s vs xs Q Q' R d q k => ?_⟩
  cases xs with
  | nil => exact q.elim
  | cons x r =>
    cases d with
    | cons d1 d2 =>
      refine ⟨_, _, rfl, ?_⟩
      refine h1.run σ H F s _ x _ _ R d1 q fun σ1 s1 R1 l1 e1 q1 => ?_
      refine h2.run σ1 H F s1 _ r _ _ R1 d2 q1 fun σ2 s2 R2 l2 e2 q2 => ?_
      exact k σ2 s2 R2 (l2.trans l1) (fun j hj => (e2 j fun z => hj (List.mem_append_right _ z)).trans (e1 j fun z => hj (List.mem_append_left _ z))) q2
theorem dg_tup {n : Nat} {gs : TGs} {is : List Nat} {t : TDGs} (h : DGs A gs is t) : DG A (gTup A.K n gs) is (tgTup n t) := by
  refine ⟨fun σ H F s v x Q Q' R d q k => ?_⟩
  unfold tgTup at q
  split at q
  · split at q
    · rename_i xs e
      cases d with
      | @tup a vs _ hq ha =>
        refine ⟨a, vs, rfl, ?_, (dpa_len ha).trans (Nat.eq_of_beq_eq_true e), h.run σ H F s vs _ Q Q' R ha q k⟩
        rcases hq with (h | ⟨o, h⟩) | h
        · exact .inl (.inl (R.gd.sub _ _ h))
        · exact .inl (.inr ⟨o, R.gd.sub _ _ h⟩)
        · exact .inr h
    · exact q.elim
  · exact q.elim
/-- targets = a value -/
def dAsg (t : TD) (g : TDG) : TSD := fun D s => t s fun r w => kp r fun x => g x (s.wl w) D.nx
theorem ds_asg {te : TE} {g : TG} {is : List Nat} {t : TD} {tg : TDG} (h : DE A te t) (hg : DG A g is tg) : DS A (tAsg te g) (dAsg t tg) := by
  refine ⟨fun σ H F s D D' R q k => ?_⟩
  refine h.run σ H F s _ _ R q fun v H1 F1 r w1 f1 W1 v1 q1 => ?_
  unfold kp at q1
  split at q1
  · rename_i x e
    obtain ⟨F2, f2, _, a2⟩ := v1.keep f1 e
    have R2 := R.fw f2 W1
    exact hg.run σ H1 F2 _ v x _ _ R2 a2 q1 fun σ' s' R' _ _ q' => k.nx σ' H1 F2 s' f2.sub R' q'
  · exact q1.elim

/-! ### what is walked -/
abbrev TDI := S → (List PyData → W3 → Prop) → Prop
def ItOk (A : Am) (J : It) (F0 : Hp) (items : List PyData) : Prop := ∀ H F, Same F0 F → Gd A H F → ∀ i,
  (∀ x, items[i]? = some x → J.go i H ∧ ∀ v H', J.yld i H v H' → ∃ F', Fw A H F H' F' ∧ (∀ p, A.pw = some p → H p ≠ none → H' p = H p) ∧ Dp A.K F' v x) ∧ (items.length ≤ i → J.stop i H)
structure DI (A : Am) (wi : TI) (t : TDI) : Prop where
  run : ∀ σ H F s (Q : List PyData → W3 → Prop) (R' : It → Hp → Prop), Rel A σ H F s → t s Q → (∀ J H' F' items w', Fw A H F H' F' → WellR A H' w' → ItOk A J F' items → Q items w' → R' J H') → wi σ H R'

/-! ### for -/
def loopD (tg : TDG) (body : TSD) (D : De) : List PyData → S → Prop
  | [], s => D.nx s
  | x :: xs, s => tg x s fun s1 => body { D with nx := loopD tg body D xs, ct := loopD tg body D xs, bk := D.nx } s1
def dFor (ti : TDI) (tg : TDG) (body : TSD) : TSD := fun D s => ti s fun items w => loopD tg body D items (s.wl w)
theorem ds_for {wi : TI} {g : TG} {tb : TS} {is : List Nat} {ti : TDI} {tg : TDG} {body : TSD} (hi : DI A wi ti) (hg : DG A g is tg) (hb : DS A tb body) : DS A (tFor wi g tb) (dFor ti tg body) := by
  refine ⟨fun σ H F s D D' R q k => ?_⟩
  refine hi.run σ H F s _ _ R q fun J H1 F1 items w1 f1 W1 it q1 => ?_
  have R1 := R.fw f1 W1
  refine ⟨fun i m σ' H' => m = items.length - i ∧ i ≤ items.length ∧ ∃ F' s', Same F1 F' ∧ Rel A σ' H' F' s' ∧ loopD tg body D (items.drop i) s', ⟨items.length, rfl, Nat.zero_le _, F1, _, Same.refl _, R1, q1⟩, ?_⟩
  rintro i m σ2 H2 ⟨rfl, hi2, F2, s2, e2, R2, q2⟩
  obtain ⟨hgo, hst⟩ := it H2 F2 e2 R2.gd i
  by_cases c : i < items.length
  · have ei : items[i]? = some items[i] := List.getElem?_eq_getElem c
    obtain ⟨go, yl⟩ := hgo _ ei
    rw [List.drop_eq_getElem_cons c] at q2
    refine .inr ⟨go, fun σ' H' => i + 1 ≤ items.length ∧ ∃ F' s', Same F1 F' ∧ Rel A σ' H' F' s' ∧ loopD tg body D (items.drop (i + 1)) s', fun σ' H' ⟨hl, z⟩ => ⟨_, by omega, rfl, hl, z⟩, fun v H3 y => ?_⟩
    obtain ⟨F3, f3, p3, d3⟩ := yl v H3 y
    have R3 := R2.fw0 f3 fun p hp => p3 p hp (R2.pwH p hp)
    refine hg.run σ2 H3 F3 s2 v _ _ _ R3 d3 q2 fun σ4 s4 R4 _ _ q4 => ?_
    have e3 : Same F1 F3 := e2.trans f3.sub
    refine hb.run σ4 H3 F3 s4 _ _ R4 q4 ⟨fun σ5 H5 F5 s5 e5 R5 q5 => ⟨c, F5, s5, e3.trans e5, R5, q5⟩, fun σ5 H5 F5 s5 e5 R5 q5 => ?_, fun σ5 H5 F5 s5 e5 R5 q5 => ⟨c, F5, s5, e3.trans e5, R5, q5⟩, k.rt⟩
    exact k.nx σ5 H5 F5 s5 (f1.sub.trans (e3.trans e5)) R5 q5
  · have ei : i = items.length := by omega
    subst ei
    rw [List.drop_length] at q2
    exact .inl ⟨hst (Nat.le_refl _), k.nx σ2 H2 F2 s2 (f1.sub.trans e2) R2 q2⟩
/-! ### while -/
def dWhile (c : TDT) (body : TSD) : TSD := fun D s => ∃ W : Nat → S → Prop, (∃ m, W m s) ∧ ∀ m s, W m s → c s fun b w => if b = true then body { D with nx := fun s' => ∃ m', m' < m ∧ W m' s', ct := fun s' => ∃ m', m' < m ∧ W m' s', bk := D.nx } (s.wl w) else D.nx (s.wl w)
theorem ds_while {c : TT} {tb : TS} {dc : TDT} {body : TSD} (hc : DT A c dc) (hb : DS A tb body) : DS A (tWhile c tb) (dWhile dc body) := by
  refine ⟨fun σ H F s D D' R q k => ?_⟩
  obtain ⟨W, ⟨m0, w0⟩, turn⟩ := q
  refine ⟨fun m σ' H' => ∃ F' s', Same F F' ∧ Rel A σ' H' F' s' ∧ W m s', ⟨m0, F, s, Same.refl _, R, w0⟩, ?_⟩
  rintro m σ1 H1 ⟨F1, s1, e1, R1, w1⟩
  refine hc.run σ1 H1 F1 s1 _ _ R1 (turn m s1 w1) fun b H2 F2 w2 f2 W2 q2 => ?_
  have R2 := R1.fw f2 W2
  cases b with
  | true =>
    refine ⟨fun σ' H' => ∃ m', m' < m ∧ ∃ F' s', Same F F' ∧ Rel A σ' H' F' s' ∧ W m' s', fun σ' H' h => h, ?_⟩
    refine hb.run σ1 H2 F2 _ _ _ R2 q2 ⟨fun σ5 H5 F5 s5 e5 R5 q5 => ?_, fun σ5 H5 F5 s5 e5 R5 q5 => k.nx σ5 H5 F5 s5 (e1.trans (f2.sub.trans e5)) R5 q5, fun σ5 H5 F5 s5 e5 R5 q5 => ?_, k.rt⟩
    · obtain ⟨m', hm, w'⟩ := q5
      exact ⟨m', hm, F5, s5, e1.trans (f2.sub.trans e5), R5, w'⟩
    · obtain ⟨m', hm, w'⟩ := q5
      exact ⟨m', hm, F5, s5, e1.trans (f2.sub.trans e5), R5, w'⟩
  | false => exact k.nx σ1 H2 F2 _ (e1.trans f2.sub) R2 q2

/-! ### comprehensions -/
def wipeD (sl : List (Option Rv)) : List Nat → List (Option Rv)
  | [] => sl
  | v :: vs => (wipeD sl vs).set v none
theorem wipeD_len (sl : List (Option Rv)) : ∀ vs : List Nat, (wipeD sl vs).length = sl.length
  | [] => rfl
  | v :: vs => by unfold wipeD; rw [List.length_set, wipeD_len sl vs]
theorem wipeD_get {sl : List (Option Rv)} {i : Nat} {r : Rv} : ∀ {vs : List Nat}, (wipeD sl vs)[i]? = some (some r) → sl[i]? = some (some r) ∧ i ∉ vs
  | [], h => ⟨h, by simp⟩
  | v :: vs, h => by
    unfold wipeD at h
    rcases getElem?_set_cases h with ⟨_, e, _⟩ | ⟨ne, e⟩
    · cases e
    · obtain ⟨h1, h2⟩ := wipeD_get e
      exact ⟨h1, by simp only [List.mem_cons, not_or]; exact ⟨ne, h2⟩⟩
theorem wipe_get {σ : L2.St} {i : Nat} : ∀ {vs : List Nat}, i ∉ vs → (wipe σ vs)[i]? = σ[i]?
  | [], _ => rfl
  | v :: vs, h => by
    unfold wipe
    rw [List.getElem?_set_ne (fun z => h (by rw [z]; simp))]
    exact wipe_get fun z => h (List.mem_cons_of_mem _ z)
theorem wipe_in {σ : L2.St} {i : Nat} : ∀ {vs : List Nat}, i ∈ vs → i < σ.length → (wipe σ vs)[i]? = some none
  | [], h, _ => by cases h
  | v :: vs, h, hl => by
    unfold wipe
    by_cases e : v = i
    · subst e
      rw [List.getElem?_set_self (by rw [wipe_length]; exact hl)]
    · rw [List.getElem?_set_ne e]
      exact wipe_in ((List.mem_cons.mp h).resolve_left fun z => e z.symm) hl
theorem wipe_eq {σ σ' : L2.St} {vs : List Nat} (hl : σ'.length = σ.length) (h : ∀ k, k ∉ vs → σ'[k]? = σ[k]?) : wipe σ' vs = wipe σ vs := by
  apply List.ext_getElem?
  intro i
  by_cases c : i ∈ vs
  · by_cases l : i < σ.length
    · rw [wipe_in c l, wipe_in c (by rw [hl]; exact l)]
    · rw [List.getElem?_eq_none (by rw [wipe_length]; omega), List.getElem?_eq_none (by rw [wipe_length]; omega)]
  · rw [wipe_get c, wipe_get c]
    exact h i c
theorem wipe_wipe {σ : L2.St} {vs : List Nat} : wipe (wipe σ vs) vs = wipe σ vs := wipe_eq (wipe_length _ _) fun k h => wipe_get h
theorem Rel.wipe {σ : L2.St} {H F : Hp} {s : S} (R : Rel A σ H F s) (vs : List Nat) : Rel A (L2.wipe σ vs) H F ⟨wipeD s.sl vs, s.w⟩ := by
  refine ⟨R.gd, R.well, by rw [wipe_length, wipeD_len]; exact R.len, fun i r e => ?_, fun i j xs ys e1 e2 ne => ?_⟩
  · obtain ⟨h1, h2⟩ := wipeD_get e
    obtain ⟨v, e3, h3⟩ := R.slot i r h1
    exact ⟨v, by rw [wipe_get h2]; exact e3, h3⟩
  · obtain ⟨h1, h2⟩ := wipeD_get e1
    obtain ⟨h3, h4⟩ := wipeD_get e2
    rw [wipe_get h2, wipe_get h4]
    exact R.dist i j xs ys h1 h3 ne
def compD (own : List Nat) (tg : TDG) (tt : TDT) (te : TD) (Q : List PyData → W3 → Prop) (sl : List (Option Rv)) : List PyData → List PyData → W3 → Prop
  | [], acc, w => Q acc w
  | x :: xs, acc, w => tg x ⟨wipeD sl own, w⟩ fun s1 => tt s1 fun b w1 => if b = true then te (s1.wl w1) fun r w2 => kp r fun y => compD own tg tt te Q sl xs (acc ++ [y]) w2 else compD own tg tt te Q sl xs acc w1
def dComp (own : List Nat) (ti : TDI) (tg : TDG) (tt : TDT) (te : TD) : TD := fun s Q => ti s fun items w => items.length < 16777216 ∧ compD own tg tt te (fun ys w => Q (.l ys) w) s.sl items [] w
def dYes : TDT := fun s Q => Q true s.w
theorem dt_yes : DT A tYes dYes := ⟨fun σ H F s Q Q' R h k => k true H F s.w (Fw.refl R.gd.sub) R.well h⟩
theorem de_comp {own : List Nat} {is : List Nat} {wi : TI} {g : TG} {tt : TT} {te : TE} {ti : TDI} {tg : TDG} {dt : TDT} {de : TD} (hi : DI A wi ti) (hg : DG A g is tg) (hs : ∀ k ∈ is, k ∈ own) (ht : DT A tt dt) (he : DE A te de) :
    DE A (tLc wi g tt te own) (dComp own ti tg dt de) := by
  refine ⟨fun σ H F s Q Q' R q k => ?_⟩
  refine hi.run σ H F s _ _ R q fun J H1 F1 items w1 f1 W1 it q1 => ?_
  obtain ⟨hlen, q1⟩ := q1
  intro D hD
  have hDH : H D = none := by
    cases e : H D with
    | none => rfl
    | some o => exact absurd hD (f1.old D (by rw [e]; simp))
  have hDF : F1 D = none := none_of_same f1.sub' hD
  have szl : sizeLine = 16777216 := sizeLine_eq
  refine ⟨fun i m Hc => m = items.length - i ∧ i ≤ items.length ∧ ∃ F' vs acc w', Same F1 F' ∧ Fw A H F Hc F' ∧ WellR A Hc w' ∧ F' D = none ∧ Hc D = some (.lst vs) ∧ DpAll A.K F' vs acc ∧ acc.length ≤ i ∧ compD own tg dt de (fun ys w => Q (.l ys) w) s.sl (items.drop i) acc w',
    ⟨items.length, rfl, Nat.zero_le _, F1, [], [], w1, Same.refl _, f1.trans (fw_new f1.sub' hD), well_new W1 hD, hDF, upd_same, .nil, Nat.zero_le _, q1⟩, ?_⟩
  rintro i m Hc ⟨rfl, hi2, F2, vs, acc, w2, e2, f2, W2, hF2, hc2, ha2, hl2, q2⟩
  have R2 := R.fw f2 W2
  obtain ⟨hgo, hst⟩ := it Hc F2 e2 R2.gd i
  by_cases c : i < items.length
  · have ei : items[i]? = some items[i] := List.getElem?_eq_getElem c
    obtain ⟨go, yl⟩ := hgo _ ei
    rw [List.drop_eq_getElem_cons c] at q2
    refine .inr ⟨go, fun Hc => i + 1 ≤ items.length ∧ ∃ F' vs acc w', Same F1 F' ∧ Fw A H F Hc F' ∧ WellR A Hc w' ∧ F' D = none ∧ Hc D = some (.lst vs) ∧ DpAll A.K F' vs acc ∧ acc.length ≤ i + 1 ∧ compD own tg dt de (fun ys w => Q (.l ys) w) s.sl (items.drop (i + 1)) acc w', fun H' ⟨hl, z⟩ => ⟨_, by omega, rfl, hl, z⟩, fun v H3 y => ?_⟩
    obtain ⟨F3, f3, p3, d3⟩ := yl v H3 y
    have R3 := R2.fw0 f3 fun p hp => p3 p hp (R2.pwH p hp)
    have nD : ∀ {Ha Fa Hb Fb : Hp}, Fw A Ha Fa Hb Fb → Fa D = none → (∃ o, Ha D = some o) → Fb D = none := fun {Ha Fa Hb Fb} f h1 ⟨o, h2⟩ => by
      cases z : Fb D with
      | none => rfl
      | some u =>
        rcases f.new D (by rw [z]; simp) with q | q
        · exact absurd h1 q
        · rw [h2] at q; cases q
    have pD : A.pw ≠ some D := fun z => R.pwH D z hDH
    refine hg.run (wipe σ own) H3 F3 _ v _ _ _ (R3.wipe own) d3 q2 fun σ4 s4 R4 l4 k4 q4 => ?_
    refine ⟨?_, ?_⟩
    · rw [← wipe_wipe (σ := σ) (vs := own)]
      exact wipe_eq l4 fun j hj => k4 j fun z => hj (hs j z)
    refine ht.run σ4 H3 F3 s4 _ _ R4 q4 fun b H5 F5 w5 f5 W5 q5 => ?_
    have f05 := (f2.trans f3).trans f5
    have e5 : Same F1 F5 := e2.trans (f3.sub.trans f5.sub)
    have h3D : H3 D = some (.lst vs) := f3.ext D _ hc2 pD
    have h5D : H5 D = some (.lst vs) := f5.ext D _ h3D pD
    have F3D := nD f3 hF2 ⟨_, hc2⟩
    have F5D := nD f5 F3D ⟨_, h3D⟩
    have a5 := dpa_mono (f3.sub.trans f5.sub) _ _ ha2
    cases b with
    | false => exact ⟨c, F5, vs, acc, w5, e5, f05, W5, F5D, h5D, a5, Nat.le_succ_of_le hl2, q5⟩
    | true =>
      rw [if_pos rfl] at q5 ⊢
      refine he.run σ4 H5 F5 _ _ _ (R4.fw f5 W5) q5 fun u H6 F6 r w6 f6 W6 v6 q6 => ?_
      unfold kp at q6
      split at q6
      · rename_i y ey
        obtain ⟨F7, f7, s7, d7⟩ := v6.keep f6 ey
        have h6D : H6 D = some (.lst vs) := f7.ext D _ h5D pD
        have F7D := nD f7 F5D ⟨_, h5D⟩
        have a7 := dpa_mono f7.sub _ _ a5
        refine ⟨vs, h6D, by rw [dpa_len a5, szl]; omega, c, F7, vs ++ [u], acc ++ [y], w6, e5.trans f7.sub, ?_, fun p hp => ?_, F7D, upd_same, dpa_append a7 (.cons d7 .nil), by simp; omega, q6⟩
        · have f := f05.trans f7
          refine ⟨fun a o q n => ?_, fun a q => ?_, f.sub, fun a o q => ?_, f.new⟩
          · rw [upd_ne (ne_of_none q hDH)]; exact f.ext a o q n
          · unfold upd; split
            · simp
            · exact f.old a q
          · rw [upd_ne (ne_of_none q F7D)]; exact f.sub' a o q
        · rw [upd_ne (fun z => pD (by rw [← z]; exact hp))]; exact W6 p hp
      · exact q6.elim
  · have ei : i = items.length := by omega
    subst ei
    rw [List.drop_length] at q2
    exact .inl ⟨hst (Nat.le_refl _), k (.ref D) Hc F2 (.l acc) w2 f2 W2 ⟨D, vs, rfl, hDH, hF2, hc2, ha2⟩ q2⟩
end
end DL
/-! DL6: what is walked, changes of lists, the well, defs. -/
namespace DL
open PySem PySem.Spec PyProof.Rows L2
section
variable {A : Am}
/-! ### rules for the layer below -/
/-- a list or a tuple, walked -/
def iSeq (K : PySem.W.Frag) (tl : TE) : TI := fun σ H R => tl σ H fun x H1 => ∃ a, x = .ref a ∧ (((∃ xs, SqL K H1 a xs) ∧ R (Itl K a) H1) ∨ ((∃ xs, SqT K H1 a xs) ∧ R (Itt K a) H1))
theorem pi_seq {X : Cx} {tg l : Expr} {tl : TE} (hl : PE X l tl) : PI X tg l (iSeq X.K tl) := by
  refine ⟨fun pn s σ H R J h => ?_⟩
  refine thn (hl.run pn s σ H _ J h) fun v s1 hv => ?_
  obtain ⟨x, H1, J1, r1, a, rfl, q⟩ := hv
  cases r1
  have fr : ∀ b ∈ [s1.heap.objs.size], FpOk X pn H1 b := fun b hb => by
    have eb : b = s1.heap.objs.size := List.mem_singleton.mp hb
    rw [eb]
    exact J1.fpOk (Nat.le_refl _) (J1.hok.fresh (Nat.le_refl _))
  have kp := fun (ob : Obj) => J1.kept (h' := s1.heap.push ob) (t' := s1.toks) fun b o e => Heap.get?_push_of_some _ e
  rcases q with ⟨⟨xs, hq⟩, q⟩ | ⟨⟨xs, hq⟩, q⟩
  · obtain ⟨its, rv, pl, _⟩ := J1.list hq
    exact wpAny_pyIter_list pl.isList ⟨_, _, _, _, H1, rfl, kp _, turn_list a _, ⟨_, Heap.get?_push_size _ rfl, rfl, rfl⟩, fr, q⟩
  · obtain ⟨its, rv, pt, _⟩ := J1.tuple hq
    exact wpAny_pyIter_tuple (show s1.heap.IsTuple a its.toArray from pt) ⟨_, _, _, _, H1, rfl, kp _, turn_tuple a _, ⟨_, Heap.get?_push_size _ rfl, rfl, rfl⟩, fr, q⟩
/-! ### what is walked -/
/-- a value that a loop walks: it stays as it is -/
def stay (r : Rv) (k : List PyData → Prop) : Prop := match r with
  | .d (.list xs) => k xs
  | .d (.tuple xs) => k xs
  | .l xs => k xs
  | .a xs => k xs
  | _ => False
/-- such a value, frozen or the caller's -/
theorem stay_of {H F H1 F1 : Hp} {v : V} {r : Rv} {k : List PyData → Prop} (g : Gd A H1 F1) (f : Fw A H F H1 F1) (h : ResR A H H1 F1 v r) (q : stay r k) :
    ∃ (a : Addr) (vs : List V) (xs : List PyData) (F2 : Hp), v = .ref a ∧ k xs ∧ Fw A H F H1 F2 ∧ Same F1 F2 ∧ DpAll A.K F2 vs xs ∧ ((SqL A.K H1 a vs ∧ ∀ H' F', Same F2 F' → Gd A H' F' → SqL A.K H' a vs) ∨ (SqT A.K H1 a vs ∧ ∀ H' F', Same F2 F' → Gd A H' F' → SqT A.K H' a vs)) := by
  have tupS : ∀ {F H : Hp} {a : Addr} {vs : List V}, Same F H → SqT A.K F a vs → SqT A.K H a vs := fun {F H a vs} e h => by
    rcases h with (h | ⟨o, h⟩) | h
    · exact .inl (.inl (e _ _ h))
    · exact .inl (.inr ⟨o, e _ _ h⟩)
    · exact .inr h
  cases r with
  | d x =>
    cases x with
    | list xs =>
      cases h with
      | @lst a vs _ hq ha => exact ⟨a, vs, xs, F1, rfl, q, f, Same.refl _, ha, .inl ⟨f.sub'.seq hq, fun H' F' e g' => (e.trans g'.sub).seq hq⟩⟩
    | tuple xs =>
      cases h with
      | @tup a vs _ hq ha => exact ⟨a, vs, xs, F1, rfl, q, f, Same.refl _, ha, .inr ⟨tupS f.sub' hq, fun H' F' e g' => tupS (e.trans g'.sub) hq⟩⟩
    | _ => exact q.elim
  | l xs =>
    obtain ⟨p, vs, rfl, h0, hF, h1, h3⟩ := h
    refine ⟨p, vs, xs, _, rfl, q, f.froz h0 h1 hF, same_upd hF, dpa_mono (same_upd hF) _ _ h3, .inl ⟨SqL.of h1, fun H' F' e g' => SqL.of (g'.sub _ _ (e _ _ upd_same))⟩⟩
  | a xs =>
    obtain ⟨p, vs, rfl, h0, h1, h3⟩ := h
    exact ⟨p, vs, xs, F1, rfl, q, f, Same.refl _, h3, .inl ⟨SqL.of (g.ext _ _ h0 h1), fun H' F' e g' => SqL.of (g'.ext _ _ h0 h1)⟩⟩
  | p xs => exact q.elim
  | w => exact q.elim
def diSeq (t : TD) : TDI := fun s Q => t s fun r w => stay r fun xs => Q xs w
theorem it_same {H F H' : Hp} (g : Gd A H F) (e : H' = H) : Fw A H F H' F ∧ ∀ p, A.pw = some p → H p ≠ none → H' p = H p := by
  subst e
  exact ⟨Fw.refl g.sub, fun _ _ _ => rfl⟩
theorem dp_at {F : Hp} {vs : List V} {xs : List PyData} {i : Nat} {x : PyData} {v : V} (h : DpAll A.K F vs xs) (e : xs[i]? = some x) (ev : vs[i]? = some v) : Dp A.K F v x := by
  obtain ⟨u, e1, d⟩ := dpa_get h e
  rw [ev] at e1
  cases e1
  exact d
theorem it_list {F0 : Hp} {a : Addr} {vs : List V} {xs : List PyData} (h : DpAll A.K F0 vs xs) (q : ∀ H F, Same F0 F → Gd A H F → SqL A.K H a vs) : ItOk A (Itl A.K a) F0 xs := by
  intro H F e g i
  have hl := dpa_len h
  refine ⟨fun x ex => ?_, fun hi => ⟨vs, q H F e g, by omega⟩⟩
  obtain ⟨v, ev, dv⟩ := dpa_get h ex
  refine ⟨⟨vs, v, q H F e g, ev⟩, fun u H' y => ?_⟩
  obtain ⟨eH, y⟩ := y
  obtain ⟨f, hp⟩ := it_same g eH
  exact ⟨F, f, hp, dp_mono e _ _ (dp_at h ex (y vs (q H F e g)))⟩
theorem it_tup {F0 : Hp} {a : Addr} {vs : List V} {xs : List PyData} (h : DpAll A.K F0 vs xs) (q : ∀ H F, Same F0 F → Gd A H F → SqT A.K H a vs) : ItOk A (Itt A.K a) F0 xs := by
  intro H F e g i
  have hl := dpa_len h
  refine ⟨fun x ex => ?_, fun hi => ⟨vs, q H F e g, by omega⟩⟩
  obtain ⟨v, ev, dv⟩ := dpa_get h ex
  refine ⟨⟨vs, v, q H F e g, ev⟩, fun u H' y => ?_⟩
  obtain ⟨eH, y⟩ := y
  obtain ⟨f, hp⟩ := it_same g eH
  exact ⟨F, f, hp, dp_mono e _ _ (dp_at h ex (y vs (q H F e g)))⟩
theorem di_seq {tl : TE} {t : TD} (h : DE A tl t) : DI A (iSeq A.K tl) (diSeq t) := by
  refine ⟨fun σ H F s Q R' R q k => ?_⟩
  refine h.run σ H F s _ _ R q fun v H1 F1 r w1 f1 W1 v1 q1 => ?_
  obtain ⟨a, vs, xs, F2, rfl, q2, f2, _, h2, hc⟩ := stay_of (R.gd.fw f1) f1 v1 q1
  refine ⟨a, rfl, ?_⟩
  rcases hc with ⟨h3, h4⟩ | ⟨h3, h4⟩
  · exact .inl ⟨⟨vs, h3⟩, k _ H1 F2 xs w1 f2 W1 (it_list h2 h4) q2⟩
  · exact .inr ⟨⟨vs, h3⟩, k _ H1 F2 xs w1 f2 W1 (it_tup h2 h4) q2⟩
/-- ints lo, lo + c, .. -/
def intsBy (lo c : Int) (n : Nat) : List PyData := (List.range n).map fun (k : Nat) => PyData.int (lo + (k : Int) * c)
theorem intsBy_get {lo c : Int} {n i : Nat} {x : PyData} (h : (intsBy lo c n)[i]? = some x) : i < n ∧ x = .int (lo + (i : Int) * c) := by
  unfold intsBy at h
  rw [List.getElem?_map] at h
  by_cases hi : i < n
  · rw [List.getElem?_range hi] at h
    exact ⟨hi, (Option.some.inj h).symm⟩
  · rw [List.getElem?_eq_none (by simpa using hi)] at h
    cases h
theorem intsBy_len {lo c : Int} {n : Nat} : (intsBy lo c n).length = n := by simp [intsBy]
theorem it_itr {F0 : Hp} {lo : Int} {n : Nat} : ItOk A (Itr lo n) F0 (intsBy lo 1 n) := by
  intro H F e g i
  refine ⟨fun x ex => ?_, fun hi => by rw [intsBy_len] at hi; exact hi⟩
  obtain ⟨hi, rfl⟩ := intsBy_get ex
  refine ⟨hi, fun u H' y => ?_⟩
  obtain ⟨eH, rfl⟩ := y
  obtain ⟨f, hp⟩ := it_same g eH
  rw [Int.mul_one]
  exact ⟨F, f, hp, Dp.int _⟩
theorem it_itc {F0 : Hp} {lo c : Int} {n : Nat} : ItOk A (Itc lo c n) F0 (intsBy lo c n) := by
  intro H F e g i
  refine ⟨fun x ex => ?_, fun hi => by rw [intsBy_len] at hi; exact hi⟩
  obtain ⟨hi, rfl⟩ := intsBy_get ex
  refine ⟨hi, fun u H' y => ?_⟩
  obtain ⟨eH, rfl⟩ := y
  obtain ⟨f, hp⟩ := it_same g eH
  exact ⟨F, f, hp, Dp.int _⟩
def asInt (r : Rv) (k : Int → Prop) : Prop := match r with
  | .d (.int i) => k i
  | _ => False
theorem asInt_of {r : Rv} {k : Int → Prop} (h : asInt r k) : ∃ i, r = .d (.int i) ∧ k i := by
  unfold asInt at h
  split at h
  · exact ⟨_, rfl, h⟩
  · exact h.elim
/-- an int that counts -/
def cnt (i : Int) : Prop := -1000000000 ≤ i ∧ i ≤ 1000000000
def diRng1 (t : TD) : TDI := fun s Q => t s fun r w => asInt r fun i => cnt i ∧ Q (intsBy 0 1 i.toNat) w
theorem di_rng1 {te : TE} {t : TD} (h : DE A te t) : DI A (iRng1 (tCons te tNil)) (diRng1 t) := by
  refine ⟨fun σ H F s Q R' R q k => ?_⟩
  refine h.run σ H F s _ _ R q fun v H1 F1 r w1 f1 W1 v1 q1 => ?_
  obtain ⟨i, rfl, ⟨c1, c2⟩, q1⟩ := asInt_of q1
  cases v1
  exact ⟨i, rfl, by omega, by omega, k _ H1 F1 _ w1 f1 W1 it_itr q1⟩
def diRng2 (t u : TD) : TDI := fun s Q => t s fun r w => u (s.wl w) fun r2 w2 => asInt r fun i => asInt r2 fun j => (cnt i ∧ cnt j) ∧ Q (intsBy i 1 (j - i).toNat) w2
theorem di_rng2 {te ue : TE} {t u : TD} (h : DE A te t) (h2 : DE A ue u) : DI A (iRng2 (tCons te (tCons ue tNil))) (diRng2 t u) := by
  refine ⟨fun σ H F s Q R' R q k => ?_⟩
  refine h.run σ H F s _ _ R q fun v H1 F1 r w1 f1 W1 v1 q1 => ?_
  refine h2.run σ H1 F1 _ _ _ (R.fw f1 W1) q1 fun v2 H2 F2 r2 w2 f2 W2 v2' q2 => ?_
  obtain ⟨i, rfl, q3⟩ := asInt_of q2
  obtain ⟨j, rfl, ⟨⟨c1, c2⟩, c3, c4⟩, q2⟩ := asInt_of q3
  cases v1
  cases v2'
  exact ⟨i, j, rfl, ⟨by omega, by omega, by omega, by omega⟩, k _ H2 F2 _ w2 (f1.trans f2) W2 it_itr q2⟩
/-- reversed(range(n)) -/
def diRevR (t : TD) : TDI := fun s Q => t s fun r w => asInt r fun i => cnt i ∧ Q (intsBy (0 + (((i - 0).toNat : Nat) : Int) - 1) (-1) (i - 0).toNat) w
theorem di_revR {te : TE} {t : TD} (h : DE A te t) : DI A (iRevR (tRg1 te)) (diRevR t) := by
  refine ⟨fun σ H F s Q R' R q k => ?_⟩
  refine h.run σ H F s _ _ R q fun v H1 F1 r w1 f1 W1 v1 q1 => ?_
  obtain ⟨i, rfl, ⟨c1, c2⟩, q1⟩ := asInt_of q1
  cases v1
  exact ⟨i, rfl, by omega, by omega, by omega, by omega, k _ H1 F1 _ w1 f1 W1 it_itc q1⟩
theorem rev_get {α : Type} {xs : List α} {i : Nat} {x : α} (h : xs.reverse[i]? = some x) : i < xs.length ∧ xs[xs.length - 1 - i]? = some x := by
  have hi : i < xs.length := by
    have := (List.getElem?_eq_some_iff.mp h).1
    simpa using this
  exact ⟨hi, by rw [List.getElem?_reverse hi] at h; exact h⟩
/-- reversed(x) -/
def diRev (t : TD) : TDI := fun s Q => t s fun r w => stay r fun xs => Q xs.reverse w
theorem di_rev {tl : TE} {t : TD} (h : DE A tl t) : DI A (RT.iRevA A.K tl) (diRev t) := by
  refine ⟨fun σ H F s Q R' R q k => ?_⟩
  refine h.run σ H F s _ _ R q fun v H1 F1 r w1 f1 W1 v1 q1 => ?_
  obtain ⟨a, vs, xs, F2, rfl, q2, f2, _, h2, hc⟩ := stay_of (R.gd.fw f1) f1 v1 q1
  have hl := dpa_len h2
  refine ⟨a, vs, rfl, ?_⟩
  rcases hc with ⟨h3, h4⟩ | ⟨h3, h4⟩
  · refine .inl ⟨h3, k _ H1 F2 _ w1 f2 W1 ?_ q2⟩
    intro H' F' e g i
    refine ⟨fun x ex => ?_, fun hi => by show vs.length ≤ i; simp at hi; omega⟩
    obtain ⟨hi, ex⟩ := rev_get ex
    rw [← hl] at hi ex
    obtain ⟨v, ev, dv⟩ := dpa_get h2 ex
    refine ⟨⟨hi, vs, v, h4 H' F' e g, ev⟩, fun u H'' y => ?_⟩
    obtain ⟨eH, y⟩ := y
    obtain ⟨f, hp⟩ := it_same g eH
    exact ⟨F', f, hp, dp_mono e _ _ (dp_at h2 ex (y vs (h4 H' F' e g)))⟩
  · refine .inr ⟨h3, k _ H1 F2 _ w1 f2 W1 ?_ q2⟩
    intro H' F' e g i
    refine ⟨fun x ex => ?_, fun hi => by show vs.length ≤ i; simp at hi; omega⟩
    obtain ⟨hi, ex⟩ := rev_get ex
    rw [← hl] at hi ex
    obtain ⟨v, ev, dv⟩ := dpa_get h2 ex
    refine ⟨⟨hi, vs, v, h4 H' F' e g, ev⟩, fun u H'' y => ?_⟩
    obtain ⟨eH, y⟩ := y
    obtain ⟨f, hp⟩ := it_same g eH
    exact ⟨F', f, hp, dp_mono e _ _ (dp_at h2 ex (y vs (h4 H' F' e g)))⟩
/-- zip of two lists -/
def pairsOf : List PyData → List PyData → List PyData
  | x :: xs, y :: ys => .tuple [x, y] :: pairsOf xs ys
  | _, _ => []
theorem pairsOf_len : ∀ (xs ys : List PyData), (pairsOf xs ys).length = min xs.length ys.length
  | [], _ => by simp [pairsOf]
  | _ :: _, [] => by simp [pairsOf]
  | x :: xs, y :: ys => by simp only [pairsOf, List.length_cons, pairsOf_len xs ys]; omega
theorem pairsOf_get : ∀ {xs ys : List PyData} {i : Nat} {z : PyData}, (pairsOf xs ys)[i]? = some z → ∃ x y, xs[i]? = some x ∧ ys[i]? = some y ∧ z = .tuple [x, y]
  | [], _, _, _, h => by simp [pairsOf] at h
  | _ :: _, [], _, _, h => by simp [pairsOf] at h
  | x :: xs, y :: ys, 0, z, h => by
    simp [pairsOf] at h
    exact ⟨x, y, rfl, rfl, h.symm⟩
  | x :: xs, y :: ys, i + 1, z, h => by
    obtain ⟨a, b, h1, h2, h3⟩ := pairsOf_get (xs := xs) (ys := ys) (i := i) (z := z) (by simpa [pairsOf] using h)
    exact ⟨a, b, by simpa using h1, by simpa using h2, h3⟩
def stayL (r : Rv) (k : List PyData → Prop) : Prop := match r with
  | .d (.list xs) => k xs
  | .l xs => k xs
  | .a xs => k xs
  | _ => False
theorem stayL_of {H F H1 F1 : Hp} {v : V} {r : Rv} {k : List PyData → Prop} (g : Gd A H1 F1) (f : Fw A H F H1 F1) (h : ResR A H H1 F1 v r) (q : stayL r k) :
    ∃ (a : Addr) (vs : List V) (xs : List PyData) (F2 : Hp), v = .ref a ∧ k xs ∧ Fw A H F H1 F2 ∧ Same F1 F2 ∧ DpAll A.K F2 vs xs ∧ SqL A.K H1 a vs ∧ ∀ H' F', Same F2 F' → Gd A H' F' → SqL A.K H' a vs := by
  cases r with
  | d x =>
    cases x with
    | list xs =>
      cases h with
      | @lst a vs _ hq ha => exact ⟨a, vs, xs, F1, rfl, q, f, Same.refl _, ha, f.sub'.seq hq, fun H' F' e g' => (e.trans g'.sub).seq hq⟩
    | _ => exact q.elim
  | l xs =>
    obtain ⟨p, vs, rfl, h0, hF, h1, h3⟩ := h
    exact ⟨p, vs, xs, _, rfl, q, f.froz h0 h1 hF, same_upd hF, dpa_mono (same_upd hF) _ _ h3, SqL.of h1, fun H' F' e g' => SqL.of (g'.sub _ _ (e _ _ upd_same))⟩
  | a xs =>
    obtain ⟨p, vs, rfl, h0, h1, h3⟩ := h
    exact ⟨p, vs, xs, F1, rfl, q, f, Same.refl _, h3, SqL.of (g.ext _ _ h0 h1), fun H' F' e g' => SqL.of (g'.ext _ _ h0 h1)⟩
  | p xs => exact q.elim
  | w => exact q.elim
def diZip (t u : TD) : TDI := fun s Q => t s fun r w => stayL r fun xs => u (s.wl w) fun r2 w2 => stayL r2 fun ys => Q (pairsOf xs ys) w2
/-- a new pair -/
theorem new_pair {H F : Hp} {T : Addr} {u v : V} {x y : PyData} (g : Gd A H F) (hT : H T = none) (h1 : Dp A.K F u x) (h2 : Dp A.K F v y) :
    ∃ F', Fw A H F (upd H T (.tup [u, v])) F' ∧ (∀ p, A.pw = some p → H p ≠ none → upd H T (.tup [u, v]) p = H p) ∧ Dp A.K F' (.ref T) (.tuple [x, y]) := by
  have hF := none_of_same g.sub hT
  refine ⟨_, fw_froz g.sub hT, fun p hp hn => ?_, .tup (.inl (.inl upd_same)) (.cons (dp_mono (same_upd hF) _ _ h1) (.cons (dp_mono (same_upd hF) _ _ h2) .nil))⟩
  rw [upd_ne]
  intro z
  subst z
  exact hn hT
theorem di_zip {te ue : TE} {t u : TD} (h : DE A te t) (h2 : DE A ue u) : DI A (RZ.iZipA A.K (tCons te (tCons ue tNil))) (diZip t u) := by
  refine ⟨fun σ H F s Q R' R q k => ?_⟩
  refine h.run σ H F s _ _ R q fun v H1 F1 r w1 f1 W1 v1 q1 => ?_
  obtain ⟨a, vs, xs, F2, rfl, q2, f2, s2, d2, hq2, hs2⟩ := stayL_of (R.gd.fw f1) f1 v1 q1
  have R2 := R.fw f2 W1
  refine h2.run σ H1 F2 _ _ _ R2 q2 fun v H3 F3 r w3 f3 W3 v3 q3 => ?_
  obtain ⟨b, us, ys, F4, rfl, q4, f4, s4, d4, hq4, hs4⟩ := stayL_of (R2.gd.fw f3) f3 v3 q3
  have e24 : Same F2 F4 := f3.sub.trans s4
  have g4 : Gd A H3 F4 := R2.gd.fw f4
  refine ⟨a, b, vs, us, rfl, .inl ⟨hs2 H3 F4 e24 g4, hq4, k _ H3 F4 _ w3 (f2.trans f4) W3 ?_ q4⟩⟩
  intro H' F' e g i
  have l1 := dpa_len d2
  have l2 := dpa_len d4
  have qa := hs2 H' F' (e24.trans e) g
  have qb := hs4 H' F' e g
  refine ⟨fun z ez => ?_, fun hi => ⟨vs, us, qa, qb, ?_⟩⟩
  · obtain ⟨x, y, ex, ey, rfl⟩ := pairsOf_get ez
    obtain ⟨vx, evx, _⟩ := dpa_get d2 ex
    obtain ⟨vy, evy, _⟩ := dpa_get d4 ey
    refine ⟨⟨vs, us, vx, vy, qa, qb, evx, evy⟩, fun u H'' hy => ?_⟩
    obtain ⟨T, x', y', rfl, hT, rfl, y1, y2⟩ := hy
    exact new_pair g hT (dp_mono (e24.trans e) _ _ (dp_at d2 ex (y1 vs qa))) (dp_mono e _ _ (dp_at d4 ey (y2 us qb)))
  · rw [pairsOf_len] at hi
    omega
end
end DL
/-! DL7: changes of lists, the well, defs. -/
namespace DL
open PySem PySem.Spec PyProof.Rows L2
section
variable {A : Am}
/-- a list of one's own is changed -/
theorem Rel.chg {σ : L2.St} {H F : Hp} {s : S} {i : Nat} {xs ys : List PyData} {p : Addr} {vs : List V} (R : Rel A σ H F s) (e : s.sl[i]? = some (some (.l xs))) (ev : σ[i]? = some (some (.ref p))) (h0 : A.H0 p = none) (hF : F p = none) (ha : DpAll A.K F vs ys) :
    Rel A σ (upd H p (.lst vs)) F ⟨s.sl.set i (some (.l ys)), s.w⟩ := by
  have ne0 : ∀ a o, A.H0 a = some o → a ≠ p := fun a o q z => by subst z; rw [h0] at q; cases q
  refine ⟨⟨fun a o q n => ?_, fun a q => ?_, fun a o q => ?_, R.gd.sub0, R.gd.new⟩, fun q hq => ?_, by simpa using R.len, fun j r ej => ?_, fun j l as bs ej el ne => ?_⟩
  · rw [upd_ne (ne0 a o q)]; exact R.gd.ext a o q n
  · unfold upd; split
    · simp
    · exact R.gd.old a q
  · rw [upd_ne (ne_of_none q hF)]; exact R.gd.sub a o q
  · obtain ⟨w1, w2, w3⟩ := R.well q hq
    refine ⟨?_, w2, w3⟩
    rw [upd_ne]
    · exact w1
    · intro z; subst z; exact w2 h0
  · rcases getElem?_set_cases ej with ⟨rfl, e2, hi⟩ | ⟨ne, e2⟩
    · cases e2
      exact ⟨_, ev, p, vs, rfl, h0, hF, upd_same, ha⟩
    · obtain ⟨u, e3, h4⟩ := R.slot j r e2
      refine ⟨u, e3, ?_⟩
      cases r with
      | d x => exact h4
      | l as =>
        obtain ⟨p', vs', rfl, g0, gF, g1, g3⟩ := h4
        refine ⟨p', vs', rfl, g0, gF, ?_, g3⟩
        rw [upd_ne]
        · exact g1
        · intro z
          subst z
          have := R.dist j i as xs e2 e ne
          rw [e3, ev] at this
          exact this rfl
      | a as => exact h4
      | p as => exact h4
      | w => exact h4
  · have g : ∀ {m : Nat} {cs : List PyData}, (s.sl.set i (some (.l ys)))[m]? = some (some (.l cs)) → ∃ ds, s.sl[m]? = some (some (.l ds)) := fun {m cs} h => by
      rcases getElem?_set_cases h with ⟨rfl, _, _⟩ | ⟨_, h⟩
      · exact ⟨_, e⟩
      · exact ⟨_, h⟩
    obtain ⟨as', ej'⟩ := g ej
    obtain ⟨bs', el'⟩ := g el
    exact R.dist j l as' bs' ej' el' ne
/-- own list in slot i -/
def own (s : S) (i : Nat) (k : List PyData → Prop) : Prop := match s.sl[i]? with
  | some (some (.l xs)) => k xs
  | _ => False
theorem own_of {s : S} {i : Nat} {k : List PyData → Prop} (h : own s i k) : ∃ xs, s.sl[i]? = some (some (.l xs)) ∧ k xs := by
  unfold own at h
  split at h
  · rename_i xs e
    exact ⟨xs, e, h⟩
  · exact h.elim
def dAppend (i : Nat) (t : TD) : TSD := fun D s => own s i fun xs => xs.length < 16000000 ∧ t s fun r w => kp r fun y => D.nx ⟨s.sl.set i (some (.l (xs ++ [y]))), w⟩
theorem ds_append {i : Nat} {te : TE} {t : TD} (h : DE A te t) : DS A (tDrop (tBM A.K "list" rAppend (tVar i) (tCons te tNil))) (dAppend i t) := by
  refine ⟨fun σ H F s D D' R q k => ?_⟩
  obtain ⟨xs, e, hz, q⟩ := own_of q
  obtain ⟨v, ev, p, vs, rfl, h0, hF, h1, h3⟩ := R.slot i _ e
  refine ⟨_, ev, .inl ⟨rfl, vs, SqL.of h1⟩, ?_⟩
  refine h.run σ H F s _ _ R q fun v H1 F1 r w1 f1 W1 v1 q1 => ?_
  unfold kp at q1
  split at q1
  · rename_i y ey
    obtain ⟨F2, f2, _, a2⟩ := v1.keep f1 ey
    have R2 := R.fw f2 W1
    obtain ⟨v', ev', p', vs', e', g0, gF, g1, g3⟩ := R2.slot i _ e
    rw [ev] at ev'
    cases ev'
    cases e'
    refine ⟨p, vs', v, rfl, rfl, g1, ?_, ?_⟩
    · rw [dpa_len g3, sizeLine_eq]; omega
    · exact k.nx σ _ F2 _ f2.sub (R2.chg e ev g0 gF (dpa_append g3 (.cons a2 .nil))) q1
  · exact q1.elim
def dPop (i : Nat) : TSD := fun D s => own s i fun xs => xs ≠ [] ∧ D.nx ⟨s.sl.set i (some (.l xs.dropLast)), s.w⟩
theorem dpa_dropLast {F : Hp} {xs : List PyData} {vs : List V} (h : DpAll A.K F vs xs) : DpAll A.K F vs.dropLast xs.dropLast := by
  rw [List.dropLast_eq_take, List.dropLast_eq_take, dpa_len h]
  exact dpa_take _ h
theorem ds_pop {i : Nat} : DS A (tDrop (tBM0 A.K "list" rPop (tVar i))) (dPop i) := by
  refine ⟨fun σ H F s D D' R q k => ?_⟩
  obtain ⟨xs, e, hz, q⟩ := own_of q
  obtain ⟨v, ev, p, vs, rfl, h0, hF, h1, h3⟩ := R.slot i _ e
  refine ⟨_, ev, .inl ⟨rfl, vs, SqL.of h1⟩, ?_⟩
  have hl : vs.length - 1 < vs.length := by
    rw [dpa_len h3]
    cases xs with
    | nil => exact absurd rfl hz
    | cons x r => simp
  exact ⟨p, vs, _, rfl, rfl, h1, List.getElem?_eq_getElem hl, k.nx σ _ F _ (Same.refl _) (R.chg e ev h0 hF (dpa_dropLast h3)) q⟩
def dSetIx (j : Nat) (ti te : TD) : TSD := fun D s => te s fun r w => kp r fun y => own s j fun xs => ti (s.wl w) fun r2 w2 => asInt r2 fun m => match ixN xs.length m with
  | some n => D.nx ⟨s.sl.set j (some (.l (xs.set n y))), w2⟩
  | none => False
theorem ds_setIx {j : Nat} {ti te : TE} {i t : TD} (hi : DE A ti i) (h : DE A te t) : DS A (tAsg te (gSub (tVar j) ti rSetL)) (dSetIx j i t) := by
  refine ⟨fun σ H F s D D' R q k => ?_⟩
  refine h.run σ H F s _ _ R q fun v H1 F1 r w1 f1 W1 v1 q1 => ?_
  unfold kp at q1
  split at q1
  · rename_i y ey
    obtain ⟨F2, f2, _, a2⟩ := v1.keep f1 ey
    have R2 := R.fw f2 W1
    obtain ⟨xs, e, q1⟩ := own_of q1
    obtain ⟨o, ev, _⟩ := R.slot j _ e
    refine ⟨o, ev, ?_⟩
    refine hi.run σ H1 F2 _ _ _ R2 q1 fun u H3 F3 r3 w3 f3 W3 v3 q3 => ?_
    have R3 := R2.fw f3 W3
    obtain ⟨m, rfl, q4⟩ := asInt_of q3
    clear q3
    obtain ⟨o', ev', p, vs, rfl, h0, hF, h1, h3⟩ := R3.slot j _ e
    rw [ev] at ev'
    cases ev'
    cases v3
    split at q4
    · rename_i n en
      refine ⟨p, vs, m, n, rfl, rfl, h1, by rw [dpa_len h3]; exact en, ?_⟩
      exact k.nx σ _ F3 _ (f2.sub.trans f3.sub) (R3.chg e ev h0 hF (dpa_set (dp_mono f3.sub _ _ a2) n h3)) q4
    · exact q4.elim
  · exact q1.elim
/-! ### the well -/
def wget (w : W3) : Int → Option Int
  | 0 => some w.1
  | 1 => some w.2.1
  | 2 => some w.2.2
  | _ => none
def wput (w : W3) (c : Int) (v : Int) : Option W3 := match c with
  | 0 => some (v, w.2.1, w.2.2)
  | 1 => some (w.1, v, w.2.2)
  | 2 => some (w.1, w.2.1, v)
  | _ => none
def isW (s : S) (i : Nat) (k : Prop) : Prop := match s.sl[i]? with
  | some (some .w) => k
  | _ => False
theorem isW_of {s : S} {i : Nat} {k : Prop} (h : isW s i k) : s.sl[i]? = some (some .w) ∧ k := by
  unfold isW at h
  split at h
  · rename_i e
    exact ⟨e, h⟩
  · exact h.elim
def dWix (i : Nat) (c : Int) : TD := fun s Q => isW s i (match wget s.w c with
  | some v => Q (.d (.int v)) s.w
  | none => False)
theorem wget_at {w : W3} {c v : Int} (h : wget w c = some v) : atI ([.int w.1, .int w.2.1, .int w.2.2] : List V) c = some (.int v) := by
  unfold wget at h
  split at h <;> cases h <;> rfl
theorem de_wix {i : Nat} {c : Int} : DE A (tOp (rIx A.K) (tVar i) (tC (.int c))) (dWix i c) := by
  refine ⟨fun σ H F s Q Q' R q k => ?_⟩
  obtain ⟨e, q⟩ := isW_of q
  obtain ⟨v, ev, p, rfl, hp⟩ := R.slot i _ e
  split at q
  · rename_i u eu
    obtain ⟨w1, _, _⟩ := R.well p hp
    exact ⟨_, ev, .inl ⟨p, _, c, .int u, rfl, rfl, SqL.of w1, wget_at eu, k _ H F (.d (.int u)) s.w (Fw.refl R.gd.sub) R.well (Dp.int u) q⟩⟩
  · exact q.elim
/-- the well is changed -/
theorem Rel.wchg {σ : L2.St} {H F : Hp} {s : S} {p : Addr} {w : W3} (R : Rel A σ H F s) (hp : A.pw = some p) : Rel A σ (upd H p (.lst [.int w.1, .int w.2.1, .int w.2.2])) F ⟨s.sl, w⟩ := by
  obtain ⟨w1, w2, w3⟩ := R.well p hp
  have hF := R.gd.pwF (s := s) R.well hp
  refine ⟨⟨fun a o q n => ?_, fun a q => ?_, fun a o q => ?_, R.gd.sub0, R.gd.new⟩, fun q hq => ?_, R.len, fun j r ej => ?_, R.dist⟩
  · rw [upd_ne (fun z => n (by rw [z]; exact hp))]; exact R.gd.ext a o q n
  · unfold upd; split
    · simp
    · exact R.gd.old a q
  · rw [upd_ne (ne_of_none q hF)]; exact R.gd.sub a o q
  · rw [hp] at hq
    cases hq
    exact ⟨upd_same, w2, w3⟩
  · obtain ⟨u, e3, h4⟩ := R.slot j r ej
    refine ⟨u, e3, ?_⟩
    cases r with
    | d x => exact h4
    | l as =>
      obtain ⟨p', vs', rfl, g0, gF, g1, g3⟩ := h4
      refine ⟨p', vs', rfl, g0, gF, ?_, g3⟩
      rw [upd_ne]
      · exact g1
      · intro z; subst z; exact w2 g0
    | a as => exact h4
    | p as => exact h4
    | w => exact h4
theorem wput_set {w w' : W3} {c v : Int} (h : wput w c v = some w') : ∃ n, ixN 3 c = some n ∧ ([.int w.1, .int w.2.1, .int w.2.2] : List V).set n (.int v) = [.int w'.1, .int w'.2.1, .int w'.2.2] := by
  unfold wput at h
  split at h <;> cases h
  · exact ⟨0, rfl, rfl⟩
  · exact ⟨1, rfl, rfl⟩
  · exact ⟨2, rfl, rfl⟩
/-- well[c] = e -/
def dWset (i : Nat) (c : Int) (t : TD) : TSD := fun D s => isW s i (t s fun r w => asInt r fun v => match wput w c v with
  | some w' => D.nx ⟨s.sl, w'⟩
  | none => False)
theorem ds_wset {i : Nat} {c : Int} {te : TE} {t : TD} (h : DE A te t) : DS A (tAsg te (gSub (tVar i) (tC (.int c)) rSetL)) (dWset i c t) := by
  refine ⟨fun σ H F s D D' R q k => ?_⟩
  obtain ⟨e, q⟩ := isW_of q
  obtain ⟨v, ev, p, rfl, hp⟩ := R.slot i _ e
  refine h.run σ H F s _ _ R q fun v H1 F1 r w1 f1 W1 v1 q1 => ?_
  obtain ⟨u, rfl, q2⟩ := asInt_of q1
  cases v1
  split at q2
  · rename_i w' ew
    obtain ⟨n, hn, hs⟩ := wput_set ew
    obtain ⟨h1, _, _⟩ := W1 p hp
    refine ⟨_, ev, p, _, c, n, rfl, rfl, h1, hn, ?_⟩
    rw [hs]
    exact k.nx σ _ F1 _ f1.sub ((R.fw f1 W1).wchg hp) q2
  · exact q2.elim
/-- well[c], name = e -/
def dWset2 (i : Nat) (c : Int) (j : Nat) (t : TD) : TSD := fun D s => isW s i (t s fun r w => match r with
  | .d (.tuple [.int v, y]) => (match wput w c v with
    | some w' => D.nx ⟨s.sl.set j (some (.d y)), w'⟩
    | none => False)
  | _ => False)
theorem ds_wset2 {i j : Nat} {c : Int} {te : TE} {t : TD} (h : DE A te t) (hij : i ≠ j := by decide) : DS A (tAsg te (gTup A.K 2 (gCons (gSub (tVar i) (tC (.int c)) rSetL) (gCons (gName j) gNil)))) (dWset2 i c j t) := by
  refine ⟨fun σ H F s D D' R q k => ?_⟩
  obtain ⟨e, q⟩ := isW_of q
  obtain ⟨v, ev, p, rfl, hp⟩ := R.slot i _ e
  refine h.run σ H F s _ _ R q fun v H1 F1 r w1 f1 W1 v1 q1 => ?_
  split at q1
  · rename_i a y
    cases v1 with
    | @tup b vs _ hq ha =>
      cases ha with
      | cons d1 d2 =>
        cases d1
        cases d2 with
        | @cons vy _ _ _ d2 d3 =>
          cases d3
          split at q1
          · rename_i w' ew
            obtain ⟨n, hn, hs⟩ := wput_set ew
            obtain ⟨h1, _, _⟩ := W1 p hp
            have hq' : SqT A.K H1 b [.int a, vy] := by
              rcases hq with (h | ⟨o, h⟩) | h
              · exact .inl (.inl (f1.sub' _ _ h))
              · exact .inl (.inr ⟨o, f1.sub' _ _ h⟩)
              · exact .inr h
            refine ⟨b, _, rfl, hq', rfl, _, _, rfl, ?_⟩
            refine ⟨_, ev, p, _, c, n, rfl, rfl, h1, hn, ?_⟩
            rw [hs]
            refine ⟨vy, [], rfl, rfl, ?_⟩
            have R2 := (R.fw f1 W1).wchg (w := w') hp
            exact k.nx _ _ F1 _ f1.sub (R2.store (i := j) (r := .d y) d2 fun xs e => nomatch e) q1
          · exact q1.elim
  · exact q1.elim
def fDivmod : List Rv → (Rv → Prop) → Prop
  | [.d (.int i), .d (.int j)], Q => CDivP i j ∧ Q (.d (.tuple [.int (i / j), .int (i % j)]))
  | _, _ => False
theorem cb_divmod : CbD A (fun xs H Q => ∃ i j : Int, xs = [V.int i, V.int j] ∧ CDivP i j ∧ ∀ p, H p = none → Q (.ref p) (upd H p (.tup [.int (i / j), .int (i % j)]))) fDivmod := by
  refine ⟨fun σ H F s xs rs Q Q' R as h k => ?_⟩
  unfold fDivmod at h
  split at h
  · obtain ⟨v, u, rfl, a1, a2⟩ := as.two
    cases a1
    cases a2
    refine ⟨_, _, rfl, h.1, fun p hp => ?_⟩
    have hF := none_of_same R.gd.sub hp
    exact k _ _ _ (.d (.tuple _)) (fw_froz R.gd.sub hp) (well_new R.well hp) (.tup (.inl (.inl upd_same)) (.cons (Dp.int _) (.cons (Dp.int _) .nil))) h.2
  · exact h.elim
/-! ### lists: +, * -/
def trkOf : Rv → Option (List PyData)
  | .l xs => some xs
  | .a xs => some xs
  | .p xs => some xs
  | _ => none
theorem trk_val {H F : Hp} {v : V} {r : Rv} {xs : List PyData} (h : ValR A H F v r) (e : trkOf r = some xs) : ∃ p vs, v = .ref p ∧ H p = some (.lst vs) ∧ DpAll A.K F vs xs := by
  cases r with
  | l ys => cases e; obtain ⟨p, vs, rfl, h1, _, h3⟩ := h; exact ⟨p, vs, rfl, h1, h3⟩
  | a ys => cases e; obtain ⟨p, vs, rfl, h1, _, h3⟩ := h; exact ⟨p, vs, rfl, h1, h3⟩
  | p ys => cases e; obtain ⟨p, vs, rfl, h1, _, h3⟩ := h; exact ⟨p, vs, rfl, h1, h3⟩
  | d x => cases e
  | w => cases e
def fCat : Rv → Rv → (Rv → Prop) → Prop := fun x y Q => match trkOf x, trkOf y with
  | some xs, some ys => xs.length + ys.length ≤ 16000000 ∧ Q (.l (xs ++ ys))
  | _, _ => False
theorem od_cat : OpD A rCat fCat := by
  refine ⟨fun σ H F s x y rx ry Q Q' R hx hy h k => ?_⟩
  unfold fCat at h
  split at h
  · rename_i xs ys ex ey
    obtain ⟨p, vs, rfl, h1, h2⟩ := trk_val hx ex
    obtain ⟨q, us, rfl, g1, g2⟩ := trk_val hy ey
    refine ⟨p, q, vs, us, rfl, rfl, h1, g1, by rw [dpa_len h2, dpa_len g2, sizeLine_eq]; omega, fun d hd => ?_⟩
    exact k _ _ F (.l _) (fw_new R.gd.sub hd) (well_new R.well hd) ⟨d, _, rfl, hd, none_of_same R.gd.sub hd, upd_same, dpa_append h2 g2⟩ h.2
  · exact h.elim
def repD (xs : List PyData) (n : Nat) : List PyData := (List.replicate n xs).flatten
theorem dpa_rep {F : Hp} {xs : List PyData} {vs : List V} (h : DpAll A.K F vs xs) : ∀ n, DpAll A.K F (List.replicate n vs).flatten (repD xs n)
  | 0 => .nil
  | n + 1 => by
    unfold repD
    rw [List.replicate_succ, List.replicate_succ, List.flatten_cons, List.flatten_cons]
    exact dpa_append h (dpa_rep h n)
def fRep : Rv → Rv → (Rv → Prop) → Prop := fun x y Q => match trkOf x with
  | some xs => asInt y fun k => (cnt k ∧ xs.length * k.toNat ≤ 16000000) ∧ Q (.l (repD xs k.toNat))
  | none => False
theorem od_rep : OpD A rRep fRep := by
  refine ⟨fun σ H F s x y rx ry Q Q' R hx hy h k => ?_⟩
  unfold fRep at h
  split at h
  · rename_i xs ex
    obtain ⟨p, vs, rfl, h1, h2⟩ := trk_val hx ex
    obtain ⟨n, rfl, ⟨⟨c1, c2⟩, c3⟩, h5⟩ := asInt_of h
    cases hy
    refine ⟨p, n, vs, rfl, rfl, h1, by omega, by omega, by rw [dpa_len h2, sizeLine_eq]; omega, fun d hd => ?_⟩
    exact k _ _ F (.l _) (fw_new R.gd.sub hd) (well_new R.well hd) ⟨d, _, rfl, hd, none_of_same R.gd.sub hd, upd_same, dpa_rep h2 _⟩ h5
  · exact h.elim
/-! ### a def's body -/
def initS (n : Nat) (rs : List Rv) : List (Option Rv) := rs.map some ++ List.replicate (n - rs.length) none
theorem ArgsR.get {H F : Hp} {vs : List V} {rs : List Rv} (h : ArgsR A H F vs rs) : ∀ {i : Nat} {r : Rv}, rs[i]? = some r → ∃ v, vs[i]? = some v ∧ ArgR A H F v r := by
  induction h with
  | nil => intro i r e; simp at e
  | cons h _ ih =>
    intro i r e
    cases i with
    | zero => simp at e; subst e; exact ⟨_, rfl, h⟩
    | succ i =>
      obtain ⟨v, e1, h1⟩ := ih (i := i) (r := r) (by simpa using e)
      exact ⟨v, by simpa using e1, h1⟩
theorem initS_get {n i : Nat} {rs : List Rv} {r : Rv} (h : (initS n rs)[i]? = some (some r)) : rs[i]? = some r := by
  unfold initS at h
  by_cases hi : i < rs.length
  · rw [List.getElem?_append_left (by simpa using hi), List.getElem?_map] at h
    cases e : rs[i]? with
    | none => rw [e] at h; cases h
    | some q => rw [e] at h; cases h; rfl
  · rw [List.getElem?_append_right (by simpa using hi), List.getElem?_replicate] at h
    split at h <;> cases h
theorem start_get {N : List Str} {vs : List V} {i : Nat} {v : V} (h : vs[i]? = some v) : (L2.start N vs)[i]? = some (some v) := by
  unfold L2.start
  have hi : i < vs.length := (List.getElem?_eq_some_iff.mp h).1
  rw [List.getElem?_append_left (by simpa using hi), List.getElem?_map, h]
  rfl
theorem dfn_run {K : PySem.W.Frag} {n : Nat} {Sp : FSpec} {ts : TS} {t : TSD} {N : List Str} (hd : ∀ A : Am, A.K = K → DS A ts t)
    (hp : ∀ rs w k, rs.length = n → Sp rs w k → t { nx := fun s => k (.d .none) s.w, rt := k } ⟨initS N.length rs, w⟩) (vs : List V) (H : Hp) (Q : VK) (E : XK) (h : spD K n Sp vs H Q E) : ts { nx := fun _ H' => Q .non H', rt := Q } (L2.start N vs) H := by
  obtain ⟨hl, F, pw, w, rs, k, hs, hw, as, hq, fin⟩ := h
  have hr : rs.length = n := by rw [← as.len]; exact hl
  have g0 : Gd ⟨K, H, F, pw⟩ H F := ⟨fun _ _ e _ => e, fun _ e => e, hs, Same.refl _, fun _ e => .inl e⟩
  have W0 : WellR ⟨K, H, F, pw⟩ H w := fun p hp' => by
    obtain ⟨h1, h2⟩ := hw p hp'
    exact ⟨h1, by show H p ≠ none; rw [h1]; simp, h2⟩
  have R : Rel ⟨K, H, F, pw⟩ (L2.start N vs) H F ⟨initS N.length rs, w⟩ := by
    refine ⟨g0, W0, ?_, fun i r e => ?_, fun i j xs ys e => ?_⟩
    · unfold L2.start initS
      simp [as.len]
    · obtain ⟨v, e1, h1⟩ := as.get (initS_get e)
      refine ⟨v, start_get e1, ?_⟩
      cases r with
      | d x => exact h1
      | l xs => exact h1.elim
      | a xs => exact h1
      | p xs => exact h1.elim
      | w => exact h1
    · obtain ⟨v, e1, h1⟩ := as.get (initS_get e)
      exact h1.elim
  refine (hd ⟨K, H, F, pw⟩ rfl).run _ H F _ _ _ R (hp rs w k hr hq) ⟨fun σ H' F' s _ R' q => ?_, fun σ H' F' s _ R' q => q.elim, fun σ H' F' s _ R' q => q.elim, fun v H' F' r w' g' W' r' q => fin v H' F' r w' g' W' r' q⟩
  exact fin .non H' F' (.d .none) s.w R'.gd R'.well .non q
end
end DL
/-! DL8: rules that the layer below lacks: t[::-1] and enumerate(t) of a tuple. -/
namespace DL
open PySem PySem.Spec PyProof.Rows L2
section
variable {prog : Program} {w : World} {A : Around} {E : Value → Shared → Prop} {s : Shared}
/-! ### t[::-1] -/
theorem rv_applied {sl : Addr} {k : Tok} {n : Nat} {Q : Int × Int × Nat → Shared → Prop} (hs : s.heap.IsSliceOf sl .none .none (.int (-1) k))
    (h : Q ((n : Int) - 1, -1, n) s) : wpAny (model prog w) A (Builtin.Slice.sliceApplied (.ref sl) (pure (n : Int))) Q E s := by
  obtain ⟨ob, hob, _, hfs⟩ := id hs
  unfold Builtin.Slice.sliceApplied Builtin.Slice.sliceFields
  refine wpAny_bind (wpAny_bind (wpAny_field hob hfs (x := .none) rfl (wpAny_bind (wpAny_field hob hfs (x := .none) rfl
    (wpAny_bind (wpAny_field hob hfs (x := .int (-1) k) rfl (wpAny_pure ?_)))))))
  refine wpAny_bind (HT.slicePart_ (IsPart.int (-1) k) ?_)
  show wpAny _ _ (if ((-1 : Int) == 0) = true then _ else _) _ _ s
  rw [if_neg (show ¬ ((-1 : Int) == 0) = true by decide)]
  refine wpAny_bind (HT.slicePart_ IsPart.none (wpAny_bind (HT.slicePart_ IsPart.none (wpAny_bind (wpAny_pure ?_)))))
  have e : Builtin.Slice.slicePlaces ((n : Int) - 1) (-1) (-1) = n := by
    unfold Builtin.Slice.slicePlaces
    simp
    try omega
  have e2 : Builtin.Slice.sliceAdjust none none (-1) (n : Int) = ((n : Int) - 1, -1) := by
    unfold Builtin.Slice.sliceAdjust
    simp
  show wpAny _ _ (match Builtin.Slice.sliceAdjust none none (-1) (n : Int) with | (lo, hi) => pure (lo, (-1 : Int), Builtin.Slice.slicePlaces lo hi (-1))) _ _ s
  rw [e2]
  show wpAny _ _ (pure ((n : Int) - 1, (-1 : Int), Builtin.Slice.slicePlaces ((n : Int) - 1) (-1) (-1))) _ _ s
  rw [e]
  exact wpAny_pure h
theorem rv_pick (xs : List Value) : ((List.range xs.length).filterMap fun (m : Nat) => xs.toArray[((xs.length : Int) - 1 + (m : Int) * (-1)).toNat]?) = xs.reverse := by
  have e : ∀ m ∈ List.range xs.length, (fun (m : Nat) => xs.toArray[((xs.length : Int) - 1 + (m : Int) * (-1)).toNat]?) m = xs.reverse[m]? := fun m hm => by
    have hm' := List.mem_range.mp hm
    have e1 : ((xs.length : Int) - 1 + (m : Int) * (-1)).toNat = xs.length - 1 - m := by omega
    show xs.toArray[((xs.length : Int) - 1 + (m : Int) * (-1)).toNat]? = _
    rw [e1, List.getElem?_reverse hm']
    simp
  have fc : ∀ (l : List Nat) (f g : Nat → Option Value), (∀ m ∈ l, f m = g m) → l.filterMap f = l.filterMap g := fun l f g h => by
    induction l with
    | nil => rfl
    | cons a r ih =>
      rw [List.filterMap_cons, List.filterMap_cons, h a (by simp), ih fun m hm => h m (by simp [hm])]
  rw [fc _ _ _ e]
  have : ∀ (ys : List Value), ((List.range ys.length).filterMap fun m => ys[m]?) = ys := fun ys => by
    induction ys with
    | nil => rfl
    | cons y r ih =>
      rw [List.length_cons, List.range_succ_eq_map, List.filterMap_cons]
      simp only [List.getElem?_cons_zero, List.filterMap_map]
      congr 1
  have h2 := this xs.reverse
  rw [List.length_reverse] at h2
  exact h2
theorem rv_getItem {t sl : Addr} {k : Tok} {its : List Value} {Q : Value → Shared → Prop} (ht : IsTup s.heap t its.toArray) (hs : s.heap.IsSliceOf sl .none .none (.int (-1) k)) (hz : its.length ≤ sizeLine)
    (h : Q (.ref s.heap.objs.size) { s with heap := s.heap.push { cls := .type "tuple", data := .seq its.reverse.toArray } }) : wpAny (model prog w) A (getItem (.ref t) (.ref sl)) Q E s := by
  obtain ⟨ob, hob, hcb, _⟩ := id hs
  unfold getItem
  try with_reducible refine wpAny_holding ?_
  first | refine wpAny_bind (wpAny_pure ?_) | skip
  refine wpAny_bind (wpAny_sequenceKey ht.typeIs (by decide) ?_)
  refine wpAny_bind (wpAny_callSpecial?_slot (name := Str.ofString "__getitem__") ht.typeIs
    PyProof.Rows.slot_tuple_getitem (wpAny_call_entry PyProof.Rows.slot_tuple_getitem ht.typeIs PyProof.Rows.entry_tuple_getitem ?_ (PyProof.Rows.args_tuple_getitem _ _)))
  show wpAny _ _ (Builtin.Tuple.tupleItemsOf (.ref t) >>= _) _ _ s
  refine wpAny_bind (tupleItemsOf_ ht (wpAny_bind (wpAny_typeOf (show s.TypeIs (.ref sl) "slice" from ⟨ob, hob, hcb⟩) ?_)))
  rw [if_pos (show (Value.type "slice" == Value.type "slice") = true by decide)]
  have ez : its.toArray.size = its.length := by simp
  rw [ez]
  refine wpAny_bind (rv_applied hs ?_)
  show wpAny _ _ (if (((its.length : Int) - 1) == 0 && (-1 : Int) == 1 && its.length == its.length) = true then _ else _) _ _ s
  rw [if_neg (show ¬ (((its.length : Int) - 1) == 0 && (-1 : Int) == 1 && its.length == its.length) = true by simp), rv_pick]
  have ok : sizeOk (.seq its.reverse.toArray) := by
    show its.reverse.toArray.size ≤ sizeLine
    rw [List.size_toArray, List.length_reverse]
    exact hz
  first
    | exact wpAny_bind (m := Builtin.Tuple.tupleExact _) (wpAny_newObj_type (wpAny_pure ⟨_, rfl, wpAny_pure h⟩) ok)
    | exact wpAny_bind (m := Builtin.Tuple.tupleExact _) (wpAny_newObj_type (wpAny_bind (wpAny_pure (wpAny_pure ⟨_, rfl, wpAny_pure h⟩))) ok)
    | exact wpAny_bind (wpAny_bind (m := Builtin.Tuple.tupleExact _) (wpAny_newObj_type (wpAny_pure (wpAny_pure ⟨_, rfl, wpAny_pure h⟩)) ok))
    | exact wpAny_bind (wpAny_bind (m := Builtin.Tuple.tupleExact _) (wpAny_newObj_type (wpAny_pure ⟨_, rfl, wpAny_pure h⟩) ok))
end
section
variable {X : Cx}
def tRevT (K : PySem.W.Frag) (te : TE) : TE := fun σ H Q => te σ H fun x H1 => ∃ a xs, x = .ref a ∧ SqT K H1 a xs ∧ ∀ p, H1 p = none → Q (.ref p) (upd H1 p (.tup xs.reverse))
theorem pe_revT {e : Expr} {te : TE} {k : Nat} {p1 p2 p3 pos : Pos} (he : PE X e te) :
    PE X (.Subscript e (.Slice none none (some (.UnaryOp .USub (.Constant (.int 1) k p1) p2)) p3) pos) (tRevT X.K te) := by
  refine ⟨fun pn s σ H Q J h => ?_⟩
  refine Subscript_ (thn (he.run pn s σ H _ J h) fun v s1 hv => ?_)
  obtain ⟨x, H1, J1, r1, a, xs, rfl, hx, q⟩ := hv
  cases r1
  have part : PO X (some (.UnaryOp .USub (.Constant (.int 1) k p1) p2)) (tPart (tUn (rU fun i => .int (-i)) (tC (.int 1)))) := po_some (pe_un un_neg pe_int)
  refine wpAny_Slice (thn (po_none.run pn s1 σ H1 (fun o G => o = none ∧ G = H1) J1 ⟨rfl, rfl⟩) fun vl s2 h2 => ?_)
  obtain ⟨l, G2, J2, pl, rfl, rfl⟩ := h2
  refine thn (po_none.run pn s2 σ G2 (fun o G => o = none ∧ G = G2) J2 ⟨rfl, rfl⟩) fun vu s3 h3 => ?_
  obtain ⟨u, G3, J3, pu, rfl, rfl⟩ := h3
  refine thn (part.run pn s3 σ G3 (fun o G => o = some (-1) ∧ G = G3) J3 ⟨1, rfl, -1, rfl, rfl, rfl⟩) fun vs s4 h4 => ?_
  obtain ⟨o, G4, J4, ps, rfl, rfl⟩ := h4
  have J5 : Inv X pn σ G4 { s4 with heap := s4.heap.push { cls := .type "slice", data := .fields #[vl, vu, vs] } } := J4.kept (t' := s4.toks) fun b ob z => Heap.get?_push_of_some _ z
  obtain ⟨its, r, ht, hz⟩ := J5.tuple hx
  cases pl
  cases pu
  cases ps
  rename_i tk
  show wpAny (model X.prog X.w) X.A (subscriptTail e (.Slice none none (some (.UnaryOp .USub (.Constant (.int 1) k p1) p2)) p3) (.ref a) (.ref s4.heap.objs.size))
    (EP X pn σ Q) X.xe { s4 with heap := s4.heap.push { cls := .type "slice", data := .fields #[.none, .none, .int (-1) tk] } }
  refine tail_any (ops := [.ref a, .ref s4.heap.objs.size]) ht.typeIs (PyProof.Rows.slot_tuple_getitem.lookup) ?_ (by with_unfolding_all rfl)
  refine rv_getItem ht (Heap.IsSliceOf.new _ .none .none (.int (-1) tk)) (by rw [← r.length]; exact hz) ?_
  have z0 : G4 (s4.heap.push { cls := .type "slice", data := .fields #[.none, .none, .int (-1) tk] }).objs.size = none := J5.hok.fresh (Nat.le_refl _)
  refine ⟨.ref _, _, J5.laid (t' := s4.toks) (o := .tup xs.reverse) (fun b ob z => Heap.get?_push_of_some _ z) (Nat.le_refl _) ?_, rfl, q _ z0⟩
  exact ⟨by rw [List.length_reverse]; exact hz, _, r.reverse, IsTup.new _ _⟩
end
/-- x[::-1] of a tuple -/
def dRevT (te : TD) : TD := fun s Q => te s fun x w => match x with
  | .d (.tuple xs) => Q (.d (.tuple xs.reverse)) w
  | _ => False
theorem de_revT {A : Am} {te : TE} {t : TD} (h : DE A te t) : DE A (tRevT A.K te) (dRevT t) := by
  refine ⟨fun σ H F s Q Q' R q k => ?_⟩
  refine h.run σ H F s _ _ R q fun x H1 F1 r w1 f1 W1 v1 q1 => ?_
  split at q1
  · rename_i xs
    cases v1 with
    | @tup a vs _ hq ha =>
      have hq' : SqT A.K H1 a vs := by
        rcases hq with (h | ⟨o, h⟩) | h
        · exact .inl (.inl (f1.sub' _ _ h))
        · exact .inl (.inr ⟨o, f1.sub' _ _ h⟩)
        · exact .inr h
      refine ⟨a, vs, rfl, hq', fun p hp => ?_⟩
      have hF := none_of_same f1.sub' hp
      exact k (.ref p) _ (upd F1 p _) (.d (.tuple _)) w1 (f1.trans (fw_froz f1.sub' hp)) (well_new W1 hp) (Dp.tup (.inl (.inl upd_same)) (dpa_mono (same_upd hF) _ _ (dpa_reverse ha))) q1
  · exact q1.elim
end DL
/-! DL9: enumerate(t) of a tuple. -/
namespace DL
open PySem PySem.Spec PyProof.Rows L2
abbrev enT (t : Addr) : Obj := { cls := .type "tuple_iterator", data := .fields #[.ref t, .int 0 0] }
abbrev enO (i : Addr) : Obj := { cls := .type "enumerate", data := .fields #[.none, .bool false, .ref i, rawInt 0, .none, .none] }
theorem en_meets (t : Addr) (its : Array Value) : Meets (Builtin.«enumerate.__new__» ⟨[.type "enumerate", .ref t], []⟩)
    (fun _ R s => s.heap.IsTuple t its ∧ R (.ok (.ret (.ref (s.heap.push (enT t)).objs.size))) { s with heap := (s.heap.push (enT t)).push (enO s.heap.objs.size) }) :=
  .of_wp fun prog w A R s h => by
    obtain ⟨hp, g, d, tk, os⟩ := s
    obtain ⟨hT, h⟩ := h
    have hsub := sub_enumerate
    wp_walk
    refine wpAny_stack_any fun st => wpAny_pure ?_
    split
    · rename_i c _ _ _ _ _
      cases (c == Value.type "enumerate")
      · wp_walk using wpAny_pyIter_tuple hT
        exact ⟨_, rfl, h⟩
      · wp_walk using wpAny_pyIter_tuple hT
        exact ⟨_, rfl, h⟩
    · wp_walk using wpAny_pyIter_tuple hT
      exact ⟨_, rfl, h⟩
section
variable {prog : Program} {w : World} {A : Around} {E : Value → Shared → Prop} {s : Shared}
theorem en_call {t : Addr} {its : Array Value} {Q : Value → Shared → Prop} (hT : s.heap.IsTuple t its)
    (h : ∀ h', IsEnum h' (s.heap.objs.size + 1) s.heap.objs.size 0 .none → h'.IsTupleIter s.heap.objs.size t 0 → (∀ b o, s.heap.get? b = some o → h'.get? b = some o) → Q (.ref (s.heap.objs.size + 1)) { s with heap := h' }) :
    wpAny (model prog w) A (call (.type "enumerate") [.ref t]) Q E s := by
  refine callType_new F.called_enumerate (by decide) (F.typeCall_enumerate_1 _) (F.newCall_enumerate_1 _) (fun obj => F.args_object_init_2 obj _) F.entry_enumerate_new (en_meets t its) ⟨hT, ?_⟩
  have z1 : (s.heap.push (enT t)).objs.size = s.heap.objs.size + 1 := Heap.size_push ..
  have he : IsEnum ((s.heap.push (enT t)).push (enO s.heap.objs.size)) (s.heap.objs.size + 1) s.heap.objs.size 0 .none := by
    have := Heap.get?_push_size (s.heap.push (enT t)) (o := enO s.heap.objs.size) rfl
    rw [z1] at this
    exact this
  have hi : ((s.heap.push (enT t)).push (enO s.heap.objs.size)).IsTupleIter s.heap.objs.size t 0 :=
    ⟨_, Heap.get?_push_of_some _ (Heap.get?_push_size _ rfl), rfl, rfl⟩
  have hk : ∀ b o, s.heap.get? b = some o → ((s.heap.push (enT t)).push (enO s.heap.objs.size)).get? b = some o := fun b o e => Heap.get?_push_of_some _ (Heap.get?_push_of_some _ e)
  show _ ∧ _
  rw [z1]
  exact ⟨⟨_, he, rfl⟩, h _ he hi hk⟩
end
/-- the tuple at a, each item in a new pair -/
def IteT (K : PySem.W.Frag) (a : Addr) (xs : List V) : It :=
  ⟨fun i H => SqT K H a xs ∧ ∃ x : V, xs[i]? = some x,
   fun i H v H' => ∃ T x, v = .ref T ∧ H T = none ∧ H' = upd H T (.tup [.int (i : Nat), x]) ∧ xs[i]? = some x,
   fun i H => SqT K H a xs ∧ xs.length ≤ i⟩
theorem turn_enumT {P : Program} {w : World} {K : PySem.W.Frag} {elts : List Expr} {kk : Nat} {tpos : Pos} (a e it : Addr) (xs : List V) (hia : it ≠ a) (hea : e ≠ a) :
    Turn P w K (.Tuple elts kk tpos) (IteT K a xs) [e, it] e (fun i h => (∃ old, IsEnum h e it ((i : Nat) : Int) old) ∧ h.IsTupleIter it a i ∧ e ≠ it ∧ i ≤ xs.length) where
  mem := List.mem_cons_self
  obj := fun i h st b hb => by
    obtain ⟨⟨old, he⟩, ⟨o, ho, _, hd⟩, _⟩ := st
    rcases List.mem_cons.mp hb with rfl | hb
    · exact ⟨_, he, fun v q => nomatch q⟩
    · rw [List.mem_singleton.mp hb]
      exact ⟨o, ho, fun v q => by rw [hd] at q; cases q⟩
  keep := fun i h h' st k => ⟨st.1.elim fun old he => ⟨old, k e List.mem_cons_self _ he⟩, st.2.1.at fun o q => k it (by simp) o q, st.2.2⟩
  item := by
    intro X hP hw hK hc i pn s σ H E J hf st hg
    subst hP hw hK
    obtain ⟨⟨old, he⟩, hit, hne, _⟩ := st
    obtain ⟨hq, x, hx⟩ := hg
    obtain ⟨its, rv, p, _⟩ := J.tuple hq
    obtain ⟨u, hu, ru⟩ := rv.get hx
    have hT : s.heap.IsTuple a its.toArray := p
    have le : e < s.heap.objs.size := Heap.lt_size he
    have li : it < s.heap.objs.size := by
      obtain ⟨_, q, _⟩ := hit
      exact Heap.lt_size q
    have la : a < s.heap.objs.size := p.lt
    have hn : i < its.toArray.size := by
      have := (List.getElem?_eq_some_iff.mp hu).1
      simpa using this
    have Dr := Draws.tuple (prog := X.prog) (w := X.w) (A := X.A.in1) (by show X.A.handled = none; exact J.ok.hd hc) it a (Ne.symm hia) its.toArray
    refine wpAny_pyNext_enum_itemD Dr he ⟨hit, hT⟩ hn hne (by simp [hne, hea]) fun y h' tk hy he' st' hT' _ hk => ?_
    have ey : y = u := by
      have h1 : its.toArray[i]? = some u := by simpa using hu
      rw [h1] at hy
      exact (Option.some.inj hy).symm
    subst ey
    refine ⟨_, rfl, wpAny_letOwnedTupleGo_enum (s := { s with heap := h', toks := tk + 1 }) he' fun h'' he2 sb => ?_⟩
    have hT2 := (sb.2 _ (Nat.ne_of_gt le)).trans hT'
    have new : ObjOk X.prog X.w (upd H s.heap.objs.size (.tup [.int (i : Nat), x])) h'' s.heap.objs.size (.tup [.int (i : Nat), x]) :=
      ⟨by show 2 ≤ sizeLine; decide, [.int i tk, y], .cons ⟨_, rfl⟩ (.cons ru .nil), ⟨_, hT2, rfl, _, rfl⟩⟩
    have keep : ∀ b ob, b ∉ [e, it] → s.heap.get? b = some ob → h''.get? b = some ob := fun b ob hb q => by
      have n1 : b ≠ e := fun z => hb (by simp [z])
      have n2 : b ≠ it := fun z => hb (by simp [z])
      exact (sb.2 b n1).trans (hk b ob n1 n2 q)
    have J1 := J.turnedNew (t' := tk + 1) (ch := [e, it]) keep hf (Nat.le_refl _) new
    refine ⟨.ref s.heap.objs.size, _, J1, rfl, ⟨_, x, rfl, J.hok.fresh (Nat.le_refl _), rfl, hx⟩, ⟨⟨y, ?_⟩, st'.1.at fun o q => (sb.2 it (Ne.symm hne)).trans q, hne, ?_⟩, fun b hb => ?_⟩
    · rw [show ((i + 1 : Nat) : Int) = (i : Int) + 1 by omega]
      exact he2
    · have := (List.getElem?_eq_some_iff.mp hx).1
      omega
    · have lb : b < s.heap.objs.size := by
        rcases List.mem_cons.mp hb with z | z
        · rw [z]; exact le
        · rw [List.mem_singleton.mp z]; exact li
      rw [upd_ne (Nat.ne_of_lt lb)]
      exact (hf b hb).1
  done := by
    intro X hP hw hK hc i pn s σ H E J hf st hg
    subst hP hw hK
    obtain ⟨⟨old, he⟩, hit, hne, hle⟩ := st
    obtain ⟨hq, hx⟩ := hg
    obtain ⟨its, rv, p, _⟩ := J.tuple hq
    have hl := rv.length
    have hT : s.heap.IsTuple a its.toArray := p
    have Dr := Draws.tuple (prog := X.prog) (w := X.w) (A := X.A.in1) (by show X.A.handled = none; exact J.ok.hd hc) it a (Ne.symm hia) its.toArray
    have ei : its.toArray.size = i := by
      have : its.toArray.size = its.length := by simp
      omega
    obtain ⟨f0, f1, f2, f3, f4, f5⟩ := hf it (by simp)
    exact wpAny_pyNext_enum_endD Dr he ⟨by rw [ei]; exact hit, hT⟩ fun h' eb => ⟨rfl, J.turned (t' := s.toks) (fun b o hb e => eb b o hb e) f0 f1 f3 f4 f5⟩
  self := fun A i s Q E st h => st.1.elim fun _ he => wpAny_pyIter_enum he h
def iEnumT (K : PySem.W.Frag) (ta : TA) : TI := fun σ H R => ta σ H fun vs H1 => ∃ a xs, vs = [.ref a] ∧ SqT K H1 a xs ∧ R (IteT K a xs) H1
theorem pi_enumT {X : Cx} {e : Expr} {ta : TA} {p pos tpos : Pos} {elts : List Expr} {kk : Nat} (hg : Gl X "enumerate") (hm : X.mg "enumerate" = none) (ha : PA X [e] ta)
    (hs : starEach [e] X.env = [(false, eval e X.env)] := by rfl) : PI X (.Tuple elts kk tpos) (.Call (.Name "enumerate" p) [e] [] pos) (iEnumT X.K ta) := by
  refine ⟨fun pn s σ H R J h => ?_⟩
  refine Call_ (ld_blt J hg hm PyProof.Rows.boot_enumerate (PyProof.Rows.callWith_type1 (thn (ha.run pos pn s σ H _ J h) fun us s1 hv => ?_) hs rfl))
  obtain ⟨vs, H1, J1, r1, a, xs, rfl, hq, q⟩ := hv
  cases r1 with
  | cons r rr =>
    cases rr
    cases r
    obtain ⟨its, rv, p', _⟩ := J1.tuple hq
    have hT : s1.heap.IsTuple a its.toArray := p'
    refine en_call hT fun h' hE hI hk => wpAny_pyIter_enum hE ?_
    have J2 : Inv X pn σ H1 { s1 with heap := h' } := J1.kept (t' := s1.toks) hk
    have la : a < s1.heap.objs.size := p'.lt
    refine ⟨_, [s1.heap.objs.size + 1, s1.heap.objs.size], _, _, H1, rfl, J2, turn_enumT a (s1.heap.objs.size + 1) s1.heap.objs.size xs (Nat.ne_of_gt la) (Nat.ne_of_gt (Nat.lt_succ_of_lt la)), ⟨⟨.none, hE⟩, hI, Nat.succ_ne_self _, Nat.zero_le _⟩, fun b hb => ?_, q⟩
    have le : s1.heap.objs.size ≤ b := by
      rcases List.mem_cons.mp hb with z | z
      · rw [z]; exact Nat.le_succ _
      · rw [List.mem_singleton.mp z]; exact Nat.le_refl _
    exact J1.fpOk le (J1.hok.fresh le)
/-- numbered pairs -/
def numbered : Nat → List PyData → List PyData
  | _, [] => []
  | n, x :: xs => .tuple [.int n, x] :: numbered (n + 1) xs
theorem numbered_len : ∀ (n : Nat) (xs : List PyData), (numbered n xs).length = xs.length
  | _, [] => rfl
  | n, x :: xs => by simp [numbered, numbered_len]
theorem numbered_get : ∀ {n : Nat} {xs : List PyData} {i : Nat} {z : PyData}, (numbered n xs)[i]? = some z → ∃ x, xs[i]? = some x ∧ z = .tuple [.int ((n + i : Nat) : Int), x]
  | _, [], _, _, h => by simp [numbered] at h
  | n, x :: xs, 0, z, h => by
    simp [numbered] at h
    exact ⟨x, rfl, by simpa using h.symm⟩
  | n, x :: xs, i + 1, z, h => by
    obtain ⟨y, h1, h2⟩ := numbered_get (n := n + 1) (xs := xs) (i := i) (z := z) (by simpa [numbered] using h)
    exact ⟨y, by simpa using h1, by rw [h2]; congr 3; omega⟩
def diEnumT (t : TD) : TDI := fun s Q => t s fun r w => match r with
  | .d (.tuple xs) => Q (numbered 0 xs) w
  | _ => False
theorem di_enumT {A : Am} {te : TE} {t : TD} (h : DE A te t) : DI A (iEnumT A.K (tCons te tNil)) (diEnumT t) := by
  refine ⟨fun σ H F s Q R' R q k => ?_⟩
  refine h.run σ H F s _ _ R q fun v H1 F1 r w1 f1 W1 v1 q1 => ?_
  split at q1
  · rename_i xs
    cases v1 with
    | @tup a vs _ hq ha =>
      have tupS : ∀ {F H : Hp}, Same F H → SqT A.K F a vs → SqT A.K H a vs := fun {F H} e h => by
        rcases h with (h | ⟨o, h⟩) | h
        · exact .inl (.inl (e _ _ h))
        · exact .inl (.inr ⟨o, e _ _ h⟩)
        · exact .inr h
      refine ⟨a, vs, rfl, tupS f1.sub' hq, k _ H1 F1 _ w1 f1 W1 ?_ q1⟩
      intro H' F' e g i
      have hl := dpa_len ha
      have hq' := tupS (e.trans g.sub) hq
      refine ⟨fun z ez => ?_, fun hi => ⟨hq', by rw [numbered_len] at hi; omega⟩⟩
      obtain ⟨x, ex, rfl⟩ := numbered_get ez
      obtain ⟨vx, ev, dv⟩ := dpa_get ha ex
      refine ⟨⟨hq', vx, ev⟩, fun u H'' y => ?_⟩
      obtain ⟨T, x', rfl, hT, rfl, y1⟩ := y
      rw [Nat.zero_add]
      exact new_pair g hT (Dp.int _) (dp_mono e _ _ (dp_at ha ex y1))
  · exact q1.elim
end DL
/-! DL10: defs that are called where nothing watches the displays (repr of data), calls by names alone. -/
namespace DL
open PySem PySem.Spec PyProof.Rows L2
/-- a def's promise where no display is under way -/
structure FnG (P : Program) (w : World) (K : PySem.W.Frag) (mg : PySem.Str → Option Value) (base : Heap) (CX : CXT) (k : Nat) (f : Addr) (fd : FuncData) (ps : List PySem.Str) (sp : L2.Sp) : Prop where
  len : ∀ vs H Q E, sp vs H Q E → vs.length = ps.length
  run : ∀ (A : Around) (outer : List Env) (s : Shared) (H : Hp) (args : Args) (us : List Value) (vs : List V) (Q : VK) (E : XK), Room k A → A.guards = some [] → Env0 P w K mg base A outer s H →
    BindsTo s fd args (ps.zip us) → Vals vs us → sp vs H Q E → codeAny (model P w) A (.call (.ref f) args) (CR CX outer P w H s Q E) s
/-- the same of a def that asks nothing of the displays -/
theorem FnG.of {P : Program} {w : World} {K : PySem.W.Frag} {mg : PySem.Str → Option Value} {base : Heap} {CX : CXT} {k : Nat} {f : Addr} {fd : FuncData} {ps : List PySem.Str} {sp : L2.Sp} (F : FnOk P w K mg base CX k f fd ps sp) :
    FnG P w K mg base CX k f fd ps sp := ⟨F.len, fun A outer s H args us vs Q E hr _ e b r q => F.run A outer s H args us vs Q E hr e b r q⟩
section
variable {CX : CXT} {P : Program} {w : World} {K : PySem.W.Frag} {mg : PySem.Str → Option Value} {base : Heap} {k : Nat} {f : Addr} {name qual : PySem.Str} {params : Arguments} {body : List Stmt} {scope : Scope} {N ps : List PySem.Str} {sp : L2.Sp}
theorem fn_ofG {dV kV doc pm cdv ct oc : Value} {an od : Option Addr} {osl : Array (Option Value)}
    (lk : K.lookup f = some ⟨oc, od, .func (PySem.W.fnOf name qual params body scope dV kV doc pm an cdv ct), osl⟩) (hcd : PySem.W.codeIn K cdv qual = true) (S : FnScope N ps scope)
    (len : ∀ vs H Q E, sp vs H Q E → vs.length = ps.length)
    (hbody : ∀ (A : Around) (outer : List Env) (s : Shared) (H : Hp) (vs : List V) (Q : VK) (E : XK), Room k (A.deeper (envOfC qual scope s.heap.objs.size f cdv)) → A.guards = some [] → sp vs H Q E →
      ∃ t, PSs (cxOf CX P w K mg base N qual scope f cdv A outer s H E) body t ∧ t { nx := fun _ G => Q .non G, rt := Q } (start N vs) H) :
    FnG P w K mg base CX (k + 1) f (PySem.W.fnOf name qual params body scope dV kV doc pm an cdv ct) ps sp := by
  refine ⟨len, fun A outer s H args us vs Q E room hgd env0 bind rel promise => ?_⟩
  have many := len _ _ _ _ promise
  have kept : ∀ b o, base.get? b = some o → s.heap.get? b = some o := fun b o e => (env0.bs b o e).1
  have KX : K.In s.heap := env0.mod.kin.keeps kept
  have lim : s.heap.NoLimit := env0.mod.nolimit.keeps kept
  refine codeAny_call_function room.depth (KX _ _ lk) rfl S.co S.gen rfl (PySem.W.codeRec_of KX hcd) (bind _ _ _ _ ?_)
  refine wpAny_newFunctionEnv_cells S.kind (fun ⟨n, v⟩ hy => ?_) fun env he s1 x => ?_
  · rcases S.par n (List.of_mem_zip hy).1 with q | q
    · exact .inl q
    · exact .inr ⟨q, PySem.W.cellsFrom_some _ _ _ (.inl q)⟩
  · subst he
    refine ⟨lim.keeps x.toInCall.keep, codeAny_func ?_⟩
    obtain ⟨t, ht, hq⟩ := hbody A outer s H vs Q E (room.deeper _) hgd promise
    have I := inv_start (CX := CX) (E := E) S room.hd env0 many rel x
    refine wpAny_mono (ht.run [] s1 (start N vs) H _ I hq) (fun fl s' hs => ?_) fun e s' hs => hs
    cases fl with
    | ret u => exact hs.elim fun v h => h.elim fun σ' h => h.elim fun G h => ⟨v, G, h.1.os, h.1.bare, h.1.base, h.1.hok, h.2.1, h.2.2⟩
    | next => exact hs.elim fun σ' h => h.elim fun G h => ⟨V.non, G, h.1.os, h.1.bare, h.1.base, h.1.hok, rfl, h.2⟩
    | brk => exact hs.elim fun _ h => h.elim fun _ h => h.2.elim
    | cont => exact hs.elim fun _ h => h.elim fun _ h => h.2.elim
end
section
variable {P : Program} {w : World} {K : PySem.W.Frag} {mg : PySem.Str → Option Value} {base : Heap} {x qual : PySem.Str} {params : Arguments} {body : List Stmt} {scope : Scope} {dvs : List V} {kws : List (PySem.Str × V)} {f : Addr} {fd : FuncData}
theorem okG {CX : CXT} {N ps : List PySem.Str} {k : Nat} {sp : L2.Sp} (F : FunD K x qual params body scope dvs kws f fd) (S : FnScope N ps scope) (len : ∀ vs H Q E, sp vs H Q E → vs.length = ps.length)
    (hbody : ∀ (cdv : Value) (A : Around) (outer : List Env) (s : Shared) (H : Hp) (vs : List V) (Q : VK) (E : XK), Room k (A.deeper (envOfC qual scope s.heap.objs.size f cdv)) → A.guards = some [] → sp vs H Q E →
      ∃ t, PSs (cxOf CX P w K mg base N qual scope f cdv A outer s H E) body t ∧ t { nx := fun _ G => Q .non G, rt := Q } (start N vs) H) : FnG P w K mg base CX (k + 1) f fd ps sp := by
  have ex := F.ex
  obtain ⟨oc, od, dV, kV, doc, pm, an, cdv, ct, osl, e, lk, hcd, _⟩ := ex
  subst e
  exact fn_ofG lk hcd S len fun A outer s H vs Q E => hbody cdv A outer s H vs Q E
end
section
variable {X : Cx} {CX : CXT} {k : Nat} {f : Addr} {fd : FuncData} {ps : List PySem.Str} {sp : L2.Sp} {E : XK} {x : PySem.Str} {p pos : Pos} {e : Expr} {es : List Expr} {t : TA}
/-- a call of such a def -/
theorem pe_callG (F : FnG X.prog X.w X.K X.mg X.base CX k f fd ps sp) (hr : Room k X.A) (hgd : X.A.guards = some []) (hg : Gl X x) (hm : X.mg x = some (.ref f)) (hk : PySem.W.keepIn X.K (.ref f) = true) (hb : Binds X.K fd ps []) (hx : Passes CX X E)
    (ha : PA X (e :: es) t) (hdb : (x == ("__debug__" : PySem.Str)) = false := by decide) (he : starEach (e :: es) X.env = (false, eval e X.env) :: starEach es X.env := by rfl)
    (hpl : (backTo pos (starEach es X.env)).any (·.1) = false := by rfl) : PE X (.Call (.Name x p) (e :: es) [] pos) (tCall sp [] E t) := by
  refine ⟨fun pins s σ H Q I h => wpAny_Call_Name_kw (ld_glob I hg hm ?_ hdb)⟩
  refine PySem.W.callWith_K (h₀ := X.base) I.ok.mod.kin hk ?_ he hpl
  refine thn (ha.run pos pins s σ H _ I h) fun us s1 ⟨vs, H1, I1, r, q⟩ => ⟨I1.kIn, ?_⟩
  have r2 : Vals (vs ++ []) (us ++ []) := by rw [List.append_nil, List.append_nil]; exact r
  have hl : (us ++ []).length = ps.length := r2.length.symm.trans (F.len _ _ _ _ q)
  refine wpAny_call (codeAny_mono (F.run X.A X.stack s1 H1 ⟨us, []⟩ (us ++ []) (vs ++ []) Q E hr hgd I1.env0 (hb s1 us I1.kIn hl) r2 q) fun r s' hq => ?_)
  match r, hq with
  | .error e, hq => exact hx pins σ H1 s1 e s' I1 hq
  | .ok (.ret u), hq => exact I1.after hq
  | .ok .next, hq => exact hq.elim
  | .ok .brk, hq => exact hq.elim
  | .ok .cont, hq => exact hq.elim
/-- f(k = v, ..), no positional value -/
theorem pe_callK0 {ks : List PySem.Str} {kws : List Keyword} {tk : TA} {g : List Value → List Value → List Value} {gV : List V → List V → List V} (F : FnOk X.prog X.w X.K X.mg X.base CX k f fd ps sp) (hr : Room k X.A) (hg : Gl X x) (hm : X.mg x = some (.ref f))
    (hk : PySem.W.keepIn X.K (.ref f) = true) (hb : KBn X.K fd ps 0 ks g gV) (hx : Passes CX X E) (hkw : PK X kws tk) (hall : (backToKw pos (keywordEach kws X.env)).all (·.1.isSome) = true := by rfl)
    (hks : (backToKw pos (keywordEach kws X.env)).filterMap (·.1) = ks := by rfl) (hdb : (x == ("__debug__" : PySem.Str)) = false := by decide)
    (hpl : (backToKw pos (keywordEach kws X.env)).any (·.1.isNone) = false := by rfl) : PE X (.Call (.Name x p) [] kws pos) (tCallN 0 ks.length sp gV E tNil tk) := by
  refine ⟨fun pins s σ H Q I h => wpAny_Call_Name_kw (ld_glob I hg hm ?_ hdb)⟩
  obtain ⟨h1⟩ : Nonempty (tk σ H fun zs H2 => ([] : List V).length = 0 ∧ zs.length = ks.length ∧ sp (gV [] zs) H2 Q E) := ⟨h⟩
  refine PySem.W.callWith_KW0 (h₀ := X.base) I.ok.mod.kin hk hall ?_ hpl
  refine thn (hkw.run pos pins s σ H _ I h1) fun ws s2 ⟨zs, H2, I2, rz, l1, l2, q2⟩ => ⟨I2.kIn, ?_⟩
  rw [hks]
  exact run_fnN (us := []) (vs := []) F hr hb hx I2 .nil rz rfl l2 q2
end
end DL
/-! DL11: repr of data; the law's end. -/
namespace DL
open PySem PySem.Spec PyProof.Rows L2
/-- repr(x) of a list, a tuple of data -/
def rRepr (K : PySem.W.Frag) : List V → Hp → VK → Prop := fun xs H Q => ∃ (a : Addr) (d : PyData), xs = [.ref a] ∧ Dp K H (.ref a) d ∧ (d.showable = true ∧ d.hasDict = false ∧ d.depth ≤ 100 ∧ d.shown.length ≤ sizeLine) ∧ Q (.str d.shown) H
theorem call_reprD {X : Cx} {k : Nat} (hr : Room k X.A) (hgd : X.A.guards = some []) : CallR X (.builtin "repr") (rRepr X.K) := by
  intro pins s σ H xs us Q I rv h
  obtain ⟨a, d, rfl, hd, ⟨h1, h2, h3, h4⟩, q⟩ := h
  cases rv with
  | cons r rr =>
    cases rr
    obtain rfl : _ = Value.ref a := r
    obtain ⟨as, rd⟩ := Dp.reads I d (.ref a) (.ref a) hd rfl
    have un := hr.un
    refine repr_of_reads' rd h1 (PyData.noDict_hsm h2) hgd (by omega) (fun _ _ e => e) (fun h' u tk hk => ?_) h4
    exact ⟨.str d.shown, H, I.kept hk, ⟨u, rfl⟩, q⟩
def fRepr : List Rv → (Rv → Prop) → Prop
  | [x], Q => (match datOf x with
    | some d => (match d with
      | .list _ => (d.showable = true ∧ d.hasDict = false ∧ d.depth ≤ 100 ∧ d.shown.length ≤ sizeLine) ∧ Q (.d (.str d.shown))
      | .tuple _ => (d.showable = true ∧ d.hasDict = false ∧ d.depth ≤ 100 ∧ d.shown.length ≤ sizeLine) ∧ Q (.d (.str d.shown))
      | _ => False)
    | none => False)
  | _, _ => False
theorem cb_repr {A : Am} : CbD A (rRepr A.K) fRepr := by
  refine ⟨fun σ H F s xs rs Q Q' R as q k => ?_⟩
  unfold fRepr at q
  split at q
  · obtain ⟨x, rfl, hx⟩ := as.one
    split at q
    · rename_i r Q0 e0 d e
      have hd := val_dp R.gd.sub hx.val e
      split at q
      · rename_i xs
        cases hd with
        | lst h1 h2 => exact ⟨_, _, rfl, .lst h1 h2, q.1, k _ H F (.d (.str _)) (Fw.refl R.gd.sub) R.well (.str _) q.2⟩
      · rename_i xs
        cases hd with
        | tup h1 h2 => exact ⟨_, _, rfl, .tup h1 h2, q.1, k _ H F (.d (.str _)) (Fw.refl R.gd.sub) R.well (.str _) q.2⟩
      · exact q.elim
    · exact q.elim
  · exact q.elim
end DL
/-! DL12: the law's end; calls by names; a call that hands over a new list of three ints. -/
namespace DL
open PySem PySem.Spec PyProof.Rows L2
/-! ### calls by names, back to front -/
theorem kb_rev {K : PySem.W.Frag} {fd : FuncData} {ps ks : List PySem.Str} (h : ∀ (s : Shared) (ws : List Value), ws.length = ks.length → BindsTo s fd ⟨[], ks.zip ws⟩ (ps.zip ws.reverse)) : KBn K fd ps 0 ks (fun _ ws => ws.reverse) (fun _ zs => zs.reverse) :=
  ⟨fun s us ws _ l1 l2 => (by
    obtain rfl : us = [] := List.eq_nil_of_length_eq_zero l1
    exact h s ws l2), fun _ rz => Vals.reverse rz⟩
theorem ArgsR.rev {A : Am} {H F : Hp} : ∀ {vs : List V} {rs : List Rv}, ArgsR A H F vs rs → ArgsR A H F vs.reverse rs.reverse := by
  have app : ∀ {vs us : List V} {rs ts : List Rv}, ArgsR A H F vs rs → ArgsR A H F us ts → ArgsR A H F (vs ++ us) (rs ++ ts) := by
    intro vs us rs ts h g
    induction h with
    | nil => exact g
    | cons h1 _ ih => exact .cons h1 ih
  intro vs rs h
  induction h with
  | nil => exact .nil
  | cons h1 _ ih =>
    rw [List.reverse_cons, List.reverse_cons]
    exact app ih (.cons h1 .nil)
def dCallK (n : Nat) (Sp : FSpec) (t : TDA) : TD := fun s Q => t s fun rs w => (match Nat.beq rs.length n with
  | true => Sp rs.reverse w Q
  | false => False)
theorem de_callK {A : Am} {n : Nat} {Sp : FSpec} {E : XK} {t : TA} {d : TDA} (h : DA A t d) : DE A (tCallN 0 n (spD A.K n Sp) (fun _ zs => zs.reverse) E tNil t) (dCallK n Sp d) := by
  refine ⟨fun σ H F s Q Q' R q k => ?_⟩
  refine h.run σ H F s _ _ R q fun vs H1 F1 rs w1 f1 W1 as q1 => ?_
  split at q1
  · rename_i e
    have R1 := R.fw f1 W1
    have le : rs.length = n := Nat.eq_of_beq_eq_true e
    refine ⟨rfl, by rw [as.len]; exact le, by rw [List.length_reverse, as.len]; exact le, F1, A.pw, w1, rs.reverse, Q, f1.sub', fun p hp => ⟨(W1 p hp).1, R1.gd.pwF (s := s.wl w1) W1 hp⟩, as.rev.amb, q1, fun v H2 F2 r w2 g2 W2 r2 q2 => ?_⟩
    have f2 : Fw A H1 F1 H2 F2 := ⟨g2.ext, g2.old, g2.sub0, g2.sub, g2.new⟩
    refine k v H2 F2 r w2 (f1.trans f2) (fun p hp => ⟨(W2 p hp).1, (W1 p hp).2⟩) ?_ q2
    have : ResR A H1 H2 F2 v r := by
      cases r with
      | d x => exact r2
      | l xs =>
        obtain ⟨p, vs', rfl, h0, hF, h1, h3⟩ := r2
        exact ⟨p, vs', rfl, h0, hF, h1, h3⟩
      | a xs => exact r2.elim
      | p xs => exact r2.elim
      | w => exact r2.elim
    exact this.early f1.old
  · exact q1.elim
/-! ### f(g(..)): g's new list of three ints is f's well -/
def dCallW (Sp : FSpec) (t : TD) : TD := fun s Q => t s fun r w => match r with
  | .l [.int a, .int b, .int c] => Sp [.w] (a, b, c) fun r2 _ => Q r2 w
  | _ => False
theorem de_callW {A : Am} {Sp : FSpec} {E : XK} {te : TE} {t : TD} (h : DE A te t) : DE A (tCall (spD A.K 1 Sp) [] E (tCons te tNil)) (dCallW Sp t) := by
  refine ⟨fun σ H F s Q Q' R q k => ?_⟩
  refine h.run σ H F s _ _ R q fun v H1 F1 r w1 f1 W1 r1 q1 => ?_
  split at q1
  · rename_i a b c
    obtain ⟨p, vs, rfl, h0, hF, hp, ha⟩ := r1
    have ev : vs = [.int a, .int b, .int c] := by
      cases ha with
      | cons h1 ha =>
        cases h1
        cases ha with
        | cons h2 ha =>
          cases h2
          cases ha with
          | cons h3 ha =>
            cases h3
            cases ha
            rfl
    subst ev
    have npw : ∀ q, A.pw = some q → q ≠ p := fun q hq z => by
      subst z
      exact R.pwH q hq h0
    refine ⟨rfl, F1, some p, (a, b, c), [.w], fun r2 _ => Q r2 w1, f1.sub', fun q hq => ?_, .cons ⟨p, rfl, rfl⟩ .nil, q1, fun v H2 F2 r w2 g2 W2 r2 q2 => ?_⟩
    · cases hq
      exact ⟨hp, hF⟩
    have notp : ∀ q o, H q = some o → (some p : Option Addr) ≠ some q := fun q o e z => by
      cases z
      rw [h0] at e; cases e
    have f2 : Fw A H F H2 F2 := by
      refine ⟨fun q o e n => g2.ext q o (f1.ext q o e n) (notp q o e), fun q e => g2.old q (f1.old q e), f1.sub.trans g2.sub0, g2.sub, fun q e => ?_⟩
      rcases g2.new q e with z | z
      · exact f1.new q z
      · right
        cases e2 : H q with
        | none => rfl
        | some o => exact absurd z (f1.old q (by rw [e2]; simp))
    refine k v H2 F2 r w1 f2 (fun q hq => ?_) ?_ q2
    · obtain ⟨e1, e2, e3⟩ := W1 q hq
      exact ⟨g2.ext q _ e1 fun z => by
        cases z
        exact npw _ hq rfl, e2, e3⟩
    · have : ResR A H1 H2 F2 v r := by
        cases r with
        | d x => exact r2
        | l xs =>
          obtain ⟨p, vs', rfl, h0, hF, h1, h3⟩ := r2
          exact ⟨p, vs', rfl, h0, hF, h1, h3⟩
        | a xs => exact r2.elim
        | p xs => exact r2.elim
        | w => exact r2.elim
      exact this.early f1.old
  · exact q1.elim
/-! ### the law -/
theorem law_goes {P : Program} {w : World} {K : PySem.W.Frag} {mg mb : PySem.Str → Option Value} {CX : CXT} {k : Nat} {fa a : Addr} {fd : FuncData} {x : PySem.Str} {sp : L2.Sp} {s₁ : Shared} {vs : List Value} {H : Hp}
    (KX : K.In s₁.heap) (hns : s₁.heap.Ns mainGlobals mg) (hb : s₁.heap.Ns builtinsNs mb) (hbb : ∀ x : PySem.Str, x ≠ "__name__" → mb x = bootBuiltins x) (hlim : s₁.heap.NoLimit) (hg : s₁.gens = #[])
    (ha : s₁.heap.get? a = some { cls := .type "list", data := .seq vs.toArray }) (hr : Room k callerA)
    (F : ∀ base : Heap, K.In base → base.Ns mainGlobals mg → FnG P w K mg base CX k fa fd [x] sp) (hbind : ∀ (s : Shared) (u : Value), BindsTo s fd ⟨[u], []⟩ [(x, u)])
    (hCX : ∀ H e s', CX [] H s₁ (fun _ _ _ => False) e s' → False) (hO : Only H) (hok : HOk P w H s₁.heap) (only : ∀ b, H b ≠ none → b = a ∧ K.lookup b = none)
    (hsp : sp [.ref a] H (fun v _ => v = .bl true) fun _ _ _ => False) :
    codeAny (model P w) callerA (.call (.ref fa) ⟨[.ref a], []⟩) (fun r s' => r = .ok (.ret (.bool true)) ∧ OldK s₁.heap s'.heap ∧ s'.os = s₁.os ∧ AllBare s'.gens) s₁ := by
  have untr : ∀ {b : Addr} {o : Obj}, s₁.heap.get? b = some o → b ≠ a → H b = none := fun {b o} _ n => by
    cases e : H b with
    | none => rfl
    | some u => exact absurd (only b (by rw [e]; simp)).1 n
  have dicts : ∀ {b : Addr} {m : PySem.Str → Option Value}, s₁.heap.Ns b m → (hidT s₁.heap H).Ns b m := fun {b m} h => by
    obtain ⟨o, es, ep, e, d, r⟩ := h
    refine ⟨o, es, ep, hidT_get e (untr e fun z => ?_), d, r⟩
    subst z
    rw [ha] at e
    cases e
    exact absurd (show Data.seq vs.toArray _ = Data.dict es ep from d) (fun z => by cases z)
  have hKb : K.In (hidT s₁.heap H) := fun b o e => hidT_get (KX b o e) (by
    cases q : H b with
    | none => rfl
    | some u =>
      have := (only b (by rw [q]; simp)).2
      rw [this] at e
      cases e)
  obtain ⟨mc, m1, m2⟩ := hlim
  have env0 : Env0 P w K mg (hidT s₁.heap H) callerA [] s₁ H :=
    ⟨rfl, ⟨hKb, dicts hns, ⟨mb, dicts hb, hbb⟩, ⟨mc, dicts m1, m2⟩⟩, fun b o e => of_hidT e, Nat.le_of_eq (hidT_size _ _), trivial, fun b hb => (by cases hb), hok, .of_eq hg⟩
  have go := (F _ hKb (dicts hns)).run callerA [] s₁ H ⟨[.ref a], []⟩ [.ref a] [.ref a] _ _ hr rfl env0 (hbind s₁ (.ref a)) (.cons rfl .nil) hsp
  refine codeAny_mono go fun r s' h => ?_
  match r, h with
  | .error e, h => exact (hCX H e s' h).elim
  | .ok .next, h => exact False.elim h
  | .ok .brk, h => exact False.elim h
  | .ok .cont, h => exact False.elim h
  | .ok (.ret u), h =>
    obtain ⟨v, H', os, bare, un, hok', r', q⟩ := h
    cases (show v = .bl true from q)
    obtain rfl : u = Value.bool true := r'
    refine ⟨rfl, OldK.of_keep fun b o e => ?_, os, bare⟩
    cases q : H b with
    | none => exact un.keep b o e q (fun z => by cases z) (fun z => by cases z)
    | some u =>
      obtain ⟨ob, xs, z⟩ := (hO b).resolve_left (by rw [q]; simp)
      obtain ⟨e1, _⟩ := hok b _ z
      obtain ⟨e2, _⟩ := hok' b _ (un.frzs b ob _ z)
      rw [e] at e1
      cases e1
      exact e2
theorem walkG {l : PySem.W.OpenLaw} {n k : Nat} {q : Program} {loose : List PySem.Str} {XP : (PySem.Str → Option Value) → Heap → Prop} {YP : World → Heap → Prop} {d : DefRec} {CX : CXT} {x : PySem.Str}
    (hn : l.most = some n) (hn2 : n ≤ sizeLine) (hdf : d.params.defaults = []) (hr : Room k callerA)
    (F : ∀ (w : World) (mg : PySem.Str → Option Value) (fa : Addr) (h : Heap), YP w h → h.Ns mainGlobals mg → mg d.name = some (.ref fa) →
      ∃ (K : PySem.W.Frag) (fd : FuncData) (Sp : FSpec), K.In h ∧ (∀ (s : Shared) (u : Value), BindsTo s fd ⟨[u], []⟩ [(x, u)]) ∧
        (∀ (ns : List Int) (w : W3), ns.length ≤ n → Sp [.d (.list (ns.map PyData.int))] w fun r _ => r = .d (.bool true)) ∧
        ∀ base : Heap, K.In base → base.Ns mainGlobals mg → FnG l.prog w K mg base CX k fa fd [x] (spD K 1 Sp))
    (hCX : ∀ (H : Hp) (s : Shared) (e : Value) (s' : Shared), CX [] H s (fun _ _ _ => False) e s' → False) :
    PySem.W.WalkO q loose XP YP l.row.toRowW d [] (fun f vs => PySem.call f vs) := by
  refine Att.attach_call hn hdf fun w s₀ s₁ mg mb fa o pm cd doc a vs ns G Y ho hd hcd hmg hobj hints hlen hg => ?_
  obtain ⟨K, fd, Sp, KX, hb, hsp, hF⟩ := F w mg fa _ Y G.T.g hmg
  have rv := vals_ints hints
  have hl : ns.length ≤ sizeLine := Nat.le_trans hlen hn2
  have lenV := hints.length
  have dat : ∀ {F : Hp} (ns : List Int), DpAll K F (ns.map V.int) (ns.map PyData.int) := fun {F} ns => by
    induction ns with
    | nil => exact .nil
    | cons n r ih => exact .cons (.int n) ih
  have fin : ∀ H : Hp, SqL K H a (ns.map V.int) → spD K 1 Sp [.ref a] H (fun v _ => v = .bl true) fun _ _ _ => False := fun H hS =>
    ⟨rfl, H, none, (0, 0, 0), [.d (.list (ns.map PyData.int))], _, Same.refl H, fun p z => (by cases z), .cons (.lst hS (dat ns)) .nil, hsp ns _ hlen, fun v H' F' r w' g W hr' e => by
      subst e
      cases (show Dp K F' v (.bool true) from hr')
      rfl⟩
  cases hk : K.lookup a with
  | some o =>
    have e := KX a o hk
    rw [hobj] at e
    cases e
    exact law_goes (H := fun _ => none) KX G.T.g G.T.b G.T.builtins G.T.nolimit hg hobj hr hF hb (fun H e s' => hCX H s₁ e s') (fun _ => .inl rfl) (fun b u z => by cases z) (fun b z => absurd rfl z)
      (fin _ (.inr ⟨_, vs.toArray, _, hk, rfl, rfl, rfl, by rw [List.size_toArray, lenV]; exact hl, by simpa using rv⟩))
  | none =>
    have at_ : ∀ b u, (if b = a then some (HO.frz { cls := .type "list", data := .seq vs.toArray } (.lst (ns.map V.int))) else none) = some u → b = a ∧ u = HO.frz { cls := .type "list", data := .seq vs.toArray } (.lst (ns.map V.int)) := fun b u z => by
      by_cases hb : b = a
      · rw [if_pos hb] at z
        exact ⟨hb, (Option.some.inj z).symm⟩
      · rw [if_neg hb] at z
        cases z
    refine law_goes (H := fun b => if b = a then some (.frz { cls := .type "list", data := .seq vs.toArray } (.lst (ns.map V.int))) else none) KX G.T.g G.T.b G.T.builtins G.T.nolimit hg hobj hr hF hb (fun H e s' => hCX H s₁ e s')
      (fun b => ?_) (fun b u z => ?_) (fun b z => ?_) (fin _ (.inl (.inr ⟨{ cls := .type "list", data := .seq vs.toArray }, if_pos rfl⟩)))
    · by_cases e : b = a
      · exact .inr ⟨_, _, if_pos e⟩
      · exact .inl (if_neg e)
    · obtain ⟨rfl, rfl⟩ := at_ b u z
      exact ⟨hobj, by rw [List.length_map]; exact hl, vs, _, rv, hobj⟩
    · obtain ⟨u, e⟩ := Option.ne_none_iff_exists'.mp z
      obtain ⟨rfl, _⟩ := at_ b u e
      exact ⟨rfl, hk⟩
end DL
/-! DL13: the two levels in one: a piece of text, its reading over the heap, its reading over data. -/
namespace DL
open PySem PySem.Spec PyProof.Rows L2
structure XE (X : Cx) (e : Expr) (te : TE) (t : TD) : Prop where
  pe : PE X e te
  de : ∀ A : Am, A.K = X.K → DE A te t
structure XT (X : Cx) (e : Expr) (tt : TT) (t : TDT) : Prop where
  pt : PT X e tt
  dt : ∀ A : Am, A.K = X.K → DT A tt t
structure XW (X : Cx) (e : Expr) (tt : TT) (t : TDT) : Prop where
  pw : PW X e tt
  dt : ∀ A : Am, A.K = X.K → DT A tt t
structure XIf (X : Cx) (es : List Expr) (tt : TT) (t : TDT) : Prop where
  pts : PTs X es tt
  dt : ∀ A : Am, A.K = X.K → DT A tt t
structure XA (X : Cx) (es : List Expr) (ta : TA) (t : TDA) : Prop where
  pa : PA X es ta
  da : ∀ A : Am, A.K = X.K → DA A ta t
structure XKw (X : Cx) (ks : List Keyword) (ta : TA) (t : TDA) : Prop where
  pk : PK X ks ta
  da : ∀ A : Am, A.K = X.K → DA A ta t
structure XD (X : Cx) (es : List Expr) (ta : TA) (t : TDD) : Prop where
  pa : PA X es ta
  dd : ∀ A : Am, A.K = X.K → DD A ta t
structure XO (X : Cx) (e : Option Expr) (to : TO) (t : TDO) : Prop where
  po : PO X e to
  dO : ∀ A : Am, A.K = X.K → DO A to t
structure XG (X : Cx) (e : Expr) (g : TG) (is : List Nat) (t : TDG) : Prop where
  pg : PG X e g
  dg : ∀ A : Am, A.K = X.K → DG A g is t
structure XGs (X : Cx) (es : List Expr) (g : TGs) (is : List Nat) (t : TDGs) : Prop where
  pgs : PGs X es g
  dgs : ∀ A : Am, A.K = X.K → DGs A g is t
structure XI (X : Cx) (tg e : Expr) (wi : TI) (t : TDI) : Prop where
  pi : PI X tg e wi
  di : ∀ A : Am, A.K = X.K → DI A wi t
structure XS (X : Cx) (st : Stmt) (ts : TS) (t : TSD) : Prop where
  ps : PS X st ts
  ds : ∀ A : Am, A.K = X.K → DS A ts t
structure XSs (X : Cx) (st : List Stmt) (ts : TS) (t : TSD) : Prop where
  pss : PSs X st ts
  ds : ∀ A : Am, A.K = X.K → DS A ts t
/-- the ambient heap's written part is the body's -/
theorem amK {K : PySem.W.Frag} {M : Am → Prop} (h : ∀ H0 F0 pw, M ⟨K, H0, F0, pw⟩) : ∀ A : Am, A.K = K → M A := fun ⟨_, H0, F0, pw⟩ e => by
  cases e
  exact h H0 F0 pw
/-- a value that every frozen heap knows -/
def Kv (K : PySem.W.Frag) (v : V) (x : PyData) : Prop := ∀ F : Hp, Dp K F v x
/-- a def of the text: its level, its parameters, its promise -/
def Has (P : Program) (w : World) (K : PySem.W.Frag) (mg : PySem.Str → Option Value) (base : Heap) (k : Nat) (x : PySem.Str) (ps : List PySem.Str) (n : Nat) (Sp : FSpec) : Prop :=
  ∃ f fd, FnOk P w K mg base CX0 k f fd ps (spD K n Sp) ∧ mg x = some (.ref f) ∧ PySem.W.keepIn K (.ref f) = true ∧ Binds K fd ps []
def HasG (P : Program) (w : World) (K : PySem.W.Frag) (mg : PySem.Str → Option Value) (base : Heap) (k : Nat) (x : PySem.Str) (ps : List PySem.Str) (n : Nat) (Sp : FSpec) : Prop :=
  ∃ f fd, FnG P w K mg base CX0 k f fd ps (spD K n Sp) ∧ mg x = some (.ref f) ∧ PySem.W.keepIn K (.ref f) = true ∧ Binds K fd ps []
/-- it can be called by the names ks, back to front -/
def HasK (P : Program) (w : World) (K : PySem.W.Frag) (mg : PySem.Str → Option Value) (base : Heap) (k : Nat) (x : PySem.Str) (ps ks : List PySem.Str) (n : Nat) (Sp : FSpec) : Prop :=
  ∃ f fd, FnOk P w K mg base CX0 k f fd ps (spD K n Sp) ∧ mg x = some (.ref f) ∧ PySem.W.keepIn K (.ref f) = true ∧ KBn K fd ps 0 ks (fun _ ws => ws.reverse) (fun _ zs => zs.reverse) ∧ ks.length = n

section
variable {X : Cx} {a b c e : Expr} {es : List Expr} {pos p : Pos} {te ta tb tc : TE} {t t1 t2 t3 : TD}
/-! ### names, constants -/
theorem x_var (i : Nat) {x : PySem.Str} (hN : X.N[i]? = some x := by rfl) (hv : Vis X.env.scope x := by first | exact Or.inl rfl | exact Or.inr (Or.inl rfl) | exact Or.inr (Or.inr rfl)) (hd : (x == ("__debug__" : PySem.Str)) = false := by decide)
    (hcd : (x == ("__classdict__" : PySem.Str)) = false := by decide) : XE X (.Name x pos) (tVar i) (dVar i) := ⟨pv i hN hv hd hcd, fun _ _ => de_var⟩
theorem x_int {i : Int} {j} : XE X (.Constant (.int i) j pos) (tC (.int i)) (dC (.int i)) := ⟨pe_int, fun _ _ => de_int⟩
theorem x_bl {i : Bool} {j} : XE X (.Constant (.bool i) j pos) (tC (.bl i)) (dC (.bool i)) := ⟨pe_bl, fun _ _ => de_bl⟩
theorem x_non {j} : XE X (.Constant .none j pos) (tC .non) (dC .none) := ⟨pe_non, fun _ _ => de_non⟩
theorem x_str {i : PySem.Str} {j} : XE X (.Constant (.str i) j pos) (tC (.str i)) (dC (.str i)) := ⟨pe_str, fun _ _ => de_str⟩
/-- a name of the module that stands for data -/
def Cst (K : PySem.W.Frag) (mg : PySem.Str → Option Value) (x : PySem.Str) (d : PyData) (v : V) : Prop := ∃ u, mg x = some u ∧ RelV v u ∧ Kv K v d
theorem x_cst {x : PySem.Str} {d : PyData} {v : V} (h : Cst X.K X.mg x d v) (hg : Gl X x := by rfl) (hd : (x == ("__debug__" : PySem.Str)) = false := by decide) : XE X (.Name x pos) (tC v) (dC d) := by
  obtain ⟨u, h1, h2, h3⟩ := h
  exact ⟨pe_glob hg h1 h2 hd, amK fun _ _ _ => de_c h3⟩
/-! ### operations -/
theorem x_op {op : Operator} {r : R2} {f} (ho : OpR X (binaryOp op) r) (hd : ∀ A : Am, A.K = X.K → OpD A r f) (ha : XE X a ta t1) (hb : XE X b tb t2) : XE X (.BinOp a op b pos) (tOp r ta tb) (dOp f t1 t2) :=
  ⟨pe_op ho ha.pe hb.pe, fun A e => de_op (hd A e) (ha.de A e) (hb.de A e)⟩
theorem x_add (ha : XE X a ta t1) (hb : XE X b tb t2) : XE X (.BinOp a .Add b pos) (tOp (rI0 fun i j => .int (i + j)) ta tb) (dOp (fI0 fun i j => .int (i + j)) t1 t2) := x_op op_add (fun _ _ => od_ii0) ha hb
theorem x_sub (ha : XE X a ta t1) (hb : XE X b tb t2) : XE X (.BinOp a .Sub b pos) (tOp (rI0 fun i j => .int (i - j)) ta tb) (dOp (fI0 fun i j => .int (i - j)) t1 t2) := x_op op_sub (fun _ _ => od_ii0) ha hb
theorem x_mul (ha : XE X a ta t1) (hb : XE X b tb t2) : XE X (.BinOp a .Mult b pos) (tOp (rI CMulW fun i j => .int (i * j)) ta tb) (dOp (fI CMulW fun i j => .int (i * j)) t1 t2) := x_op op_mulW (fun _ _ => od_ii) ha hb
theorem x_fdiv (ha : XE X a ta t1) (hb : XE X b tb t2) : XE X (.BinOp a .FloorDiv b pos) (tOp (rI CDivW fun i j => .int (i / j)) ta tb) (dOp (fI CDivW fun i j => .int (i / j)) t1 t2) := x_op op_fdivW (fun _ _ => od_ii) ha hb
theorem x_fdivN (ha : XE X a ta t1) (hb : XE X b tb t2) : XE X (.BinOp a .FloorDiv b pos) (tOp (rI CDivN fun i j => .int (i.fdiv j)) ta tb) (dOp (fI CDivN fun i j => .int (i.fdiv j)) t1 t2) := x_op op_fdivN (fun _ _ => od_ii) ha hb
theorem x_mod (ha : XE X a ta t1) (hb : XE X b tb t2) : XE X (.BinOp a .Mod b pos) (tOp (rI (fun _ j => 0 < j) fun i j => .int (i % j)) ta tb) (dOp (fI (fun _ j => 0 < j) fun i j => .int (i % j)) t1 t2) := x_op op_mod (fun _ _ => od_ii) ha hb
theorem x_modN (ha : XE X a ta t1) (hb : XE X b tb t2) : XE X (.BinOp a .Mod b pos) (tOp (rI (fun _ j => j ≠ 0) fun i j => .int (i.fmod j)) ta tb) (dOp (fI (fun _ j => j ≠ 0) fun i j => .int (i.fmod j)) t1 t2) := x_op op_modN (fun _ _ => od_ii) ha hb
theorem x_pow (ha : XE X a ta t1) (hb : XE X b tb t2) : XE X (.BinOp a .Pow b pos) (tOp (rI CPow fun i j => .int (i ^ j.toNat)) ta tb) (dOp (fI CPow fun i j => .int (i ^ j.toNat)) t1 t2) := x_op op_pow (fun _ _ => od_ii) ha hb
theorem x_cat (ha : XE X a ta t1) (hb : XE X b tb t2) : XE X (.BinOp a .Add b pos) (tOp rCat ta tb) (dOp fCat t1 t2) := x_op op_cat (fun _ _ => od_cat) ha hb
theorem x_rep (ha : XE X a ta t1) (hb : XE X b tb t2) : XE X (.BinOp a .Mult b pos) (tOp rRep ta tb) (dOp fRep t1 t2) := x_op op_rep (fun _ _ => od_rep) ha hb
theorem x_neg (ha : XE X a ta t1) : XE X (.UnaryOp .USub a pos) (tUn (rU fun i => .int (-i)) ta) (dUn (fU fun i => -i) t1) := ⟨pe_un un_neg ha.pe, fun A e => de_un ud_U (ha.de A e)⟩
/-! ### comparisons -/
theorem x_cmp {op : CmpOp} {r : R2} {f} (ho : OpR X (compareOp op) r) (hd : ∀ A : Am, A.K = X.K → OpD A r f) (ha : XE X a ta t1) (hb : XE X b tb t2) (hm : behindInMarks op b = false) : XE X (.Compare a [op] [b] pos) (tOp r ta tb) (dOp f t1 t2) :=
  ⟨pe_cmpR ho ha.pe hb.pe hm, fun A e => de_op (hd A e) (ha.de A e) (hb.de A e)⟩
theorem y_cmp {op : CmpOp} {r : R2} {f} (ho : OpR X (compareOp op) r) (hd : ∀ A : Am, A.K = X.K → OpD A r f) (ha : XE X a ta t1) (hb : XE X b tb t2) (hm : behindInMarks op b = false) : XT X (.Compare a [op] [b] pos) (tTest (tOp r ta tb)) (dTst (dOp f t1 t2)) :=
  ⟨pt_cmpR ho ha.pe hb.pe hm, fun A e => dt_tst (de_op (hd A e) (ha.de A e) (hb.de A e))⟩
abbrev fLt : Rv → Rv → (Rv → Prop) → Prop := fI0 fun i j => .bool (decide (i < j))
abbrev fLe : Rv → Rv → (Rv → Prop) → Prop := fI0 fun i j => .bool (decide (i ≤ j))
abbrev fGt : Rv → Rv → (Rv → Prop) → Prop := fI0 fun i j => .bool (decide (j < i))
abbrev fGe : Rv → Rv → (Rv → Prop) → Prop := fI0 fun i j => .bool (decide (j ≤ i))
theorem x_lt (ha : XE X a ta t1) (hb : XE X b tb t2) : XE X (.Compare a [.Lt] [b] pos) (tOp (rI0 fun i j => .bl (decide (i < j))) ta tb) (dOp fLt t1 t2) := x_cmp op_lt (fun _ _ => od_ib0) ha hb (nomark _)
theorem x_le (ha : XE X a ta t1) (hb : XE X b tb t2) : XE X (.Compare a [.LtE] [b] pos) (tOp (rI0 fun i j => .bl (decide (i ≤ j))) ta tb) (dOp fLe t1 t2) := x_cmp op_le (fun _ _ => od_ib0) ha hb (nomark _)
theorem x_gt (ha : XE X a ta t1) (hb : XE X b tb t2) : XE X (.Compare a [.Gt] [b] pos) (tOp (rI0 fun i j => .bl (decide (j < i))) ta tb) (dOp fGt t1 t2) := x_cmp op_gt (fun _ _ => od_ib0) ha hb (nomark _)
theorem x_ge (ha : XE X a ta t1) (hb : XE X b tb t2) : XE X (.Compare a [.GtE] [b] pos) (tOp (rI0 fun i j => .bl (decide (j ≤ i))) ta tb) (dOp fGe t1 t2) := x_cmp op_ge (fun _ _ => od_ib0) ha hb (nomark _)
theorem y_lt (ha : XE X a ta t1) (hb : XE X b tb t2) : XT X (.Compare a [.Lt] [b] pos) (tTest (tOp (rI0 fun i j => .bl (decide (i < j))) ta tb)) (dTst (dOp fLt t1 t2)) := y_cmp op_lt (fun _ _ => od_ib0) ha hb (nomark _)
theorem y_le (ha : XE X a ta t1) (hb : XE X b tb t2) : XT X (.Compare a [.LtE] [b] pos) (tTest (tOp (rI0 fun i j => .bl (decide (i ≤ j))) ta tb)) (dTst (dOp fLe t1 t2)) := y_cmp op_le (fun _ _ => od_ib0) ha hb (nomark _)
theorem y_gt (ha : XE X a ta t1) (hb : XE X b tb t2) : XT X (.Compare a [.Gt] [b] pos) (tTest (tOp (rI0 fun i j => .bl (decide (j < i))) ta tb)) (dTst (dOp fGt t1 t2)) := y_cmp op_gt (fun _ _ => od_ib0) ha hb (nomark _)
theorem y_ge (ha : XE X a ta t1) (hb : XE X b tb t2) : XT X (.Compare a [.GtE] [b] pos) (tTest (tOp (rI0 fun i j => .bl (decide (j ≤ i))) ta tb)) (dTst (dOp fGe t1 t2)) := y_cmp op_ge (fun _ _ => od_ib0) ha hb (nomark _)
theorem x_eq {K : PySem.W.Frag} {k : Nat} (hr : Room k X.A) (ha : XE X a ta t1) (hb : XE X b tb t2) (hK : X.K = K := by rfl) : XE X (.Compare a [.Eq] [b] pos) (tOp (rEqD K) ta tb) (dOp (fEq false) t1 t2) := by
  subst hK
  exact x_cmp (op_eqD hr.units) (amK fun _ _ _ => od_eq) ha hb (nomark _)
theorem x_ne {K : PySem.W.Frag} {k : Nat} (hr : Room k X.A) (ha : XE X a ta t1) (hb : XE X b tb t2) (hK : X.K = K := by rfl) : XE X (.Compare a [.NotEq] [b] pos) (tOp (rNeD K) ta tb) (dOp (fEq true) t1 t2) := by
  subst hK
  exact x_cmp (op_neD hr.units) (amK fun _ _ _ => od_ne) ha hb (nomark _)
theorem y_eq {K : PySem.W.Frag} {k : Nat} (hr : Room k X.A) (ha : XE X a ta t1) (hb : XE X b tb t2) (hK : X.K = K := by rfl) : XT X (.Compare a [.Eq] [b] pos) (tTest (tOp (rEqD K) ta tb)) (dTst (dOp (fEq false) t1 t2)) := by
  subst hK
  exact y_cmp (op_eqD hr.units) (amK fun _ _ _ => od_eq) ha hb (nomark _)
theorem y_ne {K : PySem.W.Frag} {k : Nat} (hr : Room k X.A) (ha : XE X a ta t1) (hb : XE X b tb t2) (hK : X.K = K := by rfl) : XT X (.Compare a [.NotEq] [b] pos) (tTest (tOp (rNeD K) ta tb)) (dTst (dOp (fEq true) t1 t2)) := by
  subst hK
  exact y_cmp (op_neD hr.units) (amK fun _ _ _ => od_ne) ha hb (nomark _)
theorem x_isN {j p2} (ha : XE X a ta t1) : XE X (.Compare a [.Is] [.Constant .none j p2] pos) (tIsN ta) (dIsN false t1) := ⟨pe_cmp (pc_isN ha.pe), fun A e => de_isN (ha.de A e)⟩
theorem x_notN {j p2} (ha : XE X a ta t1) : XE X (.Compare a [.IsNot] [.Constant .none j p2] pos) (tNotN ta) (dIsN true t1) := ⟨pe_cmp (pc_notN ha.pe), fun A e => de_notN (ha.de A e)⟩
/-! ### tests -/
theorem y_of (ha : XE X a ta t1) (he : ∀ whole, isTrue a X.env whole = (do let v ← whole; standAt a.pos; holding [v] (truthy v)) := by intro _; rfl) : XT X a (tB ta) (dTst t1) := ⟨pt_val ha.pe he, fun A e => dt_tB (ha.de A e)⟩
theorem y_isN {j p2} (ha : XE X a ta t1) : XT X (.Compare a [.Is] [.Constant .none j p2] pos) (tB (tIsN ta)) (dTst (dIsN false t1)) := ⟨pt_cmp (pc_isN ha.pe), fun A e => dt_tB (de_isN (ha.de A e))⟩
theorem y_notN {j p2} (ha : XE X a ta t1) : XT X (.Compare a [.IsNot] [.Constant .none j p2] pos) (tB (tNotN ta)) (dTst (dIsN true t1)) := ⟨pt_cmp (pc_notN ha.pe), fun A e => dt_tB (de_notN (ha.de A e))⟩
variable {tA tB' : TT} {d1 d2 : TDT} {rest : List Expr}
theorem y_w (h : XW X e tA d1) : XT X e tA d1 := ⟨h.pw.pt, h.dt⟩
theorem y_and1 (h : XT X a tA d1) : XW X (.BoolOp .And [a] pos) tA d1 := ⟨pw_and1 h.pt, h.dt⟩
theorem y_or1 (h : XT X a tA d1) : XW X (.BoolOp .Or [a] pos) tA d1 := ⟨pw_or1 h.pt, h.dt⟩
theorem y_and (h : XT X a tA d1) (g : XW X (.BoolOp .And (b :: rest) pos) tB' d2) : XW X (.BoolOp .And (a :: b :: rest) pos) (tAnd tA tB') (dAndT d1 d2) := ⟨pw_and h.pt g.pw, fun A e => dt_and (h.dt A e) (g.dt A e)⟩
theorem y_or (h : XT X a tA d1) (g : XW X (.BoolOp .Or (b :: rest) pos) tB' d2) : XW X (.BoolOp .Or (a :: b :: rest) pos) (tOr tA tB') (dOrT d1 d2) := ⟨pw_or h.pt g.pw, fun A e => dt_or (h.dt A e) (g.dt A e)⟩
theorem y_not (h : XT X a tA d1) : XT X (.UnaryOp .Not a pos) (tNot tA) (dNotT d1) := ⟨pt_not h.pt, fun A e => dt_not (h.dt A e)⟩
theorem x_one {op} (h : XE X a ta t1) : XE X (.BoolOp op [a] pos) ta t1 := ⟨pe_one h.pe, h.de⟩
theorem x_and (h : XE X a ta t1) (g : XE X (.BoolOp .And (b :: rest) pos) tb t2) : XE X (.BoolOp .And (a :: b :: rest) pos) (tAndV ta tb) (dAndV t1 t2) := ⟨pe_and h.pe g.pe, fun A e => de_and (h.de A e) (g.de A e)⟩
theorem x_or (h : XE X a ta t1) (g : XE X (.BoolOp .Or (b :: rest) pos) tb t2) : XE X (.BoolOp .Or (a :: b :: rest) pos) (tOrV ta tb) (dOrV t1 t2) := ⟨pe_or h.pe g.pe, fun A e => de_or (h.de A e) (g.de A e)⟩
theorem x_not (h : XE X a ta t1) : XE X (.UnaryOp .Not a pos) (tNotV ta) (dNotV t1) := ⟨pe_not h.pe, fun A e => de_not (h.de A e)⟩
theorem x_ifx (hc : XT X c tA d1) (h : XE X a ta t1) (g : XE X b tb t2) : XE X (.IfExp c a b pos) (tIf tA ta tb) (dIf d1 t1 t2) := ⟨pe_ifExp hc.pt h.pe g.pe, fun A e => de_if (hc.dt A e) (h.de A e) (g.de A e)⟩
/-! ### arguments, displays -/
variable {tr : TA} {da : TDA} {dd : TDD} {kws : List Keyword} {nm : Option PySem.Str}
theorem xa_nil : XA X [] tNil daNil := ⟨pa_nil, fun _ _ => da_nil⟩
theorem xa_cons (h : XE X e te t) (g : XA X es tr da) (hs : starEach (e :: es) X.env = (false, eval e X.env) :: starEach es X.env := by rfl) : XA X (e :: es) (tCons te tr) (daCons t da) := ⟨pa_cons h.pe g.pa hs, fun A e => da_cons (h.de A e) (g.da A e)⟩
theorem xk_nil : XKw X [] tNil daNil := ⟨pk_nil, fun _ _ => da_nil⟩
theorem xk_cons (h : XE X e te t) (g : XKw X kws tr da) : XKw X (⟨nm, e, p⟩ :: kws) (tCons te tr) (daCons t da) := ⟨pk_cons h.pe g.pk, fun A e => da_cons (h.de A e) (g.da A e)⟩
theorem xd_nil : XD X [] tNil ddNil := ⟨pa_nil, fun _ _ => dd_nil⟩
theorem xd_cons (h : XE X e te t) (g : XD X es tr dd) (hs : starEach (e :: es) X.env = (false, eval e X.env) :: starEach es X.env := by rfl) : XD X (e :: es) (tCons te tr) (ddCons t dd) := ⟨pa_cons h.pe g.pa hs, fun A e => dd_cons (h.de A e) (g.dd A e)⟩
theorem x_tup {x1} (h : XD X es tr dd) : XE X (.Tuple es x1 pos) (tTup tr) (dTup dd) := ⟨pe_tup h.pa, fun A e => de_tup (h.dd A e)⟩
theorem x_lst (h : XD X es tr dd) : XE X (.List es pos) (tLst tr) (dLst dd) := ⟨pe_lst h.pa, fun A e => de_lst (h.dd A e)⟩
/-! ### items, slices -/
theorem x_ix {K : PySem.W.Frag} (ha : XE X a ta t1) (hb : XE X b tb t2) (hs : PlainIx b := by exact fun _ _ => rfl) (hK : X.K = K := by rfl) : XE X (.Subscript a b pos) (tOp (rIx K) ta tb) (dOp fIx t1 t2) := by
  subst hK
  exact ⟨pe_ix ix_seq ha.pe hb.pe hs, amK fun _ _ _ => de_op od_ix (ha.de _ rfl) (hb.de _ rfl)⟩
theorem x_wix {K : PySem.W.Frag} (i : Nat) {x : PySem.Str} {v : Int} {j} {p2 : Pos} (hN : X.N[i]? = some x := by rfl) (hv : Vis X.env.scope x := by first | exact Or.inl rfl | exact Or.inr (Or.inl rfl) | exact Or.inr (Or.inr rfl)) (hd : (x == ("__debug__" : PySem.Str)) = false := by decide)
    (hcd : (x == ("__classdict__" : PySem.Str)) = false := by decide) (hs : PlainIx (.Constant (.int v) j p2) := by exact fun _ _ => rfl) (hK : X.K = K := by rfl) : XE X (.Subscript (.Name x p) (.Constant (.int v) j p2) pos) (tOp (rIx K) (tVar i) (tC (.int v))) (dWix i v) := by
  subst hK
  exact ⟨pe_ix ix_seq (pv i hN hv hd hcd) pe_int hs, amK fun _ _ _ => de_wix⟩
variable {lo hi : Option Expr} {tl th : TO} {dl dh : TDO} {p2 p3 : Pos}
theorem xo_none : XO X none tNoPart doNone := ⟨po_none, fun _ _ => do_none⟩
theorem xo_some (h : XE X e te t) : XO X (some e) (tPart te) (doSome t) := ⟨po_some h.pe, fun A e => do_some (h.de A e)⟩
theorem x_sl {K : PySem.W.Frag} (h : XE X e te t) (hl : XO X lo tl dl) (hh : XO X hi th dh) (hK : X.K = K := by rfl) : XE X (.Subscript e (.Slice lo hi none p2) pos) (tSl (rSlB K) te tl th) (dSl t dl dh) := by
  subst hK
  exact ⟨pe_slice sl_both h.pe hl.po hh.po, amK fun _ _ _ => de_sl (h.de _ rfl) (hl.dO _ rfl) (hh.dO _ rfl)⟩
theorem x_revL {K : PySem.W.Frag} {k : Nat} {p1 : Pos} (h : XE X e te t) (hK : X.K = K := by rfl) : XE X (.Subscript e (.Slice none none (some (.UnaryOp .USub (.Constant (.int 1) k p1) p2)) p3) pos) (tRevL K te) (dRevL t) := by
  subst hK
  exact ⟨pe_revL h.pe, amK fun _ _ _ => de_revL (h.de _ rfl)⟩
theorem x_revT {K : PySem.W.Frag} {k : Nat} {p1 : Pos} (h : XE X e te t) (hK : X.K = K := by rfl) : XE X (.Subscript e (.Slice none none (some (.UnaryOp .USub (.Constant (.int 1) k p1) p2)) p3) pos) (tRevT K te) (dRevT t) := by
  subst hK
  exact ⟨pe_revT h.pe, amK fun _ _ _ => de_revT (h.de _ rfl)⟩
end
/-! ### calls -/
section
variable {X : Cx} {e a b : Expr} {es : List Expr} {pos p p2 : Pos} {te : TE} {t : TD} {tr : TA} {da : TDA} {k j n : Nat} {x : PySem.Str} {ps ks : List PySem.Str} {Sp : FSpec} {kws : List Keyword}
theorem x_call {K : PySem.W.Frag} (F : Has X.prog X.w K X.mg X.base k x ps n Sp) (hr : Room j X.A) (ha : XA X (e :: es) tr da) (hk : k ≤ j := by decide) (hg : Gl X x := by rfl) (hdb : (x == ("__debug__" : PySem.Str)) = false := by decide)
    (he : starEach (e :: es) X.env = (false, eval e X.env) :: starEach es X.env := by rfl) (hpl : (backTo pos (starEach es X.env)).any (·.1) = false := by rfl) (hK : X.K = K := by rfl) : XE X (.Call (.Name x p) (e :: es) [] pos) (tCall (spD K n Sp) [] L2.E0 tr) (dCall n Sp da) := by
  subst hK
  obtain ⟨f, fd, F1, F2, F3, F4⟩ := F
  exact ⟨pe_call F1 (hr.mono hk) hg F2 F3 F4 .nil pass0 ha.pa hdb he hpl, amK fun _ _ _ => de_call (ha.da _ rfl)⟩
theorem x_callK {K : PySem.W.Frag} (F : HasK X.prog X.w K X.mg X.base k x ps ks n Sp) (hr : Room j X.A) (ha : XKw X kws tr da) (hk : k ≤ j := by decide) (hg : Gl X x := by rfl) (hdb : (x == ("__debug__" : PySem.Str)) = false := by decide)
    (hall : (backToKw pos (keywordEach kws X.env)).all (·.1.isSome) = true := by rfl) (hks : (backToKw pos (keywordEach kws X.env)).filterMap (·.1) = ks := by rfl) (hpl : (backToKw pos (keywordEach kws X.env)).any (·.1.isNone) = false := by rfl) (hK : X.K = K := by rfl) : XE X (.Call (.Name x p) [] kws pos) (tCallN 0 ks.length (spD K n Sp) (fun _ zs => zs.reverse) L2.E0 tNil tr) (dCallK n Sp da) := by
  subst hK
  obtain ⟨f, fd, F1, F2, F3, F4, F5⟩ := F
  refine ⟨pe_callK0 F1 (hr.mono hk) hg F2 F3 F4 pass0 ha.pk hall hks hdb hpl, amK fun _ _ _ => ?_⟩
  rename_i H0 F0 pw
  rw [F5]
  exact de_callK (n := n) (Sp := Sp) (E := L2.E0) (ha.da ⟨X.K, H0, F0, pw⟩ rfl)
theorem x_callG {K : PySem.W.Frag} (F : HasG X.prog X.w K X.mg X.base k x ps n Sp) (hr : Room j X.A) (hgd : X.A.guards = some []) (ha : XA X (e :: es) tr da) (hk : k ≤ j := by decide) (hg : Gl X x := by rfl) (hdb : (x == ("__debug__" : PySem.Str)) = false := by decide)
    (he : starEach (e :: es) X.env = (false, eval e X.env) :: starEach es X.env := by rfl) (hpl : (backTo pos (starEach es X.env)).any (·.1) = false := by rfl) (hK : X.K = K := by rfl) : XE X (.Call (.Name x p) (e :: es) [] pos) (tCall (spD K n Sp) [] L2.E0 tr) (dCall n Sp da) := by
  subst hK
  obtain ⟨f, fd, F1, F2, F3, F4⟩ := F
  exact ⟨pe_callG F1 (hr.mono hk) hgd hg F2 F3 F4 pass0 ha.pa hdb he hpl, amK fun _ _ _ => de_call (ha.da _ rfl)⟩
/-- f(g(..)): g's new list is f's well -/
theorem x_callGW {K : PySem.W.Frag} {y : PySem.Str} (F : HasG X.prog X.w K X.mg X.base k x [y] 1 Sp) (hr : Room j X.A) (hgd : X.A.guards = some []) (ha : XE X e te t) (hk : k ≤ j := by decide) (hg : Gl X x := by rfl) (hdb : (x == ("__debug__" : PySem.Str)) = false := by decide)
    (he : starEach [e] X.env = (false, eval e X.env) :: starEach [] X.env := by rfl) (hpl : (backTo pos (starEach [] X.env)).any (·.1) = false := by rfl) (hK : X.K = K := by rfl) : XE X (.Call (.Name x p) [e] [] pos) (tCall (spD K 1 Sp) [] L2.E0 (tCons te tNil)) (dCallW Sp t) := by
  subst hK
  obtain ⟨f, fd, F1, F2, F3, F4⟩ := F
  exact ⟨pe_callG F1 (hr.mono hk) hgd hg F2 F3 F4 pass0 (pa_cons ha.pe pa_nil he) hdb he hpl, amK fun _ _ _ => de_callW (ha.de _ rfl)⟩
/-- a built-in function by its name -/
theorem x_B {id : String} {r : List V → Hp → VK → Prop} {f} (hc : CallR X (.builtin id) r) (hd : ∀ A : Am, A.K = X.K → CbD A r f) (hm : X.mg x = none) (hv : bootBuiltins x = some (.builtin id)) (ha : XA X (e :: es) tr da) (hg : Gl X x := by rfl)
    (hn : x ≠ "__name__" := by decide) (hdb : (x == ("__debug__" : PySem.Str)) = false := by decide) (he : starEach (e :: es) X.env = (false, eval e X.env) :: starEach es X.env := by rfl) (hpl : (backTo pos (starEach es X.env)).any (·.1) = false := by rfl) :
    XE X (.Call (.Name x p) (e :: es) [] pos) (tCB r tr) (dCB f da) := ⟨pe_callB hc hg hm hv ha.pa hn hdb he hpl, fun A e => de_cb (hd A e) (ha.da A e)⟩
theorem x_Y {T : String} {r : List V → Hp → VK → Prop} {f} (hc : CallR X (.type T) r) (hd : ∀ A : Am, A.K = X.K → CbD A r f) (hm : X.mg x = none) (hv : bootBuiltins x = some (.type T)) (ha : XA X (e :: es) tr da) (hg : Gl X x := by rfl)
    (hn : x ≠ "__name__" := by decide) (hdb : (x == ("__debug__" : PySem.Str)) = false := by decide) (he : starEach (e :: es) X.env = (false, eval e X.env) :: starEach es X.env := by rfl) (hpl : (backTo pos (starEach es X.env)).any (·.1) = false := by rfl) :
    XE X (.Call (.Name x p) (e :: es) [] pos) (tCB r tr) (dCB f da) := ⟨pe_callTy hc hg hm hv ha.pa hn hdb he hpl, fun A e => de_cb (hd A e) (ha.da A e)⟩
abbrev rAbs1 : List V → Hp → VK → Prop := fun xs H Q => ∃ i : Int, xs = [V.int i] ∧ Q (.int (if i < 0 then -i else i)) H
abbrev rInt1 : List V → Hp → VK → Prop := fun xs H Q => (∃ i, xs = [V.int i] ∧ Q (V.int i) H) ∨ ∃ k, xs = [V.bl k] ∧ Q (.int (if k then 1 else 0)) H
abbrev rMax2 : List V → Hp → VK → Prop := fun xs H Q => ∃ i j : Int, xs = [V.int i, V.int j] ∧ Q (.int (if j > i then j else i)) H
abbrev rMin2 : List V → Hp → VK → Prop := fun xs H Q => ∃ i j : Int, xs = [V.int i, V.int j] ∧ Q (.int (if j < i then j else i)) H
abbrev rList1 (K : PySem.W.Frag) : List V → Hp → VK → Prop := fun xs H Q => ∃ p ys, xs = [V.ref p] ∧ (SqL K H p ys ∨ SqT K H p ys) ∧ ∀ l, H l = none → Q (.ref l) (upd H l (.lst ys))
abbrev rTuple1 (K : PySem.W.Frag) : List V → Hp → VK → Prop := fun xs H Q => ∃ p ys, xs = [V.ref p] ∧ ((SqL K H p ys ∧ ∀ l, H l = none → Q (.ref l) (upd H l (.tup ys))) ∨ (SqT K H p ys ∧ Q (.ref p) H))
abbrev rDm : List V → Hp → VK → Prop := fun xs H Q => ∃ i j : Int, xs = [V.int i, V.int j] ∧ CDivP i j ∧ ∀ p, H p = none → Q (.ref p) (upd H p (.tup [.int (i / j), .int (i % j)]))
theorem x_len {K : PySem.W.Frag} (hm : X.mg "len" = none) (ha : XA X (e :: es) tr da) (hg : Gl X "len" := by rfl) (he : starEach (e :: es) X.env = (false, eval e X.env) :: starEach es X.env := by rfl) (hpl : (backTo pos (starEach es X.env)).any (·.1) = false := by rfl) (hK : X.K = K := by rfl) : XE X (.Call (.Name "len" p) (e :: es) [] pos) (tCB (fun xs H Q => ∃ p ys, xs = [.ref p] ∧ (SqL K H p ys ∨ SqT K H p ys) ∧ Q (.int ys.length) H) tr) (dCB fLen da) := by
  subst hK
  exact x_B call_len_seq (amK fun _ _ _ => cb_len) hm boot_len ha hg (by decide) (by decide) he hpl
theorem x_abs (hm : X.mg "abs" = none) (ha : XA X (e :: es) tr da) (hg : Gl X "abs" := by rfl) (he : starEach (e :: es) X.env = (false, eval e X.env) :: starEach es X.env := by rfl) (hpl : (backTo pos (starEach es X.env)).any (·.1) = false := by rfl) :
    XE X (.Call (.Name "abs" p) (e :: es) [] pos) (tCB rAbs1 tr) (dCB (f1I fun i => (i.natAbs : Int)) da) := x_B call_abs (fun _ _ => cb_abs) hm (by decide +kernel) ha hg (by decide) (by decide) he hpl
theorem x_toint (hm : X.mg "int" = none) (ha : XA X (e :: es) tr da) (hg : Gl X "int" := by rfl) (he : starEach (e :: es) X.env = (false, eval e X.env) :: starEach es X.env := by rfl) (hpl : (backTo pos (starEach es X.env)).any (·.1) = false := by rfl) :
    XE X (.Call (.Name "int" p) (e :: es) [] pos) (tCB rInt1 tr) (dCB (f1I fun i => i) da) := x_Y call_int1 (fun _ _ => cb_int1) hm (by decide +kernel) ha hg (by decide) (by decide) he hpl
theorem x_max2 (hc : X.calm = true) (hm : X.mg "max" = none) (ha : XA X (e :: es) tr da) (hg : Gl X "max" := by rfl) (he : starEach (e :: es) X.env = (false, eval e X.env) :: starEach es X.env := by rfl) (hpl : (backTo pos (starEach es X.env)).any (·.1) = false := by rfl) :
    XE X (.Call (.Name "max" p) (e :: es) [] pos) (tCB rMax2 tr) (dCB (f2I fun i j => max i j) da) := x_B (call_max2 hc) (fun _ _ => cb_max2) hm (by decide +kernel) ha hg (by decide) (by decide) he hpl
theorem x_min2 (hc : X.calm = true) (hm : X.mg "min" = none) (ha : XA X (e :: es) tr da) (hg : Gl X "min" := by rfl) (he : starEach (e :: es) X.env = (false, eval e X.env) :: starEach es X.env := by rfl) (hpl : (backTo pos (starEach es X.env)).any (·.1) = false := by rfl) :
    XE X (.Call (.Name "min" p) (e :: es) [] pos) (tCB rMin2 tr) (dCB (f2I fun i j => min i j) da) := x_B (call_min2 hc) (fun _ _ => cb_min2) hm (by decide +kernel) ha hg (by decide) (by decide) he hpl
theorem x_gcd (hm : X.mg "gcd" = some (.builtin "math.gcd")) (ha : XA X (e :: es) tr da) (hg : Gl X "gcd" := by rfl) (he : starEach (e :: es) X.env = (false, eval e X.env) :: starEach es X.env := by rfl) (hpl : (backTo pos (starEach es X.env)).any (·.1) = false := by rfl) :
    XE X (.Call (.Name "gcd" p) (e :: es) [] pos) (tCB rGcd tr) (dCB (f2I fun i j => ((Nat.gcd i.natAbs j.natAbs : Nat) : Int)) da) := ⟨pe_callBfun cr_gcd hg hm ha.pa (by decide) he hpl, fun A e => de_cb cb_gcd (ha.da A e)⟩
theorem x_list {K : PySem.W.Frag} (hm : X.mg "list" = none) (ha : XA X (e :: es) tr da) (hg : Gl X "list" := by rfl) (he : starEach (e :: es) X.env = (false, eval e X.env) :: starEach es X.env := by rfl) (hpl : (backTo pos (starEach es X.env)).any (·.1) = false := by rfl) (hK : X.K = K := by rfl) : XE X (.Call (.Name "list" p) (e :: es) [] pos) (tCB (rList1 K) tr) (dCB fList da) := by
  subst hK
  exact x_Y call_list_of (amK fun _ _ _ => cb_list) hm (by decide +kernel) ha hg (by decide) (by decide) he hpl
theorem x_tuple {K : PySem.W.Frag} (hm : X.mg "tuple" = none) (ha : XA X (e :: es) tr da) (hg : Gl X "tuple" := by rfl) (he : starEach (e :: es) X.env = (false, eval e X.env) :: starEach es X.env := by rfl) (hpl : (backTo pos (starEach es X.env)).any (·.1) = false := by rfl) (hK : X.K = K := by rfl) : XE X (.Call (.Name "tuple" p) (e :: es) [] pos) (tCB (rTuple1 K) tr) (dCB fTuple da) := by
  subst hK
  exact x_Y call_tuple_of (amK fun _ _ _ => cb_tuple) hm (by decide +kernel) ha hg (by decide) (by decide) he hpl
theorem x_all {K : PySem.W.Frag} (hc : X.calm = true) (hm : X.mg "all" = none) (ha : XA X (e :: es) tr da) (hg : Gl X "all" := by rfl) (he : starEach (e :: es) X.env = (false, eval e X.env) :: starEach es X.env := by rfl) (hpl : (backTo pos (starEach es X.env)).any (·.1) = false := by rfl) (hK : X.K = K := by rfl) : XE X (.Call (.Name "all" p) (e :: es) [] pos) (tCB (rAll K) tr) (dCB (fBools fun bs => bs.all id) da) := by
  subst hK
  exact x_B (cr_all hc) (amK fun _ _ _ => cb_all) hm (by decide +kernel) ha hg (by decide) (by decide) he hpl
theorem x_any {K : PySem.W.Frag} (hc : X.calm = true) (hm : X.mg "any" = none) (ha : XA X (e :: es) tr da) (hg : Gl X "any" := by rfl) (he : starEach (e :: es) X.env = (false, eval e X.env) :: starEach es X.env := by rfl) (hpl : (backTo pos (starEach es X.env)).any (·.1) = false := by rfl) (hK : X.K = K := by rfl) : XE X (.Call (.Name "any" p) (e :: es) [] pos) (tCB (rAny K) tr) (dCB (fBools fun bs => bs.any id) da) := by
  subst hK
  exact x_B (cr_any hc) (amK fun _ _ _ => cb_any) hm (by decide +kernel) ha hg (by decide) (by decide) he hpl
theorem x_sum {K : PySem.W.Frag} (hc : X.calm = true) (hm : X.mg "sum" = none) (ha : XA X (e :: es) tr da) (hg : Gl X "sum" := by rfl) (he : starEach (e :: es) X.env = (false, eval e X.env) :: starEach es X.env := by rfl) (hpl : (backTo pos (starEach es X.env)).any (·.1) = false := by rfl) (hK : X.K = K := by rfl) : XE X (.Call (.Name "sum" p) (e :: es) [] pos) (tCB (rSum K) tr) (dCB fSum da) := by
  subst hK
  exact x_B (cr_sum hc) (amK fun _ _ _ => cb_sum) hm (by decide +kernel) ha hg (by decide) (by decide) he hpl
theorem x_divmod (hm : X.mg "divmod" = none) (ha : XA X (e :: es) tr da) (hg : Gl X "divmod" := by rfl) (he : starEach (e :: es) X.env = (false, eval e X.env) :: starEach es X.env := by rfl) (hpl : (backTo pos (starEach es X.env)).any (·.1) = false := by rfl) :
    XE X (.Call (.Name "divmod" p) (e :: es) [] pos) (tCB rDm tr) (dCB fDivmod da) := x_B call_divmodW (fun _ _ => cb_divmod) hm (by decide +kernel) ha hg (by decide) (by decide) he hpl
theorem x_repr {K : PySem.W.Frag} {k : Nat} (hr : Room k X.A) (hgd : X.A.guards = some []) (hm : X.mg "repr" = none) (ha : XA X (e :: es) tr da) (hg : Gl X "repr" := by rfl) (he : starEach (e :: es) X.env = (false, eval e X.env) :: starEach es X.env := by rfl) (hpl : (backTo pos (starEach es X.env)).any (·.1) = false := by rfl) (hK : X.K = K := by rfl) : XE X (.Call (.Name "repr" p) (e :: es) [] pos) (tCB (rRepr K) tr) (dCB fRepr da) := by
  subst hK
  exact x_B (call_reprD hr hgd) (amK fun _ _ _ => cb_repr) hm (by decide +kernel) ha hg (by decide) (by decide) he hpl
/-- isinstance(e, T) -/
theorem x_isi {K : PySem.W.Frag} {T : String} {y : PySem.Str} (hm : X.mg "isinstance" = none) (hT : X.mg y = none) (hv : bootBuiltins y = some (.type T)) (ha : XE X e te t) (hg : Gl X "isinstance" := by rfl) (hg2 : Gl X y := by rfl) (hn : y ≠ "__name__" := by decide) (hdb : (y == ("__debug__" : PySem.Str)) = false := by decide)
    (hs1 : starEach [.Name y p2] X.env = (false, eval (.Name y p2) X.env) :: starEach [] X.env := by rfl) (hs : starEach [e, .Name y p2] X.env = (false, eval e X.env) :: starEach [.Name y p2] X.env := by rfl) (hpl : (backTo pos (starEach [.Name y p2] X.env)).any (·.1) = false := by rfl) (hK : X.K = K := by rfl) : XE X (.Call (.Name "isinstance" p) [e, .Name y p2] [] pos) (tCB (rIsi K) (tCons te (tCons (tC (.ty T)) tNil))) (dIsI T t) := by
  subst hK
  exact ⟨pe_callB call_isi hg hm (by decide +kernel) (pa_cons ha.pe (pa_cons (pe_bltn (v := .ty T) hg2 hT hv rfl hn hdb) pa_nil hs1) hs) (by decide) (by decide) hs hpl, amK fun _ _ _ => de_isi (ha.de _ rfl)⟩
end
/-! ### targets, iterators -/
section
variable {X : Cx} {e a b tg iter : Expr} {es : List Expr} {pos p p2 : Pos} {te ue : TE} {t u : TD} {x : PySem.Str} {is js : List Nat}
theorem xg_name (i : Nat) (hN : X.N.Nodup) (hi : X.N[i]? = some x := by rfl) (hx : Loc X.env.scope x := by first | exact Or.inl rfl | exact Or.inr rfl) (hf : X.fn x = true ∨ X.env.scope.names.lookup x = some .local := by first | exact .inl rfl | exact .inr rfl) : XG X (.Name x pos) (gName i) [i] (tgN i) :=
  ⟨pg_name hN hi hx hf, fun _ _ => dg_name⟩
theorem xgs_nil : XGs X [] gNil [] tgNil := ⟨pgs_nil, fun _ _ => dgs_nil⟩
theorem xgs_cons {g : TG} {gs : TGs} {d : TDG} {ds : TDGs} (h : XG X e g is d) (h2 : XGs X es gs js ds) (hs : (assignEach (e :: es) X.env).map (·.2) = assign e X.env :: (assignEach es X.env).map (·.2) := by rfl) : XGs X (e :: es) (gCons g gs) (is ++ js) (tgCons d ds) :=
  ⟨pgs_cons h.pg h2.pgs hs, fun A e => dgs_cons (h.dg A e) (h2.dgs A e)⟩
theorem xg_tup {K : PySem.W.Frag} {gs : TGs} {ds : TDGs} {n kk : Nat} (hc : X.calm = true) (h : XGs X es gs is ds) (hn : (assignEach es X.env).length = n := by rfl) (hst : (assignEach es X.env).findIdx? (·.1) = none := by rfl) (hK : X.K = K := by rfl) : XG X (.Tuple es kk pos) (gTup K n gs) is (tgTup n ds) := by
  subst hK
  exact ⟨pg_tup hc h.pgs hn hst, amK fun _ _ _ => dg_tup (h.dgs _ rfl)⟩
theorem xi_seq (h : XE X e te t) : XI X tg e (iSeq X.K te) (diSeq t) := ⟨pi_seq h.pe, amK fun _ _ _ => di_seq (h.de _ rfl)⟩
theorem xi_r1 (hm : X.mg "range" = none) (h : XE X a te t) (hg : Gl X "range" := by rfl) (hs : starEach [a] X.env = [(false, eval a X.env)] := by rfl) : XI X tg (.Call (.Name "range" p) [a] [] pos) (iRng1 (tCons te tNil)) (diRng1 t) :=
  ⟨pi_range1 hg hm (pa_cons h.pe pa_nil hs) hs, fun A e => di_rng1 (h.de A e)⟩
theorem xi_r2 (hm : X.mg "range" = none) (h : XE X a te t) (h2 : XE X b ue u) (hg : Gl X "range" := by rfl) (hs : starEach [a, b] X.env = [(false, eval a X.env), (false, eval b X.env)] := by rfl) (hs2 : starEach [b] X.env = [(false, eval b X.env)] := by rfl) :
    XI X tg (.Call (.Name "range" p) [a, b] [] pos) (iRng2 (tCons te (tCons ue tNil))) (diRng2 t u) :=
  ⟨pi_range2 hg hm (pa_cons h.pe (pa_cons h2.pe pa_nil hs2) (by rw [hs, hs2])) hs hs2, fun A e => di_rng2 (h.de A e) (h2.de A e)⟩
theorem xi_revR (hm : X.mg "reversed" = none) (hm2 : X.mg "range" = none) (h : XE X a te t) (hg : Gl X "reversed" := by rfl) (hg2 : Gl X "range" := by rfl) (na : starEach [a] X.env = (false, eval a X.env) :: starEach [] X.env := by rfl)
    (hs : starEach [.Call (.Name "range" p2) [a] [] p] X.env = (false, eval (.Call (.Name "range" p2) [a] [] p) X.env) :: starEach [] X.env := by rfl) {p4 : Pos} : XI X tg (.Call (.Name "reversed" p4) [.Call (.Name "range" p2) [a] [] p] [] pos) (iRevR (tRg1 te)) (diRevR t) :=
  ⟨pi_revR hg hm (prg_1 hg2 hm2 h.pe na) hs, fun A e => di_revR (h.de A e)⟩
theorem xi_rev (hm : X.mg "reversed" = none) (h : XE X e te t) (hg : Gl X "reversed" := by rfl) (hs : starEach [e] X.env = (false, eval e X.env) :: starEach [] X.env := by rfl) : XI X tg (.Call (.Name "reversed" p) [e] [] pos) (RT.iRevA X.K te) (diRev t) :=
  ⟨RT.pi_revA hg hm h.pe hs, amK fun _ _ _ => di_rev (h.de _ rfl)⟩
theorem xi_zip {elts : List Expr} {kk : Nat} {tpos : Pos} (hm : X.mg "zip" = none) (h : XE X a te t) (h2 : XE X b ue u) (hg : Gl X "zip" := by rfl) (hs : starEach [a, b] X.env = (false, eval a X.env) :: starEach [b] X.env := by rfl) (hs2 : starEach [b] X.env = (false, eval b X.env) :: starEach [] X.env := by rfl)
    (hpl : (backTo pos (starEach [b] X.env)).any (·.1) = false := by rfl) : XI X (.Tuple elts kk tpos) (.Call (.Name "zip" p) [a, b] [] pos) (RZ.iZipA X.K (tCons te (tCons ue tNil))) (diZip t u) :=
  ⟨RZ.pi_zipA hg hm (pa_cons h.pe (pa_cons h2.pe pa_nil hs2) hs) hs hpl, amK fun _ _ _ => di_zip (h.de _ rfl) (h2.de _ rfl)⟩
theorem xi_enumT {elts : List Expr} {kk : Nat} {tpos : Pos} (hm : X.mg "enumerate" = none) (h : XE X e te t) (hg : Gl X "enumerate" := by rfl) (hs : starEach [e] X.env = [(false, eval e X.env)] := by rfl) : XI X (.Tuple elts kk tpos) (.Call (.Name "enumerate" p) [e] [] pos) (iEnumT X.K (tCons te tNil)) (diEnumT t) :=
  ⟨pi_enumT hg hm (pa_cons h.pe pa_nil hs) hs, amK fun _ _ _ => di_enumT (h.de _ rfl)⟩
/-! ### comprehensions -/
theorem xif_nil : XIf X [] tYes dYes := ⟨pts_nil, fun _ _ => dt_yes⟩
theorem xif_one {c : Expr} {tt : TT} {d : TDT} (h : XT X c tt d) : XIf X [c] tt d := ⟨pts_one h.pt, h.dt⟩
theorem x_lc {vs : List Nat} {elt : Expr} {ifs : List Expr} {scope : Scope} {own : List (PySem.Str × Nat)} {wi : TI} {g : TG} {tt : TT} {ti : TDI} {dg : TDG} {dt : TDT} (hc : X.calm = true) (hN : X.N.Nodup) (hi : XI X tg iter wi ti) (ok : BlkOk X.N X.env.scope scope own)
    (hg : ∀ (s : Shared) (H : Hp) (C : Addr) (cl : List (PySem.Str × Addr)) (fp : List Addr), XG (X.blk s H scope (compEnvC scope cl C X.env) fp) tg g is dg) (ht : ∀ (s : Shared) (H : Hp) (C : Addr) (cl : List (PySem.Str × Addr)) (fp : List Addr), XIf (X.blk s H scope (compEnvC scope cl C X.env) fp) ifs tt dt)
    (he : ∀ (s : Shared) (H : Hp) (C : Addr) (cl : List (PySem.Str × Addr)) (fp : List Addr), XE (X.blk s H scope (compEnvC scope cl C X.env) fp) elt te t) (own_ : ∀ k ∈ is, k ∈ vs := by decide) (hv : own.map (·.2) = vs := by rfl) (hs : ∀ x, foldedSetIterable iter X.env x = pure x := by intro _; rfl) :
    XE X (.ListComp elt [⟨tg, iter, ifs, 0⟩] scope pos) (tLc wi g tt te vs) (dComp vs ti dg dt t) := by
  subst hv
  exact ⟨pe_lc hc hN hi.pi ok (fun s H C cl fp => (hg s H C cl fp).pg) (fun s H C cl fp => (ht s H C cl fp).pts) (fun s H C cl fp => (he s H C cl fp).pe) hs,
   fun A e => de_comp (hi.di A e) ((hg X.s_0 X.H_0 0 [] []).dg A e) own_ ((ht X.s_0 X.H_0 0 [] []).dt A e) ((he X.s_0 X.H_0 0 [] []).de A e)⟩
end
/-! ### statements -/
section
variable {X : Cx} {e a b c o tg iter : Expr} {es : List Expr} {pos p p2 : Pos} {te ue : TE} {t u : TD} {x y : PySem.Str} {is js : List Nat} {st : Stmt} {rest body els : List Stmt} {ts us : TS} {d d2 : TSD}
theorem xs_nil : XSs X [] tNext dNext := ⟨pss_nil, fun _ _ => ds_next⟩
theorem xs_one (h : XS X st ts d) : XSs X [st] ts d := ⟨pss_one h.ps, h.ds⟩
theorem xs_cons (h : XS X st ts d) (g : XSs X rest us d2) : XSs X (st :: rest) (tSeq ts us) (dSeq d d2) := ⟨pss_cons h.ps g.pss, fun A e => ds_seq (h.ds A e) (g.ds A e)⟩
theorem xs_fz (i : Nat) (h : XSs X rest us d) : XSs X rest us (dFz i d) := ⟨h.pss, fun A e => ds_fz (h.ds A e)⟩
theorem xs_never : XSs X rest tNever dNever := ⟨pss_never, fun _ _ => ds_never⟩
theorem w_never : XS X st tNever dNever := ⟨ps_never, fun _ _ => ds_never⟩
theorem w_pass : XS X (.Pass pos) tNext dNext := ⟨ps_pass, fun _ _ => ds_next⟩
theorem w_break : XS X (.Break pos) tBreak dBreak := ⟨ps_break, fun _ _ => ds_break⟩
theorem w_cont : XS X (.Continue pos) tCont dCont := ⟨ps_continue, fun _ _ => ds_cont⟩
theorem w_ret (h : XE X e te t) : XS X (.Return (some e) pos) (tRet te) (dRet t) := ⟨ps_ret h.pe, fun A e => ds_ret (h.de A e)⟩
theorem w_retV (i : Nat) (hN : X.N[i]? = some x := by rfl) (hv : Vis X.env.scope x := by first | exact Or.inl rfl | exact Or.inr (Or.inl rfl) | exact Or.inr (Or.inr rfl)) (hd : (x == ("__debug__" : PySem.Str)) = false := by decide)
    (hcd : (x == ("__classdict__" : PySem.Str)) = false := by decide) : XS X (.Return (some (.Name x p)) pos) (tRet (tVar i)) (dRetV i) := ⟨ps_ret (pv i hN hv hd hcd), fun _ _ => ds_retV⟩
theorem w_retN : XS X (.Return none pos) tRetN dRetN := ⟨ps_retN, fun _ _ => ds_retN⟩
theorem w_doc {z : PySem.Str} {j} : XS X (.Expr (.Constant (.str z) j p) pos) tNext dNext := ⟨ps_doc, fun _ _ => ds_next⟩
theorem w_set (i : Nat) (hN : X.N.Nodup) (he : XE X e te t) (hi : X.N[i]? = some x := by rfl) (hx : Loc X.env.scope x := by first | exact Or.inl rfl | exact Or.inr rfl) (hs : swapsWith e (some (.Name x p)) pos.line X.env = pure false := by rfl)
    (hf : X.fn x = true ∨ X.env.scope.names.lookup x = some .local := by first | exact .inl rfl | exact .inr rfl) : XS X (.Assign [.Name x p] e pos) (tAsg te (gName i)) (dSet i t) := ⟨ps_set hN hi hx he.pe hs hf, fun A e => ds_set (he.de A e)⟩
theorem w_setLc (i : Nat) {vs : List Nat} {elt : Expr} {ifs : List Expr} {scope : Scope} {own : List (PySem.Str × Nat)} {wi : TI} {g : TG} {tt : TT} {ti : TDI} {dg : TDG} {dt : TDT} (hc : X.calm = true) (hN : X.N.Nodup) (hi : XI X tg iter wi ti) (ok : BlkOk X.N X.env.scope scope own)
    (hg : ∀ (s : Shared) (H : Hp) (C : Addr) (cl : List (PySem.Str × Addr)) (fp : List Addr), XG (X.blk s H scope (compEnvC scope cl C X.env) fp) tg g is dg) (ht : ∀ (s : Shared) (H : Hp) (C : Addr) (cl : List (PySem.Str × Addr)) (fp : List Addr), XIf (X.blk s H scope (compEnvC scope cl C X.env) fp) ifs tt dt)
    (he : ∀ (s : Shared) (H : Hp) (C : Addr) (cl : List (PySem.Str × Addr)) (fp : List Addr), XE (X.blk s H scope (compEnvC scope cl C X.env) fp) elt te t) (own_ : ∀ k ∈ is, k ∈ vs := by decide) (hv : own.map (·.2) = vs := by rfl) (hy : X.N[i]? = some y := by rfl) (hyl : X.env.scope.names.lookup y = some .local := by rfl)
    (hsw : swapsWith (.ListComp elt [⟨tg, iter, ifs, 0⟩] scope p2) (some (.Name y p)) pos.line X.env = pure true := by rfl) (hs : ∀ x, foldedSetIterable iter X.env x = pure x := by intro _; rfl) :
    XS X (.Assign [.Name y p] (.ListComp elt [⟨tg, iter, ifs, 0⟩] scope p2) pos) (tAsg (tLc wi g tt te vs) (gName i)) (dSet i (dComp vs ti dg dt t)) := by
  subst hv
  exact ⟨ps_setLc hc hN hy hyl hsw hi.pi ok (fun s H C cl fp => (hg s H C cl fp).pg) (fun s H C cl fp => (ht s H C cl fp).pts) (fun s H C cl fp => (he s H C cl fp).pe) hs,
   fun A e => ds_set (de_comp (hi.di A e) ((hg X.s_0 X.H_0 0 [] []).dg A e) own_ ((ht X.s_0 X.H_0 0 [] []).dt A e) ((he X.s_0 X.H_0 0 [] []).de A e))⟩
theorem w_par (i j : Nat) {px py pt : Pos} {kt k2 : Nat} (hc : X.calm = true) (hN : X.N.Nodup) (ha : XE X a te t) (hb : XE X b ue u) (hi : X.N[i]? = some x := by rfl) (hj : X.N[j]? = some y := by rfl) (hij : i ≠ j := by decide)
    (hx : X.env.scope.names.lookup x = some .local := by rfl) (hy : X.env.scope.names.lookup y = some .local := by rfl) (hs1 : starEach [a, b] X.env = (false, eval a X.env) :: starEach [b] X.env := by rfl) (hs2 : starEach [b] X.env = (false, eval b X.env) :: starEach [] X.env := by rfl)
    (hw : swappedStores [.Tuple [.Name x px, .Name y py] kt pt] (.Tuple [a, b] k2 p2) X.env = pure (some [x, y]) := by rfl) (hs : swapsWithSole [.Tuple [.Name x px, .Name y py] kt pt] (.Tuple [a, b] k2 p2) pos.line X.env = pure false := by rfl) :
    XS X (.Assign [.Tuple [.Name x px, .Name y py] kt pt] (.Tuple [a, b] k2 p2) pos) (tPar i j (tCons te (tCons ue tNil))) (dPar i j t u) :=
  ⟨ps_par hc hN hi hj hij hx hy (pa_cons ha.pe (pa_cons hb.pe pa_nil hs2) hs1) hw hs, fun A e => ds_par (ha.de A e) (hb.de A e) hij⟩
theorem w_asg {g : TG} {dg : TDG} (he : XE X e te t) (hg : XG X tg g is dg) (hs : swapsWithSole [tg] e pos.line X.env = pure false := by rfl) (hw : swappedStores [tg] e X.env = pure none := by rfl) (h1 : (assignEach [tg] X.env).map (·.2) = [assign tg X.env] := by rfl) :
    XS X (.Assign [tg] e pos) (tAsg te g) (dAsg t dg) := ⟨ps_asg he.pe hg.pg hs hw h1, fun A e => ds_asg (he.de A e) (hg.dg A e)⟩
theorem w_if {tc : TT} {dc : TDT} (hc : XT X c tc dc) (ha : XSs X body ts d) (hb : XSs X els us d2) : XS X (.If c body els pos) (tIfS tc ts us) (dIfS dc d d2) := ⟨ps_if hc.pt ha.pss hb.pss, fun A e => ds_if (hc.dt A e) (ha.ds A e) (hb.ds A e)⟩
theorem w_for {wi : TI} {ti : TDI} {g : TG} {dg : TDG} (hp : X.xe = fun _ _ => False) (hc : X.calm = true) (hi : XI X tg iter wi ti) (hg : XG X tg g is dg) (hb : XSs X body ts d) (hs : ∀ x, foldedSetIterable iter X.env x = pure x := by intro _; rfl) :
    XS X (.For tg iter body [] pos) (tFor wi g ts) (dFor ti dg d) := ⟨ps_for (by rw [hp]; exact PassesOwn.never) hc hi.pi hg.pg hb.pss hs, fun A e => ds_for (hi.di A e) (hg.dg A e) (hb.ds A e)⟩
theorem w_while {tc : TT} {dc : TDT} (hp : X.xe = fun _ _ => False) (hc : XT X c tc dc) (hb : XSs X body ts d) : XS X (.While c body [] pos) (tWhile tc ts) (dWhile dc d) := ⟨ps_while (by rw [hp]; exact PassesOwn.never) hc.pt hb.pss, fun A e => ds_while (hc.dt A e) (hb.ds A e)⟩
/-! ### lists that change; the well -/
theorem w_append (i : Nat) {apos cpos np : Pos} (he : XE X e te t) (hN : X.N[i]? = some x := by rfl) (hv : Vis X.env.scope x := by first | exact Or.inl rfl | exact Or.inr (Or.inl rfl) | exact Or.inr (Or.inr rfl)) (hd : (x == ("__debug__" : PySem.Str)) = false := by decide)
    (hcd : (x == ("__classdict__" : PySem.Str)) = false := by decide) (hbase : attributeBase (.Name x np) "append" X.env (eval (.Name x np) X.env) = eval (.Name x np) X.env := by rfl)
    (hfew : ((backTo cpos (starEach [e] X.env)).all (fun x => !x.1) && (backToKw cpos (keywordEach [] X.env)).all (fun x => x.1.isSome) && decide ([e].length + ([] : List Keyword).length + (if ([] : List Keyword).isEmpty then 0 else 1) < 30)) = true := by rfl)
    (hline : (apos.endLine == cpos.line) = true := by rfl) (hs : starEach [e] X.env = (false, eval e X.env) :: starEach [] X.env := by rfl) (hplain : (backTo cpos (starEach [] X.env)).any (·.1) = false := by rfl)
    (hsw : swapsWith (.Call (.Attribute (.Name x np) "append" apos) [e] [] cpos) none pos.line X.env = pure false := by rfl) :
    XS X (.Expr (.Call (.Attribute (.Name x np) "append" apos) [e] [] cpos) pos) (tDrop (tBM X.K "list" rAppend (tVar i) (tCons te tNil))) (dAppend i t) :=
  ⟨ps_expr (pe_bm PySem.F.plainAttrs_list PySem.F.slot_list_append PySem.F.type_list_append mt_append (pv i hN hv hd hcd) (pa_cons he.pe pa_nil hs) hbase hfew hline hs hplain) hsw, amK fun _ _ _ => ds_append (he.de _ rfl)⟩
theorem w_pop (i : Nat) {apos cpos np : Pos} (hN : X.N[i]? = some x := by rfl) (hv : Vis X.env.scope x := by first | exact Or.inl rfl | exact Or.inr (Or.inl rfl) | exact Or.inr (Or.inr rfl)) (hd : (x == ("__debug__" : PySem.Str)) = false := by decide)
    (hcd : (x == ("__classdict__" : PySem.Str)) = false := by decide) (hbase : attributeBase (.Name x np) "pop" X.env (eval (.Name x np) X.env) = eval (.Name x np) X.env := by rfl)
    (hline : (apos.endLine == cpos.line) = true := by rfl) (hsw : swapsWith (.Call (.Attribute (.Name x np) "pop" apos) [] [] cpos) none pos.line X.env = pure false := by rfl) :
    XS X (.Expr (.Call (.Attribute (.Name x np) "pop" apos) [] [] cpos) pos) (tDrop (tBM0 X.K "list" rPop (tVar i))) (dPop i) :=
  ⟨ps_expr (pe_bm0 PySem.F.plainAttrs_list PySem.F.slot_list_pop PySem.F.type_list_pop mt_pop (pv i hN hv hd hcd) hbase hline) hsw, amK fun _ _ _ => ds_pop⟩
end
end DL
/-! DL14: a def of the text and its promise; the head's facts with tuples of the module. -/
namespace DL
open PySem PySem.Spec PyProof.Rows L2
section
variable {P : Program} {w : World} {K : PySem.W.Frag} {mg : PySem.Str → Option Value} {base : Heap} {x : PySem.Str} {st : Stmt} {f : Addr} {fd : FuncData} {N ps ks : List PySem.Str} {k : Nat} {Sp : FSpec} {t : TSD}
abbrev FnS (K : PySem.W.Frag) (x : PySem.Str) (st : Stmt) (f : Addr) (fd : FuncData) : Prop := FunD K x x (defArgs st) (defBody st) (defScope st) [] [] f fd
abbrev cxF (P : Program) (w : World) (K : PySem.W.Frag) (mg : PySem.Str → Option Value) (base : Heap) (N : List PySem.Str) (x : PySem.Str) (st : Stmt) (f : Addr) (cdv : Value) (A : Around) (outer : List Env) (s : Shared) (H : Hp) (E : XK) : Cx :=
  (cxOf CX0 P w K mg base N x (defScope st) f cdv A outer s H E).nox
/-- how values are bound -/
def BindAll (x : PySem.Str) (st : Stmt) (ps : List PySem.Str) : Prop := ∀ (kV doc pm : Value) (an : Option Addr) (cdv ct : Value) (us : List Value), us.length = ps.length →
  bindArgs (PySem.W.fnOf x x (defArgs st) (defBody st) (defScope st) .none kV doc pm an cdv ct) ⟨us, []⟩ = pure (ps.zip us)
def BindRev (x : PySem.Str) (st : Stmt) (ps ks : List PySem.Str) : Prop := ∀ (kV doc pm : Value) (an : Option Addr) (cdv ct : Value) (ws : List Value), ws.length = ks.length →
  bindArgs (PySem.W.fnOf x x (defArgs st) (defBody st) (defScope st) .none kV doc pm an cdv ct) ⟨[], ks.zip ws⟩ = pure (ps.zip ws.reverse)
theorem fn_run (F : FnS K x st f fd) (S : FnScope N ps (defScope st))
    (hb : ∀ (cdv : Value) (A : Around) (outer : List Env) (s : Shared) (H : Hp) (E : XK), Room k (cxF P w K mg base N x st f cdv A outer s H E).A → ∃ ts, XSs (cxF P w K mg base N x st f cdv A outer s H E) (defBody st) ts t)
    (hp : ∀ rs w k, rs.length = ps.length → Sp rs w k → t { nx := fun s => k (.d .none) s.w, rt := k } ⟨initS N.length rs, w⟩) : FnOk P w K mg base CX0 (k + 1) f fd ps (spD K ps.length Sp) :=
  F.ok S spD_len fun cdv A outer s H vs Q E hr h => by
    obtain ⟨ts, hx⟩ := hb cdv A outer s H E hr
    exact ⟨ts, PSs.nox hx.pss, dfn_run (fun A e => hx.ds A e) hp vs H Q E h⟩
theorem has_of (F : FnS K x st f fd) (S : FnScope N ps (defScope st)) (hm : mg x = some (.ref f)) (hbd : BindAll x st ps)
    (hb : ∀ (cdv : Value) (A : Around) (outer : List Env) (s : Shared) (H : Hp) (E : XK), Room k (cxF P w K mg base N x st f cdv A outer s H E).A → ∃ ts, XSs (cxF P w K mg base N x st f cdv A outer s H E) (defBody st) ts t)
    (hp : ∀ rs w k, rs.length = ps.length → Sp rs w k → t { nx := fun s => k (.d .none) s.w, rt := k } ⟨initS N.length rs, w⟩) : Has P w K mg base (k + 1) x ps ps.length Sp :=
  ⟨f, fd, fn_run F S hb hp, hm, F.kp, F.bindsN hbd⟩
theorem hasK_of (F : FnS K x st f fd) (S : FnScope N ps (defScope st)) (hm : mg x = some (.ref f)) (hbd : BindRev x st ps ks) (hl : ks.length = ps.length)
    (hb : ∀ (cdv : Value) (A : Around) (outer : List Env) (s : Shared) (H : Hp) (E : XK), Room k (cxF P w K mg base N x st f cdv A outer s H E).A → ∃ ts, XSs (cxF P w K mg base N x st f cdv A outer s H E) (defBody st) ts t)
    (hp : ∀ rs w k, rs.length = ps.length → Sp rs w k → t { nx := fun s => k (.d .none) s.w, rt := k } ⟨initS N.length rs, w⟩) : HasK P w K mg base (k + 1) x ps ks ps.length Sp := by
  refine ⟨f, fd, fn_run F S hb hp, hm, F.kp, kb_rev fun s ws l => ?_, hl⟩
  obtain ⟨oc, od, dV, kV, doc, pm, an, cdv, ct, osl, e, lk, hcd, hD, hK⟩ := F.ex
  subst e
  rcases hD with ⟨_, rfl⟩ | ⟨e, _⟩
  · exact .of_eq (hbd kV doc pm an cdv ct ws l)
  · exact absurd rfl e
theorem hasG_of (F : FnS K x st f fd) (S : FnScope N ps (defScope st)) (hm : mg x = some (.ref f)) (hbd : BindAll x st ps)
    (hb : ∀ (cdv : Value) (A : Around) (outer : List Env) (s : Shared) (H : Hp) (E : XK), Room k (cxF P w K mg base N x st f cdv A outer s H E).A → (cxF P w K mg base N x st f cdv A outer s H E).A.guards = some [] →
      ∃ ts, XSs (cxF P w K mg base N x st f cdv A outer s H E) (defBody st) ts t)
    (hp : ∀ rs w k, rs.length = ps.length → Sp rs w k → t { nx := fun s => k (.d .none) s.w, rt := k } ⟨initS N.length rs, w⟩) : HasG P w K mg base (k + 1) x ps ps.length Sp := by
  refine ⟨f, fd, okG F S spD_len fun cdv A outer s H vs Q E hr hgd h => ?_, hm, F.kp, F.bindsN hbd⟩
  obtain ⟨ts, hx⟩ := hb cdv A outer s H E hr hgd
  exact ⟨ts, PSs.nox hx.pss, dfn_run (fun A e => hx.ds A e) hp vs H Q E h⟩
end
/-! ### the head's facts -/
open He in
abbrev AlU : Type := AlD × List Bool
abbrev TpD : Type := PySem.Str × List He.Dv
def obsU (fa : List He.Fa) (fn : List He.DefD) (tp : List TpD) (K : PySem.W.Frag) : AlU := (He.obsD fa fn K, tp.map fun t => He.tupB K t.1 t.2)
def valU (fn : List He.DefD) (tp : List TpD) : AlU := (He.valD fn, tp.map fun _ => true)
def SaysU (fa : List He.Fa) (fn : List He.DefD) (tp : List TpD) (K : PySem.W.Frag) : Prop := obsU fa fn tp K = valU fn tp
def obsUG (n : Nat) (fa : List He.Fa) (fn : List He.DefD) (tp : List TpD) (g : Addr → Option Obj) : AlU := obsU fa fn tp (He.frG g (He.asD g n))
def hookU (n : Nat) (fa : List He.Fa) (fn : List He.DefD) (tp : List TpD) : PySem.W.Hook where
  α := AlU
  obs := fun s => obsUG n fa fn tp s.heap.get?
  val := fun _ => valU fn tp
  says := fun _ h => ∃ K : PySem.W.Frag, K.In h ∧ SaysU fa fn tp K
  of := fun _ _ e => ⟨_, He.frG_in, e⟩
  keeps := fun _ _ _ h k => h.elim fun K q => ⟨K, PySem.W.Frag.In.keeps q.1 k, q.2⟩
theorem obsUG_eq {n : Nat} {fa : List He.Fa} {fn : List He.DefD} {tp : List TpD} {g : Addr → Option Obj} {s : Shared} (h : ∀ a, g a = s.heap.get? a) : obsUG n fa fn tp g = (hookU n fa fn tp).obs s := by
  have e : g = s.heap.get? := funext h
  subst e
  rfl
section
variable {fa : List He.Fa} {fn : List He.DefD} {tp : List TpD} {K : PySem.W.Frag}
theorem SaysU.d (c : SaysU fa fn tp K) : He.SaysD fa fn K := congrArg (fun z : AlU => z.1) c
theorem SaysU.tup (c : SaysU fa fn tp K) (i : Nat) {t : TpD} (h : tp[i]? = some t := by rfl) : He.tupB K t.1 t.2 = true := by
  have e : tp.map (fun t => He.tupB K t.1 t.2) = tp.map fun _ => true := congrArg (fun z : AlU => z.2) c
  have e2 : (tp.map fun t => He.tupB K t.1 t.2)[i]? = (tp.map fun _ => true)[i]? := by rw [e]
  rw [List.getElem?_map, List.getElem?_map, h] at e2
  exact Option.some.inj e2
theorem SaysU.def_ (c : SaysU fa fn tp K) (i : Nat) {d : He.DefD} (h : fn[i]? = some d := by rfl) : ∃ fd, FunD K d.name d.qual d.params d.body d.scope (d.dvs K) (d.kws K) (He.fAd K d.at_) fd := c.d.def_ i h
theorem SaysU.fact (c : SaysU fa fn tp K) (i : Nat) {f : He.Fa} (h : fa[i]? = some f := by rfl) : f.ok K = true := c.d.fact i h
end
theorem kv_tup {K : PySem.W.Frag} {x : PySem.Str} {vs : List He.Dv} {ds : List PyData} (h : He.tupB K x vs = true) (ha : ∀ F, DpAll K F (vs.map (He.Dv.v K)) ds) : Kv K (.ref (He.ga K x)) (.tuple ds) := fun F => .tup (He.tupB_ok h F) (ha F)
end DL
/-! DL15: // by any divisor; stores into lists, into the well; words for the proofs over data. -/
namespace DL
open PySem PySem.Spec PyProof.Rows L2
/-- // by a divisor other than 0 that is below 2 ^ 9000 -/
def CDivX (_ j : Int) : Prop := j ≠ 0 ∧ j.natAbs.log2 < 9000
section
variable {X : Cx}
theorem op_fdivX : OpR X (binaryOp .FloorDiv) (rI CDivX fun i j => .int (i.fdiv j)) := opI fun _ _ _ _ _ _ _ hc q => floordiv_int hc.1 q (.inl (PyProof.noPylong_of_log2 hc.2))
variable {a b e i : Expr} {pos p p2 ps : Pos} {te ta tb ti : TE} {t t1 t2 : TD} {x y : PySem.Str}
theorem x_fdivX (ha : XE X a ta t1) (hb : XE X b tb t2) : XE X (.BinOp a .FloorDiv b pos) (tOp (rI CDivX fun i j => .int (i.fdiv j)) ta tb) (dOp (fI CDivX fun i j => .int (i.fdiv j)) t1 t2) := x_op op_fdivX (fun _ _ => od_ii) ha hb
theorem w_setIx (j : Nat) (he : XE X e te t) (hi : XE X i ti t1) (hN : X.N[j]? = some x := by rfl) (hv : Vis X.env.scope x := by first | exact Or.inl rfl | exact Or.inr (Or.inl rfl) | exact Or.inr (Or.inr rfl)) (hd : (x == ("__debug__" : PySem.Str)) = false := by decide)
    (hcd : (x == ("__classdict__" : PySem.Str)) = false := by decide)
    (ha : ∀ v, assign (.Subscript (.Name x p2) i ps) X.env v = (do
      let ov ← holding [v] (eval (.Name x p2) X.env)
      let iv ← holding [v, ov] (eval i X.env)
      standAt ps
      holding [v, ov, iv] (setItem ov iv v)
      release [v, ov, iv] []) := by intro _; rfl)
    (hs : swapsWithSole [.Subscript (.Name x p2) i ps] e pos.line X.env = pure false := by rfl) (hw : swappedStores [.Subscript (.Name x p2) i ps] e X.env = pure none := by rfl)
    (h1 : (assignEach [.Subscript (.Name x p2) i ps] X.env).map (·.2) = [assign (.Subscript (.Name x p2) i ps) X.env] := by rfl) :
    XS X (.Assign [.Subscript (.Name x p2) i ps] e pos) (tAsg te (gSub (tVar j) ti rSetL)) (dSetIx j t1 t) :=
  ⟨ps_asg he.pe (pg_sub (pv j hN hv hd hcd) hi.pe set_list ha) hs hw h1, fun A e => ds_setIx (hi.de A e) (he.de A e)⟩
theorem w_wset (j : Nat) {c : Int} {kk : Nat} {p3 : Pos} (he : XE X e te t) (hN : X.N[j]? = some x := by rfl) (hv : Vis X.env.scope x := by first | exact Or.inl rfl | exact Or.inr (Or.inl rfl) | exact Or.inr (Or.inr rfl)) (hd : (x == ("__debug__" : PySem.Str)) = false := by decide)
    (hcd : (x == ("__classdict__" : PySem.Str)) = false := by decide)
    (ha : ∀ v, assign (.Subscript (.Name x p2) (.Constant (.int c) kk p3) ps) X.env v = (do
      let ov ← holding [v] (eval (.Name x p2) X.env)
      let iv ← holding [v, ov] (eval (.Constant (.int c) kk p3) X.env)
      standAt ps
      holding [v, ov, iv] (setItem ov iv v)
      release [v, ov, iv] []) := by intro _; rfl)
    (hs : swapsWithSole [.Subscript (.Name x p2) (.Constant (.int c) kk p3) ps] e pos.line X.env = pure false := by rfl) (hw : swappedStores [.Subscript (.Name x p2) (.Constant (.int c) kk p3) ps] e X.env = pure none := by rfl)
    (h1 : (assignEach [.Subscript (.Name x p2) (.Constant (.int c) kk p3) ps] X.env).map (·.2) = [assign (.Subscript (.Name x p2) (.Constant (.int c) kk p3) ps) X.env] := by rfl) :
    XS X (.Assign [.Subscript (.Name x p2) (.Constant (.int c) kk p3) ps] e pos) (tAsg te (gSub (tVar j) (tC (.int c)) rSetL)) (dWset j c t) :=
  ⟨ps_asg he.pe (pg_sub (pv j hN hv hd hcd) pe_int set_list ha) hs hw h1, fun A e => ds_wset (he.de A e)⟩
theorem w_wset2 (j l : Nat) {c : Int} {kk k2 : Nat} {p3 p4 p5 : Pos} (hc : X.calm = true) (hnd : X.N.Nodup) (he : XE X e te t) (hN : X.N[j]? = some x := by rfl) (hN2 : X.N[l]? = some y := by rfl) (hv : Vis X.env.scope x := by first | exact Or.inl rfl | exact Or.inr (Or.inl rfl) | exact Or.inr (Or.inr rfl))
    (hx : Loc X.env.scope y := by first | exact Or.inl rfl | exact Or.inr rfl) (hf : X.fn y = true ∨ X.env.scope.names.lookup y = some .local := by first | exact .inl rfl | exact .inr rfl) (hd : (x == ("__debug__" : PySem.Str)) = false := by decide)
    (hcd : (x == ("__classdict__" : PySem.Str)) = false := by decide) (hjl : j ≠ l := by decide)
    (ha : ∀ v, assign (.Subscript (.Name x p2) (.Constant (.int c) kk p3) ps) X.env v = (do
      let ov ← holding [v] (eval (.Name x p2) X.env)
      let iv ← holding [v, ov] (eval (.Constant (.int c) kk p3) X.env)
      standAt ps
      holding [v, ov, iv] (setItem ov iv v)
      release [v, ov, iv] []) := by intro _; rfl)
    (ha1 : (assignEach [.Name y p5] X.env).map (·.2) = assign (.Name y p5) X.env :: (assignEach [] X.env).map (·.2) := by rfl)
    (ha2 : (assignEach [.Subscript (.Name x p2) (.Constant (.int c) kk p3) ps, .Name y p5] X.env).map (·.2) = assign (.Subscript (.Name x p2) (.Constant (.int c) kk p3) ps) X.env :: (assignEach [.Name y p5] X.env).map (·.2) := by rfl)
    (hn : (assignEach [.Subscript (.Name x p2) (.Constant (.int c) kk p3) ps, .Name y p5] X.env).length = 2 := by rfl) (hst : (assignEach [.Subscript (.Name x p2) (.Constant (.int c) kk p3) ps, .Name y p5] X.env).findIdx? (·.1) = none := by rfl)
    (hs : swapsWithSole [.Tuple [.Subscript (.Name x p2) (.Constant (.int c) kk p3) ps, .Name y p5] k2 p4] e pos.line X.env = pure false := by rfl) (hw : swappedStores [.Tuple [.Subscript (.Name x p2) (.Constant (.int c) kk p3) ps, .Name y p5] k2 p4] e X.env = pure none := by rfl)
    (h1 : (assignEach [.Tuple [.Subscript (.Name x p2) (.Constant (.int c) kk p3) ps, .Name y p5] k2 p4] X.env).map (·.2) = [assign (.Tuple [.Subscript (.Name x p2) (.Constant (.int c) kk p3) ps, .Name y p5] k2 p4) X.env] := by rfl) :
    XS X (.Assign [.Tuple [.Subscript (.Name x p2) (.Constant (.int c) kk p3) ps, .Name y p5] k2 p4] e pos) (tAsg te (gTup X.K 2 (gCons (gSub (tVar j) (tC (.int c)) rSetL) (gCons (gName l) gNil)))) (dWset2 j c l t) :=
  ⟨ps_asg he.pe (pg_tup hc (pgs_cons (pg_sub (pv j hN hv hd hcd) pe_int set_list ha) (pgs_cons (pg_name hnd hN2 hx hf) pgs_nil ha1) ha2) hn hst) hs hw h1, amK fun _ _ _ => ds_wset2 (he.de _ rfl) hjl⟩
end
/-! ### an expression by itself -/
def dDrop (t : TD) : TSD := fun D s => t s fun _ w => D.nx ⟨s.sl, w⟩
theorem ds_drop {A : Am} {te : TE} {t : TD} (h : DE A te t) : DS A (tDrop te) (dDrop t) := by
  refine ⟨fun σ H F s D D' R q k => ?_⟩
  exact h.run σ H F s _ _ R q fun v H1 F1 r w1 f1 W1 v1 q1 => k.nx _ H1 F1 _ f1.sub (R.fw f1 W1) q1
theorem w_expr {X : Cx} {e : Expr} {te : TE} {t : TD} {pos : Pos} (h : XE X e te t) (hs : swapsWith e none pos.line X.env = pure false := by rfl) : XS X (.Expr e pos) (tDrop te) (dDrop t) := ⟨ps_expr h.pe hs, fun A e => ds_drop (h.de A e)⟩
end DL
/-! DL15b: a, b = x, y where the names stand in cells: a pair is laid and taken apart. -/
namespace DL
open PySem PySem.Spec PyProof.Rows L2
theorem ds_par2 {A : Am} {i j : Nat} {te ue : TE} {t u : TD} (h : DE A te t) (h2 : DE A ue u) (hij : i ≠ j := by decide) :
    DS A (tAsg (tTup (tCons te (tCons ue tNil))) (gTup A.K 2 (gCons (gName i) (gCons (gName j) gNil)))) (dPar i j t u) := by
  refine ⟨fun σ H F s D D' R q k => ?_⟩
  refine h.run σ H F s _ _ R q fun v H1 F1 r w1 f1 W1 v1 q1 => ?_
  obtain ⟨hp, q1⟩ := sto_of q1
  have R1 := R.fw f1 W1
  refine h2.run σ H1 F1 _ _ _ R1 q1 fun u H2 F2 r2 w2 f2 W2 v2 q2 => ?_
  obtain ⟨hp2, q2⟩ := sto_of q2
  have R2 := R1.fw f2 W2
  refine ⟨by show 2 ≤ sizeLine; decide, fun T hT => ?_⟩
  refine ⟨T, [v, u], rfl, .inl (.inl upd_same), rfl, v, [u], rfl, u, [], rfl, rfl, ?_⟩
  have f3 : Fw A H2 F2 (upd H2 T (.tup [v, u])) F2 := fw_new f2.sub' hT
  have R3 := R2.fw f3 (well_new W2 hT)
  have v1' : ResR A H (upd H2 T (.tup [v, u])) F2 v r := v1.later (f2.trans f3) R.pwH
  have v2' : ResR A H1 (upd H2 T (.tup [v, u])) F2 u r2 := v2.later f3 R1.pwH
  have Ra := R3.store (i := i) (v1'.slot R hp) fun xs e j ys _ ej => v1'.new R xs e j ys ej
  refine k.nx _ _ F2 _ (f1.sub.trans f2.sub) (Ra.store (i := j) (v2'.slot R1 hp2) fun xs e l ys nl el => ?_) q2
  rcases getElem?_set_cases el with ⟨rfl, e1, hi⟩ | ⟨nl2, e1⟩
  · cases e1
    have len := R3.len
    rw [List.getElem?_set_self (by simp at hi len; omega)]
    intro z
    cases z
    subst e
    obtain ⟨p, vs, rfl, h0, _⟩ := v2
    obtain ⟨p', vs', e', h1, _⟩ := v1.val R.gd R.well f1
    cases e'
    rw [h0] at h1
    cases h1
  · rw [List.getElem?_set_ne (Ne.symm nl2)]
    exact v2'.new R1 xs e l ys e1
theorem w_par2 {X : Cx} {a b tg : Expr} {te ue : TE} {t u : TD} {pos p2 : Pos} {k2 : Nat} (i j : Nat) (ha : XE X a te t) (hb : XE X b ue u) (hg : XG X tg (gTup X.K 2 (gCons (gName i) (gCons (gName j) gNil))) ([i] ++ ([j] ++ [])) (tgTup 2 (tgCons (tgN i) (tgCons (tgN j) tgNil)))) (hij : i ≠ j := by decide)
    (hs1 : starEach [a, b] X.env = (false, eval a X.env) :: starEach [b] X.env := by rfl) (hs2 : starEach [b] X.env = (false, eval b X.env) :: starEach [] X.env := by rfl)
    (hs : swapsWithSole [tg] (.Tuple [a, b] k2 p2) pos.line X.env = pure false := by rfl) (hw : swappedStores [tg] (.Tuple [a, b] k2 p2) X.env = pure none := by rfl) (h1 : (assignEach [tg] X.env).map (·.2) = [assign tg X.env] := by rfl) :
    XS X (.Assign [tg] (.Tuple [a, b] k2 p2) pos) (tAsg (tTup (tCons te (tCons ue tNil))) (gTup X.K 2 (gCons (gName i) (gCons (gName j) gNil)))) (dPar i j t u) :=
  ⟨ps_asg (pe_tup (pa_cons ha.pe (pa_cons hb.pe pa_nil hs2) hs1)) hg.pg hs hw h1, amK fun _ _ _ => ds_par2 (ha.de _ rfl) (hb.de _ rfl) hij⟩
end DL
/-! DL16: the data level as rewriting; fractions. -/
namespace DL
open PySem PySem.Spec PyProof.Rows L2
section
variable {l : List (Option Rv)} {w w0 : W3} {Q : Rv → W3 → Prop} {s : S} {D : De}
theorem wl_eq : S.wl ⟨l, w0⟩ w = ⟨l, w⟩ := rfl
def vq (o : Option (Option Rv)) (w : W3) (Q : Rv → W3 → Prop) : Prop := match o with
  | some (some (.d x)) => Q (.d x) w
  | some (some (.l xs)) => Q (.p xs) w
  | some (some (.a xs)) => Q (.a xs) w
  | some (some .w) => Q .w w
  | _ => False
theorem var_eq {i : Nat} : dVar i ⟨l, w⟩ Q = vq l[i]? w Q := rfl
theorem vq_d {x : PyData} : vq (some (some (.d x))) w Q = Q (.d x) w := rfl
theorem vq_l {x : List PyData} : vq (some (some (.l x))) w Q = Q (.p x) w := rfl
theorem vq_a {x : List PyData} : vq (some (some (.a x))) w Q = Q (.a x) w := rfl
theorem vq_w : vq (some (some .w)) w Q = Q .w w := rfl
theorem c_eq {x : PyData} : dC x s Q = Q (.d x) s.w := rfl
theorem op_eq_ {f} {ta tb : TD} : dOp f ta tb s Q = ta s fun x w1 => tb (s.wl w1) fun y w2 => f x y fun z => Q z w2 := rfl
theorem un_eq_ {f} {ta : TD} : dUn f ta s Q = ta s fun x w1 => f x fun z => Q z w1 := rfl
section
variable {C : Int → Int → Prop} {g : Int → Int → PyData} {i j : Int} {R : Rv → Prop}
theorem fI_eq : fI C g (.d (.int i)) (.d (.int j)) R = (C i j ∧ R (.d (g i j))) := rfl
theorem fI0_eq : fI0 g (.d (.int i)) (.d (.int j)) R = R (.d (g i j)) := rfl
theorem fU_eq {g : Int → Int} : fU g (.d (.int i)) R = R (.d (.int (g i))) := rfl
theorem f1I_eq {g : Int → Int} : f1I g [.d (.int i)] R = R (.d (.int (g i))) := rfl
theorem f2I_eq {g : Int → Int → Int} : f2I g [.d (.int i), .d (.int j)] R = R (.d (.int (g i j))) := rfl
theorem atI_nat {α : Type} {xs : List α} {i : Nat} : atI xs (i : Int) = xs[i]? := by
  unfold atI ixN
  have h0 : (0 : Int) ≤ (i : Int) := Int.natCast_nonneg i
  rw [if_pos h0]
  by_cases h : i < xs.length
  · rw [if_pos (by omega)]
    show xs[(i : Int).toNat]? = _
    rw [Int.toNat_natCast]
  · rw [if_neg (by omega), List.getElem?_eq_none (by omega)]
    rfl
theorem atI_last {α : Type} {xs : List α} (h : xs ≠ []) : atI xs (-1) = xs.getLast? := by
  have hl : 0 < xs.length := List.length_pos_iff.mpr h
  unfold atI ixN
  rw [if_neg (by omega), if_pos (by omega)]
  show xs[((-1 : Int) + (xs.length : Int)).toNat]? = _
  rw [List.getLast?_eq_getElem?]
  congr 1
  omega
theorem fIx_nat {x : Rv} {xs : List PyData} {z : PyData} {i : Nat} (hx : seqOf x = some xs) (h : xs[i]? = some z) : fIx x (.d (.int (i : Int))) R = R (.d z) := by
  unfold fIx
  rw [hx]
  show (match atI xs (i : Int) with
    | some z => R (.d z)
    | none => False) = _
  rw [atI_nat, h]
theorem fIx_int {x : Rv} {xs : List PyData} {z : PyData} {i : Int} (hx : seqOf x = some xs) (h0 : 0 ≤ i) (h : xs[i.toNat]? = some z) : fIx x (.d (.int i)) R = R (.d z) := by
  have e : ((i.toNat : Nat) : Int) = i := Int.toNat_of_nonneg h0
  rw [← e]
  exact fIx_nat hx h
theorem fIx_last {x : Rv} {xs : List PyData} {z : PyData} (hx : seqOf x = some xs) (h : xs.getLast? = some z) : fIx x (.d (.int (-1))) R = R (.d z) := by
  have hn : xs ≠ [] := by
    intro e
    subst e
    cases h
  unfold fIx
  rw [hx]
  show (match atI xs (-1) with
    | some z => R (.d z)
    | none => False) = _
  rw [atI_last hn, h]
theorem fIx_t0 {a : PyData} {r : List PyData} : fIx (.d (.tuple (a :: r))) (.d (.int 0)) R = R (.d a) := fIx_nat (i := 0) rfl rfl
theorem fIx_t1 {a b : PyData} {r : List PyData} : fIx (.d (.tuple (a :: b :: r))) (.d (.int 1)) R = R (.d b) := fIx_nat (i := 1) rfl rfl
end
theorem daNil_eq {R : List Rv → W3 → Prop} : daNil s R = R [] s.w := rfl
theorem daCons_eq {t : TD} {tr : TDA} {R : List Rv → W3 → Prop} : daCons t tr s R = t s fun x w1 => tr (s.wl w1) fun xs w2 => R (argOf x :: xs) w2 := rfl
theorem argOf_d {x : PyData} : argOf (.d x) = .d x := rfl
theorem argOf_l {x : List PyData} : argOf (.l x) = .d (.list x) := rfl
theorem argOf_a {x : List PyData} : argOf (.a x) = .a x := rfl
theorem argOf_p {x : List PyData} : argOf (.p x) = .a x := rfl
theorem argOf_w : argOf .w = .w := rfl
theorem ddNil_eq {R : List PyData → W3 → Prop} : ddNil s R = R [] s.w := rfl
theorem kp_d {x : PyData} {k : PyData → Prop} : kp (.d x) k = k x := rfl
theorem kp_l {x : List PyData} {k : PyData → Prop} : kp (.l x) k = k (.list x) := rfl
theorem call1_eq {Sp : FSpec} {t : TDA} : dCall 1 Sp t s Q = t s fun rs w => (match rs with | [a] => Sp [a] w Q | _ => False) := by
  unfold dCall
  congr
  funext rs w
  rcases rs with _ | ⟨a, _ | ⟨b, r⟩⟩ <;> rfl
theorem call2_eq {Sp : FSpec} {t : TDA} : dCall 2 Sp t s Q = t s fun rs w => (match rs with | [a, b] => Sp [a, b] w Q | _ => False) := by
  unfold dCall
  congr
  funext rs w
  rcases rs with _ | ⟨a, _ | ⟨b, _ | ⟨c, r⟩⟩⟩ <;> rfl
theorem call3_eq {Sp : FSpec} {t : TDA} : dCall 3 Sp t s Q = t s fun rs w => (match rs with | [a, b, c] => Sp [a, b, c] w Q | _ => False) := by
  unfold dCall
  congr
  funext rs w
  rcases rs with _ | ⟨a, _ | ⟨b, _ | ⟨c, _ | ⟨d, r⟩⟩⟩⟩ <;> rfl
theorem cB_eq {f} {t : TDA} : dCB f t s Q = t s fun rs w => f rs fun z => Q z w := rfl
theorem ddCons_eq {ta : TD} {tr : TDD} {R : List PyData → W3 → Prop} : ddCons ta tr s R = ta s fun x w1 => kp x fun y => tr (s.wl w1) fun xs w2 => R (y :: xs) w2 := rfl
theorem small_of_le {n : Nat} {k : Prop} (h : n ≤ 1000) : small n k = k := by
  unfold small
  rw [Nat.ble_eq_true_of_le h]
theorem tup_eq {t : TDD} : dTup t s Q = t s fun xs w => small xs.length (Q (.d (.tuple xs)) w) := rfl
theorem lst_eq {t : TDD} : dLst t s Q = t s fun xs w => small xs.length (Q (.l xs) w) := rfl
theorem small0 {k : Prop} : small ([] : List PyData).length k = k := rfl
theorem small1 {a : PyData} {k : Prop} : small [a].length k = k := rfl
theorem small2 {a b : PyData} {k : Prop} : small [a, b].length k = k := rfl
theorem small3 {a b c : PyData} {k : Prop} : small [a, b, c].length k = k := rfl
theorem small4 {a b c d : PyData} {k : Prop} : small [a, b, c, d].length k = k := rfl
theorem small6 {a b c d e f : PyData} {k : Prop} : small [a, b, c, d, e, f].length k = k := rfl
theorem small7 {a b c d e f g : PyData} {k : Prop} : small [a, b, c, d, e, f, g].length k = k := rfl
theorem seq_eq {t u : TSD} : dSeq t u D s = t { D with nx := u D } s := rfl
theorem next_eq : dNext D s = D.nx s := rfl
theorem never_eq : dNever D s = False := rfl
theorem ret_eq {t : TD} : dRet t D s = t s fun r w => retk r fun z => D.rt z w := rfl
theorem retk_d {x : PyData} {k : Rv → Prop} : retk (.d x) k = k (.d x) := rfl
theorem retk_l {x : List PyData} {k : Rv → Prop} : retk (.l x) k = k (.l x) := rfl
theorem retV_eq {i : Nat} : dRetV i D ⟨l, w⟩ = (match l[i]? with
  | some (some (.l xs)) => D.rt (.l xs) w
  | some (some (.d x)) => D.rt (.d x) w
  | _ => False) := rfl
theorem set_eq {i : Nat} {t : TD} : dSet i t D s = t s fun r w => sto r (D.nx ⟨s.sl.set i (some r), w⟩) := rfl
theorem par_eq {i j : Nat} {t u : TD} : dPar i j t u D s = t s fun r w => sto r (u (s.wl w) fun r2 w2 => sto r2 (D.nx ⟨(s.sl.set i (some r)).set j (some r2), w2⟩)) := rfl
theorem sto_d {x : PyData} {k : Prop} : sto (.d x) k = k := rfl
theorem sto_l {x : List PyData} {k : Prop} : sto (.l x) k = k := rfl
theorem sto_a {x : List PyData} {k : Prop} : sto (.a x) k = k := rfl
theorem asg_eq {t : TD} {g : TDG} : dAsg t g D s = t s fun r w => kp r fun x => g x (s.wl w) D.nx := rfl
theorem tgN_eq {i : Nat} {x : PyData} {R : S → Prop} : tgN i x s R = R ⟨s.sl.set i (some (.d x)), s.w⟩ := rfl
theorem tgTup2_eq {a b : PyData} {g h : TDG} {R : S → Prop} : tgTup 2 (tgCons g (tgCons h tgNil)) (.tuple [a, b]) s R = g a s fun s1 => h b s1 R := rfl
theorem ifS_eq {c : TDT} {t u : TSD} : dIfS c t u D s = c s fun b w => if b = true then t D (s.wl w) else u D (s.wl w) := rfl
theorem ifx_eq {c : TDT} {t u : TD} : dIf c t u s Q = c s fun b w => if b = true then t (s.wl w) Q else u (s.wl w) Q := rfl
variable {R : Bool → W3 → Prop}
theorem tst_eq {t : TD} : dTst t s R = t s fun x w => tru x fun b => R b w := rfl
theorem tru_eq {b : Bool} {k : Bool → Prop} : tru (.d (.bool b)) k = k b := rfl
theorem andT_eq {t u : TDT} : dAndT t u s R = t s fun b w => if b = true then u (s.wl w) R else R false w := rfl
theorem orT_eq {t u : TDT} : dOrT t u s R = t s fun b w => if b = true then R true w else u (s.wl w) R := rfl
theorem notT_eq {t : TDT} : dNotT t s R = t s fun b w => R (!b) w := rfl
theorem andV_eq {t u : TD} : dAndV t u s Q = t s fun x w => tru x fun b => if b = true then u (s.wl w) Q else Q (.d (.bool false)) w := rfl
theorem orV_eq {t u : TD} : dOrV t u s Q = t s fun x w => tru x fun b => if b = true then Q (.d (.bool true)) w else u (s.wl w) Q := rfl
theorem notV_eq {t : TD} : dNotV t s Q = t s fun x w => tru x fun b => Q (.d (.bool (!b))) w := rfl
theorem drop_eq {t : TD} : dDrop t D s = t s fun _ w => D.nx ⟨s.sl, w⟩ := rfl
theorem fz_eq {i : Nat} {t : TSD} {xs : List PyData} (h : l[i]? = some (some (.l xs))) : dFz i t D ⟨l, w⟩ = t D ⟨l.set i (some (.d (.list xs))), w⟩ := by
  show (match l[i]? with
    | some (some (.l xs)) => t D ⟨l.set i (some (.d (.list xs))), w⟩
    | _ => False) = _
  rw [h]
theorem isN_eq {neg : Bool} {t : TD} : dIsN neg t s Q = t s fun x w => match datOf x with
  | some y => Q (.d (.bool (if neg then !isNoneD y else isNoneD y))) w
  | none => False := rfl
/-! ### fractions -/
/-- a fraction as the program writes it -/
def fr (x : Rat) : PyData := .tuple [.int x.num, .int (x.den : Int)]
theorem fr_inj {x y : Rat} (h : fr x = fr y) : x = y := by
  unfold fr at h
  injection h with h
  injection h with h1 h2
  injection h2 with h2 _
  injection h1 with h1
  injection h2 with h2
  exact Rat.ext h1 (Int.natCast_inj.mp h2)
theorem fr_eq {x y : Rat} : (fr x = fr y) = (x = y) := propext ⟨fr_inj, fun e => e ▸ rfl⟩
theorem fIx_fr0 {x : Rat} {R : Rv → Prop} : fIx (.d (fr x)) (.d (.int 0)) R = R (.d (.int x.num)) := fIx_t0
theorem fIx_fr1 {x : Rat} {R : Rv → Prop} : fIx (.d (fr x)) (.d (.int 1)) R = R (.d (.int (x.den : Int))) := fIx_t1
end
/-- numerator and denominator below 2 ^ b -/
def sm (b : Nat) (x : Rat) : Prop := x.num.natAbs < 2 ^ b ∧ x.den < 2 ^ b
/-- two fractions in, one out -/
def sp2 (P : Rat → Rat → Prop) (g : Rat → Rat → Rat) : FSpec := fun rs w k => ∃ x y : Rat, rs = [.d (fr x), .d (fr y)] ∧ P x y ∧ k (.d (fr (g x y))) w
theorem sp2_eq {P : Rat → Rat → Prop} {g : Rat → Rat → Rat} {x y : Rat} {w : W3} {k : Rv → W3 → Prop} : sp2 P g [.d (fr x), .d (fr y)] w k = (P x y ∧ k (.d (fr (g x y))) w) := by
  refine propext ⟨fun ⟨a, b, e, h⟩ => ?_, fun h => ⟨x, y, rfl, h⟩⟩
  injection e with e1 e2
  injection e2 with e2 _
  injection e1 with e1
  injection e2 with e2
  cases fr_inj e1
  cases fr_inj e2
  exact h
end DL
/-! DL17: fractions in lowest terms. -/
namespace DL
open PySem PySem.Spec PyProof.Rows L2
theorem lt_two_pow_mul {a b : Nat} {x y : Int} (hx : x.natAbs < 2 ^ a) (hy : y.natAbs < 2 ^ b) : (x * y).natAbs < 2 ^ (a + b) := wide_lt hx hy
theorem lt_two_pow_add {a : Nat} {x y : Int} (hx : x.natAbs < 2 ^ a) (hy : y.natAbs < 2 ^ a) : (x + y).natAbs < 2 ^ (a + 1) := by
  rw [Nat.pow_succ]
  omega
theorem lt_two_pow_sub {a : Nat} {x y : Int} (hx : x.natAbs < 2 ^ a) (hy : y.natAbs < 2 ^ a) : (x - y).natAbs < 2 ^ (a + 1) := by
  rw [Nat.pow_succ]
  omega
theorem lt_two_pow_mono {a b n : Nat} (h : n < 2 ^ a) (hab : a ≤ b) : n < 2 ^ b := Nat.lt_of_lt_of_le h (Nat.pow_le_pow_right (by decide) hab)
theorem log2_of_lt {n b : Nat} (h : n < 2 ^ b) (h0 : 0 < b) : n.log2 < b := PySem.Flt.log2_lt_of h0 h
theorem cmulW_of {i j : Int} {a b : Nat} (ha : i.natAbs < 2 ^ a) (hb : j.natAbs < 2 ^ b) (h : a + b + 2 ≤ 1000000) : CMulW i j := by
  refine wide_mul (a := a + 1) (b := b + 1) (lt_two_pow_mono ha (Nat.le_succ a)) (lt_two_pow_mono hb (Nat.le_succ b)) (Nat.succ_pos _) (Nat.succ_pos _) (by omega)
theorem sm.mono {a b : Nat} {x : Rat} (h : sm a x) (hab : a ≤ b) : sm b x := ⟨lt_two_pow_mono h.1 hab, lt_two_pow_mono h.2 hab⟩
theorem den_abs (x : Rat) : ((x.den : Int)).natAbs = x.den := by simp
theorem sm.d {a : Nat} {x : Rat} (h : sm a x) : ((x.den : Int)).natAbs < 2 ^ a := by rw [den_abs]; exact h.2
/-! ### lowest terms -/
theorem div_pos_nd {a b : Int} (hb : 0 < b) : a.fdiv ((Nat.gcd a.natAbs b.natAbs : Nat) : Int) = ((a : Rat) / (b : Rat)).num ∧ b.fdiv ((Nat.gcd a.natAbs b.natAbs : Nat) : Int) = (((a : Rat) / (b : Rat)).den : Int) := by
  obtain ⟨n, rfl⟩ : ∃ n : Nat, b = (n : Int) := ⟨b.toNat, (Int.toNat_of_nonneg (Int.le_of_lt hb)).symm⟩
  have hn : n ≠ 0 := by omega
  have e : ((a : Rat) / ((n : Int) : Rat)) = mkRat a n := by
    rw [Rat.mkRat_eq_div]
    rfl
  rw [e, Rat.num_mkRat, Rat.den_mkRat, if_neg hn, if_neg hn, Int.fdiv_eq_ediv_of_nonneg _ (Int.natCast_nonneg _), Int.fdiv_eq_ediv_of_nonneg _ (Int.natCast_nonneg _), Int.natAbs_natCast, Nat.gcd_comm a.natAbs n]
  exact ⟨rfl, (Int.natCast_ediv _ _).symm⟩
theorem div_neg_nd {a b : Int} (hb : b < 0) : a.fdiv (0 - ((Nat.gcd a.natAbs b.natAbs : Nat) : Int)) = ((a : Rat) / (b : Rat)).num ∧ b.fdiv (0 - ((Nat.gcd a.natAbs b.natAbs : Nat) : Int)) = (((a : Rat) / (b : Rat)).den : Int) := by
  have h := div_pos_nd (a := -a) (b := -b) (by omega)
  have e : (((-a : Int) : Rat) / ((-b : Int) : Rat)) = (a : Rat) / (b : Rat) := by
    have hb' : (b : Rat) ≠ 0 := fun e => (Int.ne_of_lt hb) (by exact_mod_cast e)
    rw [Rat.intCast_neg, Rat.intCast_neg]
    grind
  rw [Int.natAbs_neg, Int.natAbs_neg, e] at h
  have hneg : ∀ x g : Int, x.fdiv (0 - g) = (-x).fdiv g := fun x g => by
    rw [Int.zero_sub]
    have := Int.neg_fdiv_neg (-x) g
    rw [Int.neg_neg] at this
    exact this
  rw [hneg, hneg]
  exact h
theorem nd_eq (x : Rat) : x = (x.num : Rat) / (x.den : Rat) := by
  have h := Rat.num_divInt_den x
  rw [Rat.divInt_eq_div] at h
  exact h.symm
theorem rat_ne {b : Int} (h : b ≠ 0) : (b : Rat) ≠ 0 := fun e => h (by exact_mod_cast e)
theorem add_nd (x y : Rat) : (((x.num * y.den + y.num * x.den : Int) : Rat) / ((x.den * y.den : Int) : Rat)) = x + y := by
  have hx : x = (x.num : Rat) / (x.den : Rat) := nd_eq x
  have hy : y = (y.num : Rat) / (y.den : Rat) := nd_eq y
  have dx : (x.den : Rat) ≠ 0 := by have := x.den_nz; exact_mod_cast this
  have dy : (y.den : Rat) ≠ 0 := by have := y.den_nz; exact_mod_cast this
  conv => rhs; rw [hx, hy]
  push_cast
  grind
theorem sub_nd (x y : Rat) : (((x.num * y.den - y.num * x.den : Int) : Rat) / ((x.den * y.den : Int) : Rat)) = x - y := by
  have hx : x = (x.num : Rat) / (x.den : Rat) := nd_eq x
  have hy : y = (y.num : Rat) / (y.den : Rat) := nd_eq y
  have dx : (x.den : Rat) ≠ 0 := by have := x.den_nz; exact_mod_cast this
  have dy : (y.den : Rat) ≠ 0 := by have := y.den_nz; exact_mod_cast this
  conv => rhs; rw [hx, hy]
  push_cast
  grind
theorem mul_nd (x y : Rat) : (((x.num * y.num : Int) : Rat) / ((x.den * y.den : Int) : Rat)) = x * y := by
  have hx : x = (x.num : Rat) / (x.den : Rat) := nd_eq x
  have hy : y = (y.num : Rat) / (y.den : Rat) := nd_eq y
  have dx : (x.den : Rat) ≠ 0 := by have := x.den_nz; exact_mod_cast this
  have dy : (y.den : Rat) ≠ 0 := by have := y.den_nz; exact_mod_cast this
  conv => rhs; rw [hx, hy]
  push_cast
  grind
theorem div_nd {x y : Rat} (h : y ≠ 0) : (((x.num * y.den : Int) : Rat) / ((x.den * y.num : Int) : Rat)) = x / y := by
  have hx : x = (x.num : Rat) / (x.den : Rat) := nd_eq x
  have hy : y = (y.num : Rat) / (y.den : Rat) := nd_eq y
  have dx : (x.den : Rat) ≠ 0 := by have := x.den_nz; exact_mod_cast this
  have dy : (y.den : Rat) ≠ 0 := by have := y.den_nz; exact_mod_cast this
  have ny : (y.num : Rat) ≠ 0 := rat_ne fun e => h (Rat.num_eq_zero.mp e)
  conv => rhs; rw [hx, hy]
  push_cast
  grind
theorem lt_nd (x y : Rat) : (x.num * y.den < y.num * x.den) = (x < y) := propext (Rat.lt_iff x y).symm
end DL
/-! DL18: loops and comprehensions as rewriting; invariants. -/
namespace DL
open PySem PySem.Spec PyProof.Rows L2
section
variable {l : List (Option Rv)} {w w0 : W3} {Q : Rv → W3 → Prop} {s : S} {D : De} {R : Rv → Prop} {xs : List PyData}
theorem for_eq {ti : TDI} {tg : TDG} {body : TSD} : dFor ti tg body D s = ti s fun items w => loopD tg body D items (s.wl w) := rfl
theorem loopD_nil {tg : TDG} {body : TSD} : loopD tg body D [] s = D.nx s := rfl
theorem loopD_cons {tg : TDG} {body : TSD} {x : PyData} {xs : List PyData} : loopD tg body D (x :: xs) s = tg x s fun s1 => body { D with nx := loopD tg body D xs, ct := loopD tg body D xs, bk := D.nx } s1 := rfl
theorem diSeq_eq {t : TD} {R : List PyData → W3 → Prop} : diSeq t s R = t s fun r w => stay r fun xs => R xs w := rfl
theorem diRng1_eq {t : TD} {R : List PyData → W3 → Prop} : diRng1 t s R = t s fun r w => asInt r fun i => cnt i ∧ R (intsBy 0 1 i.toNat) w := rfl
theorem diRng2_eq {t u : TD} {R : List PyData → W3 → Prop} : diRng2 t u s R = t s fun r w => u (s.wl w) fun r2 w2 => asInt r fun i => asInt r2 fun j => (cnt i ∧ cnt j) ∧ R (intsBy i 1 (j - i).toNat) w2 := rfl
theorem diRevR_eq {t : TD} {R : List PyData → W3 → Prop} : diRevR t s R = t s fun r w => asInt r fun i => cnt i ∧ R (intsBy (0 + (((i - 0).toNat : Nat) : Int) - 1) (-1) (i - 0).toNat) w := rfl
theorem diRev_eq {t : TD} {R : List PyData → W3 → Prop} : diRev t s R = t s fun r w => stay r fun xs => R xs.reverse w := rfl
theorem diZip_eq {t u : TD} {R : List PyData → W3 → Prop} : diZip t u s R = t s fun r w => stayL r fun xs => u (s.wl w) fun r2 w2 => stayL r2 fun ys => R (pairsOf xs ys) w2 := rfl
theorem diEnumT_eq {t : TD} {R : List PyData → W3 → Prop} : diEnumT t s R = t s fun r w => (match r with
  | .d (.tuple xs) => R (numbered 0 xs) w
  | _ => False) := rfl
theorem asInt_eq {i : Int} {k : Int → Prop} : asInt (.d (.int i)) k = k i := rfl
theorem stay_dl {k : List PyData → Prop} : stay (.d (.list xs)) k = k xs := rfl
theorem stay_dt {k : List PyData → Prop} : stay (.d (.tuple xs)) k = k xs := rfl
theorem stay_l {k : List PyData → Prop} : stay (.l xs) k = k xs := rfl
theorem stay_a {k : List PyData → Prop} : stay (.a xs) k = k xs := rfl
theorem stayL_dl {k : List PyData → Prop} : stayL (.d (.list xs)) k = k xs := rfl
theorem stayL_l {k : List PyData → Prop} : stayL (.l xs) k = k xs := rfl
theorem stayL_a {k : List PyData → Prop} : stayL (.a xs) k = k xs := rfl
theorem comp_eq {own : List Nat} {ti : TDI} {tg : TDG} {tt : TDT} {te : TD} : dComp own ti tg tt te s Q = ti s fun items w => items.length < 16777216 ∧ compD own tg tt te (fun ys w => Q (.l ys) w) s.sl items [] w := rfl
theorem yes_eq {R : Bool → W3 → Prop} : dYes s R = R true s.w := rfl
/-! ### built-ins -/
def isQ (T : String) (x : Rv) (k : Bool → Prop) : Prop := match datOf x with
  | some y => (match kitB (tyName y) T with
    | some b => k b
    | none => False)
  | none => False
theorem isI_eq {T : String} {t : TD} : dIsI T t s Q = t s fun x w => isQ T x fun b => Q (.d (.bool b)) w := by
  unfold dIsI isQ
  congr
theorem isQ_ii {a : Int} {k : Bool → Prop} : isQ "int" (.d (.int a)) k = k true := by
  have e : kitB "int" "int" = some true := by decide +kernel
  show (match kitB "int" "int" with
    | some b => k b
    | none => False) = _
  rw [e]
theorem isQ_ib {a : Int} {k : Bool → Prop} : isQ "bool" (.d (.int a)) k = k false := by
  have e : kitB "int" "bool" = some false := by decide +kernel
  show (match kitB "int" "bool" with
    | some b => k b
    | none => False) = _
  rw [e]
theorem isQ_tt {k : Bool → Prop} : isQ "tuple" (.d (.tuple xs)) k = k true := by
  have e : kitB "tuple" "tuple" = some true := by decide +kernel
  show (match kitB "tuple" "tuple" with
    | some b => k b
    | none => False) = _
  rw [e]
theorem fTuple_dl : fTuple [.d (.list xs)] R = R (.d (.tuple xs)) := rfl
theorem fTuple_dt : fTuple [.d (.tuple xs)] R = R (.d (.tuple xs)) := rfl
theorem fTuple_a : fTuple [.a xs] R = R (.d (.tuple xs)) := rfl
theorem fList_dl : fList [.d (.list xs)] R = R (.l xs) := rfl
theorem fList_dt : fList [.d (.tuple xs)] R = R (.l xs) := rfl
theorem fList_a : fList [.a xs] R = R (.l xs) := rfl
theorem fLen_dl : fLen [.d (.list xs)] R = R (.d (.int (xs.length : Int))) := rfl
theorem fLen_dt : fLen [.d (.tuple xs)] R = R (.d (.int (xs.length : Int))) := rfl
theorem fLen_a : fLen [.a xs] R = R (.d (.int (xs.length : Int))) := rfl
theorem fBools_dl {g : List Bool → Bool} {bs : List Bool} (h : boolsOf xs = some bs) : fBools g [.d (.list xs)] R = R (.d (.bool (g bs))) := by
  show (match boolsOf xs with
    | some bs => R (.d (.bool (g bs)))
    | none => False) = _
  rw [h]
theorem boolsOf_map {α : Type} (f : α → Bool) : ∀ xs : List α, boolsOf (xs.map fun x => .bool (f x)) = some (xs.map f)
  | [] => rfl
  | x :: xs => by
    show (match boolsOf (xs.map fun x => .bool (f x)) with
      | some bs => some (f x :: bs)
      | none => none) = _
    rw [boolsOf_map f xs]
    rfl
/-! ### comprehensions -/
theorem compD_map {own : List Nat} {tg : TDG} {te : TD} {Q : List PyData → W3 → Prop} {sl : List (Option Rv)} {g : PyData → PyData} : ∀ (items acc : List PyData),
    (∀ x ∈ items, ∀ K : PyData → W3 → Prop, K (g x) w → tg x ⟨wipeD sl own, w⟩ fun s1 => te s1 fun r w2 => kp r fun y => K y w2) → Q (acc ++ items.map g) w → compD own tg dYes te Q sl items acc w
  | [], acc, _, q => by simpa [compD] using q
  | x :: xs, acc, h, q => by
    show tg x ⟨wipeD sl own, w⟩ fun s1 => te s1 fun r w2 => kp r fun y => compD own tg dYes te Q sl xs (acc ++ [y]) w2
    refine h x List.mem_cons_self (fun y w2 => compD own tg dYes te Q sl xs (acc ++ [y]) w2) ?_
    refine compD_map xs _ (fun y hy => h y (List.mem_cons_of_mem _ hy)) ?_
    simpa using q
/-- the same where an item is taken or not -/
theorem compD_filter {own : List Nat} {tg : TDG} {tt : TDT} {te : TD} {Q : List PyData → W3 → Prop} {sl : List (Option Rv)} {p : PyData → Bool} {g : PyData → PyData} : ∀ (items acc : List PyData),
    (∀ x ∈ items, ∀ (K1 : PyData → W3 → Prop) (K0 : W3 → Prop), (p x = true → K1 (g x) w) → (p x = false → K0 w) → tg x ⟨wipeD sl own, w⟩ fun s1 => tt s1 fun b w1 => if b = true then te (s1.wl w1) fun r w2 => kp r fun y => K1 y w2 else K0 w1) →
    Q (acc ++ (items.filter p).map g) w → compD own tg tt te Q sl items acc w
  | [], acc, _, q => by simpa [compD] using q
  | x :: xs, acc, h, q => by
    refine h x List.mem_cons_self (fun y w2 => compD own tg tt te Q sl xs (acc ++ [y]) w2) (fun w1 => compD own tg tt te Q sl xs acc w1) (fun e => ?_) fun e => ?_
    · refine compD_filter xs _ (fun y hy => h y (List.mem_cons_of_mem _ hy)) ?_
      rw [List.filter_cons_of_pos e] at q
      simpa using q
    · refine compD_filter xs _ (fun y hy => h y (List.mem_cons_of_mem _ hy)) ?_
      rw [List.filter_cons_of_neg (by simp [e])] at q
      exact q
/-! ### for -/
theorem loopD_inv {tg : TDG} {body : TSD} (I : Nat → S → Prop) (items : List PyData)
    (step : ∀ (i : Nat) (x : PyData) (s : S) (K : S → Prop), items[i]? = some x → I i s → (∀ s', I (i + 1) s' → K s') → tg x s fun s1 => body { D with nx := K, ct := K, bk := D.nx } s1)
    (fin : ∀ s, I items.length s → D.nx s) (h0 : I 0 s) : loopD tg body D items s := by
  have go : ∀ (post : List PyData) (i : Nat) (s : S), items.drop i = post → i ≤ items.length → I i s → loopD tg body D post s := by
    intro post
    induction post with
    | nil =>
      intro i s e hi h
      have : i = items.length := by
        have := congrArg List.length e
        simp at this
        omega
      subst this
      exact fin s h
    | cons x post ih =>
      intro i s e hi h
      have hx : items[i]? = some x := by
        have := congrArg (fun l => l[0]?) e
        simpa using this
      have hl : i < items.length := (List.getElem?_eq_some_iff.mp hx).1
      refine step i x s (loopD tg body D post) hx h fun s' h' => ih (i + 1) s' ?_ (by omega) h'
      rw [← List.drop_drop, e]
      rfl
  exact go items 0 s rfl (Nat.zero_le _) h0
end
end DL
/-! DL19: rows of fractions as data. -/
namespace DL
open PySem PySem.Spec PyProof.Rows L2
/-- a row as the program writes it -/
def row (xs : List Rat) : PyData := .tuple (xs.map fr)
theorem row_inj {xs ys : List Rat} (h : row xs = row ys) : xs = ys := by
  unfold row at h
  injection h with h
  exact List.map_inj_right (f := fr) (fun {x y} e => fr_inj e) |>.mp h
theorem fr_lay (x : Rat) : (fr x).canLay0 = true := by unfold fr; simp [PyData.canLay0, PyData.canLayAll0]
theorem fr_depth (x : Rat) : (fr x).depth ≤ 2 := by unfold fr; simp [PyData.depth, PyData.depthAll]
theorem rows_lay : ∀ xs : List Rat, PyData.canLayAll0 (xs.map fr) = true
  | [] => by simp [PyData.canLayAll0]
  | x :: xs => by simp [PyData.canLayAll0, fr_lay, rows_lay xs]
theorem rows_depth : ∀ xs : List Rat, PyData.depthAll (xs.map fr) ≤ 2
  | [] => by simp [PyData.depthAll]
  | x :: xs => by
    have h1 := fr_depth x
    have h2 := rows_depth xs
    simp only [List.map_cons, PyData.depthAll]
    omega
theorem fr_eqv (x y : Rat) : PyData.eqv (fr x) (fr y) = decide (x = y) := by
  unfold fr
  simp only [PyData.eqv, PyData.eqvAll, Bool.and_true]
  rw [Bool.eq_iff_iff]
  simp only [Bool.and_eq_true, beq_iff_eq, decide_eq_true_eq]
  exact ⟨fun h => Rat.ext h.1 (Int.natCast_inj.mp h.2), fun e => by rw [e]; exact ⟨rfl, rfl⟩⟩
theorem rows_eqv : ∀ xs ys : List Rat, PyData.eqvAll (xs.map fr) (ys.map fr) = decide (xs = ys)
  | [], [] => by simp [PyData.eqvAll]
  | [], y :: ys => by simp [PyData.eqvAll]
  | x :: xs, [] => by simp [PyData.eqvAll]
  | x :: xs, y :: ys => by simp [PyData.eqvAll, fr_eqv, rows_eqv xs ys]
theorem fr_shaped (x : Rat) : SeqAt.shaped (fr x) = true := by
  unfold SeqAt.shaped
  rw [fr_lay]
  have := fr_depth x
  simp only [Bool.true_and, decide_eq_true_eq]
  omega
theorem row_lay (xs : List Rat) : (row xs).canLay0 = true := by unfold row; simp [PyData.canLay0, rows_lay]
theorem row_depth (xs : List Rat) : (row xs).depth ≤ 3 := by
  have := rows_depth xs
  unfold row
  simp only [PyData.depth]
  omega
theorem row_shaped (xs : List Rat) : SeqAt.shaped (row xs) = true := by
  unfold SeqAt.shaped
  rw [row_lay]
  have := row_depth xs
  simp only [Bool.true_and, decide_eq_true_eq]
  omega
theorem list_lay (xs : List Rat) : (PyData.list (xs.map fr)).canLay0 = true := by simp [PyData.canLay0, rows_lay]
theorem list_depth (xs : List Rat) : (PyData.list (xs.map fr)).depth ≤ 3 := by
  have := rows_depth xs
  simp only [PyData.depth]
  omega
theorem list_shaped (xs : List Rat) : SeqAt.shaped (.list (xs.map fr)) = true := by
  unfold SeqAt.shaped
  rw [list_lay]
  have := list_depth xs
  simp only [Bool.true_and, decide_eq_true_eq]
  omega
theorem row_eqv (xs ys : List Rat) : PyData.eqv (row xs) (row ys) = decide (xs = ys) := by
  unfold row
  simp only [PyData.eqv, rows_eqv]
theorem list_eqv (xs ys : List Rat) : PyData.eqv (.list (xs.map fr)) (.list (ys.map fr)) = decide (xs = ys) := by simp only [PyData.eqv, rows_eqv]
section
variable {R : Rv → Prop} {x y : Rat} {xs ys : List Rat}
theorem fEq_of {a b : Rv} {da db : PyData} {neg : Bool} (h1 : datOf a = some da) (h2 : datOf b = some db) (s1 : SeqAt.shaped da = true) (s2 : SeqAt.shaped db = true) : fEq neg a b R = R (.d (.bool (if neg then !PyData.eqv da db else PyData.eqv da db))) := by
  unfold fEq
  rw [h1, h2]
  exact propext ⟨fun h => h.2, fun h => ⟨⟨s1, s2⟩, h⟩⟩
theorem fEq_ff : fEq false (.d (fr x)) (.d (fr y)) R = R (.d (.bool (decide (x = y)))) := by
  rw [fEq_of rfl rfl (fr_shaped x) (fr_shaped y), fr_eqv]
  rfl
theorem fNe_ff : fEq true (.d (fr x)) (.d (fr y)) R = R (.d (.bool (!decide (x = y)))) := by
  rw [fEq_of rfl rfl (fr_shaped x) (fr_shaped y), fr_eqv]
  rfl
theorem fEq_rr : fEq false (.d (row xs)) (.d (row ys)) R = R (.d (.bool (decide (xs = ys)))) := by
  rw [fEq_of rfl rfl (row_shaped xs) (row_shaped ys), row_eqv]
  rfl
theorem fNe_rr : fEq true (.d (row xs)) (.d (row ys)) R = R (.d (.bool (!decide (xs = ys)))) := by
  rw [fEq_of rfl rfl (row_shaped xs) (row_shaped ys), row_eqv]
  rfl
theorem fNe_pe : fEq true (.p (xs.map fr)) (.l []) R = R (.d (.bool (!decide (xs = [])))) := by
  rw [fEq_of rfl rfl (list_shaped xs) (list_shaped []), list_eqv]
  rfl
theorem fEq_i {a b : Int} : fEq false (.d (.int a)) (.d (.int b)) R = R (.d (.bool (decide (a = b)))) := by
  have e : PyData.eqv (.int a) (.int b) = decide (a = b) := by
    simp only [PyData.eqv]
    rw [Bool.eq_iff_iff]
    simp
  rw [fEq_of rfl rfl rfl rfl, e]
  rfl
theorem fNe_i {a b : Int} : fEq true (.d (.int a)) (.d (.int b)) R = R (.d (.bool (!decide (a = b)))) := by
  have e : PyData.eqv (.int a) (.int b) = decide (a = b) := by
    simp only [PyData.eqv]
    rw [Bool.eq_iff_iff]
    simp
  rw [fEq_of rfl rfl rfl rfl, e]
  rfl
/-! items -/
theorem seqOf_row : seqOf (.d (row xs)) = some (xs.map fr) := rfl
theorem fIx_row {i : Int} {x : Rat} (h0 : 0 ≤ i) (h : xs[i.toNat]? = some x) : fIx (.d (row xs)) (.d (.int i)) R = R (.d (fr x)) := fIx_int seqOf_row h0 (by rw [List.getElem?_map, h]; rfl)
theorem fIx_rowL {x : Rat} (h : xs.getLast? = some x) : fIx (.d (row xs)) (.d (.int (-1))) R = R (.d (fr x)) := fIx_last seqOf_row (by rw [List.getLast?_map, h]; rfl)
theorem fIx_pr {i : Int} {x : Rat} (h0 : 0 ≤ i) (h : xs[i.toNat]? = some x) : fIx (.p (xs.map fr)) (.d (.int i)) R = R (.d (fr x)) := fIx_int rfl h0 (by rw [List.getElem?_map, h]; rfl)
theorem fIx_prL {x : Rat} (h : xs.getLast? = some x) : fIx (.p (xs.map fr)) (.d (.int (-1))) R = R (.d (fr x)) := fIx_last rfl (by rw [List.getLast?_map, h]; rfl)
theorem fLen_row : fLen [.d (row xs)] R = R (.d (.int (xs.length : Int))) := by
  show R (.d (.int ((xs.map fr).length : Int))) = _
  rw [List.length_map]
theorem fLen_lr : fLen [.d (.list (xs.map fr))] R = R (.d (.int (xs.length : Int))) := by
  show R (.d (.int ((xs.map fr).length : Int))) = _
  rw [List.length_map]
theorem fLen_ar : fLen [.a (xs.map fr)] R = R (.d (.int (xs.length : Int))) := by
  show R (.d (.int ((xs.map fr).length : Int))) = _
  rw [List.length_map]
end
/-- a list, a tuple that is handed over -/
def isSeq (r : Rv) (ys : List PyData) : Prop := r = .d (.list ys) ∨ r = .d (.tuple ys) ∨ r = .a ys
/-- a row's numbers without the noughts at its end -/
def trim (xs : List Rat) : List Rat := (xs.reverse.dropWhile (· == 0)).reverse
end DL
/-! DL20: rows as polynomials: plain words. -/
namespace DL
open PySem PySem.Spec PyProof.Rows L2
def rabs (x : Rat) : Rat := if x < 0 then -x else x
/-- the number at a place, 0 beyond the row -/
def co (xs : List Rat) (n : Nat) : Rat := xs.getD n 0
theorem co_lt {xs : List Rat} {n : Nat} {x : Rat} (h : xs[n]? = some x) : co xs n = x := by
  unfold co
  rw [List.getD_eq_getElem?_getD, h]
  rfl
theorem co_ge {xs : List Rat} {n : Nat} (h : xs.length ≤ n) : co xs n = 0 := by
  unfold co
  rw [List.getD_eq_getElem?_getD, List.getElem?_eq_none h]
  rfl
theorem co_some {xs : List Rat} {n : Nat} (h : n < xs.length) : xs[n]? = some (co xs n) := by
  rw [List.getElem?_eq_getElem h]
  congr 1
  exact (co_lt (List.getElem?_eq_getElem h)).symm
theorem co_mem {xs : List Rat} {n : Nat} (h : n < xs.length) : co xs n ∈ xs := List.mem_of_getElem? (co_some h)
/-! ### trim -/
theorem trim_nil : trim [] = [] := rfl
theorem trim_snoc0 (xs : List Rat) : trim (xs ++ [0]) = trim xs := by
  unfold trim
  rw [List.reverse_append]
  show (List.dropWhile (· == (0 : Rat)) (0 :: xs.reverse)).reverse = _
  rw [List.dropWhile_cons_of_pos (by simp)]
theorem trim_snoc {xs : List Rat} {x : Rat} (h : x ≠ 0) : trim (xs ++ [x]) = xs ++ [x] := by
  unfold trim
  rw [List.reverse_append]
  show (List.dropWhile (· == (0 : Rat)) (x :: xs.reverse)).reverse = _
  rw [List.dropWhile_cons_of_neg (by simpa using h)]
  simp
theorem snoc_of_ne {xs : List Rat} (h : xs ≠ []) : ∃ x, xs.getLast? = some x ∧ xs = xs.dropLast ++ [x] :=
  ⟨xs.getLast h, List.getLast?_eq_some_getLast h, (List.dropLast_concat_getLast h).symm⟩
theorem co_trim (xs : List Rat) : ∀ n, co (trim xs) n = co xs n := by
  have go : ∀ (m : Nat) (xs : List Rat), xs.length = m → ∀ n, co (trim xs) n = co xs n := by
    intro m
    induction m with
    | zero =>
      intro xs h n
      rw [List.eq_nil_of_length_eq_zero h]
      rfl
    | succ m ih =>
      intro xs h n
      have hne : xs ≠ [] := fun e => by rw [e] at h; cases h
      obtain ⟨x, _, e⟩ := snoc_of_ne hne
      by_cases hx : x = 0
      · subst hx
        rw [e, trim_snoc0, ih xs.dropLast (by rw [List.length_dropLast, h]; rfl) n]
        by_cases hn : n < xs.dropLast.length
        · exact (co_lt (by rw [List.getElem?_append_left hn]; exact co_some hn)).symm
        · rw [co_ge (by omega)]
          by_cases hn2 : n = xs.dropLast.length
          · exact (co_lt (by rw [List.getElem?_append_right (by omega), hn2]; simp)).symm
          · exact (co_ge (by rw [List.length_append]; show xs.dropLast.length + 1 ≤ n; omega)).symm
      · rw [e, trim_snoc hx]
  exact go xs.length xs rfl
def trimd (xs : List Rat) : Prop := xs = [] ∨ ∃ x, xs.getLast? = some x ∧ x ≠ 0
theorem trimd.eq {xs : List Rat} (h : trimd xs) : trim xs = xs := by
  rcases h with rfl | ⟨x, h1, h2⟩
  · rfl
  · have hne : xs ≠ [] := fun e => by rw [e] at h1; cases h1
    obtain ⟨y, e1, e2⟩ := snoc_of_ne hne
    rw [h1] at e1
    cases e1
    rw [e2, trim_snoc h2]
theorem trim_trimd (xs : List Rat) : trimd (trim xs) := by
  have go : ∀ (m : Nat) (xs : List Rat), xs.length = m → trimd (trim xs) := by
    intro m
    induction m with
    | zero =>
      intro xs h
      rw [List.eq_nil_of_length_eq_zero h]
      exact .inl rfl
    | succ m ih =>
      intro xs h
      have hne : xs ≠ [] := fun e => by rw [e] at h; cases h
      obtain ⟨x, _, e⟩ := snoc_of_ne hne
      by_cases hx : x = 0
      · subst hx
        rw [e, trim_snoc0]
        exact ih xs.dropLast (by rw [List.length_dropLast, h]; rfl)
      · rw [e, trim_snoc hx]
        exact .inr ⟨x, by simp, hx⟩
  exact go xs.length xs rfl
theorem trimd_ext {xs ys : List Rat} (hx : trimd xs) (hy : trimd ys) (h : ∀ n, co xs n = co ys n) : xs = ys := by
  have len : ∀ {xs ys : List Rat}, trimd xs → (∀ n, co xs n = co ys n) → xs.length ≤ ys.length := by
    intro xs ys hx h
    rcases hx with rfl | ⟨x, h1, h2⟩
    · exact Nat.zero_le _
    · have hl : 0 < xs.length := by
        cases xs with
        | nil => cases h1
        | cons _ _ => exact Nat.succ_pos _
      apply Nat.le_of_not_lt
      intro hlt
      have e := h (xs.length - 1)
      rw [co_ge (xs := ys) (by omega)] at e
      rw [List.getLast?_eq_getElem?] at h1
      rw [co_lt h1] at e
      exact h2 e
  have l1 := len hx h
  have l2 := len hy fun n => (h n).symm
  apply List.ext_getElem?
  intro i
  by_cases hi : i < xs.length
  · rw [co_some hi, co_some (by omega), h i]
  · rw [List.getElem?_eq_none (by omega), List.getElem?_eq_none (by omega)]
theorem trim_length (xs : List Rat) : (trim xs).length ≤ xs.length := by
  unfold trim
  rw [List.length_reverse]
  have h := (List.dropWhile_sublist (fun x : Rat => x == 0) (l := xs.reverse)).length_le
  rw [List.length_reverse] at h
  exact h
theorem mem_trim {xs : List Rat} {x : Rat} (h : x ∈ trim xs) : x ∈ xs := by
  unfold trim at h
  rw [List.mem_reverse] at h
  have := (List.dropWhile_sublist (fun x : Rat => x == 0) (l := xs.reverse)).subset h
  simpa using this
/-! ### products -/
/-- the sum of the first i products that make the number at k -/
def pc (xs ys : List Rat) : Nat → Nat → Rat
  | 0, _ => 0
  | i + 1, k => pc xs ys i k + if i ≤ k then co xs i * co ys (k - i) else 0
def cv (xs ys : List Rat) (k : Nat) : Rat := pc xs ys xs.length k
/-- the product's row -/
def pmul (xs ys : List Rat) : List Rat := trim ((List.range (xs.length + ys.length)).map (cv xs ys))
def psub (xs ys : List Rat) : List Rat := trim ((List.range (max xs.length ys.length)).map fun i => co xs i - co ys i)
def pscale (a : Rat) (xs : List Rat) : List Rat := trim (xs.map fun x => a * x)
/-- the worth at z -/
def worth (xs : List Rat) (z : Rat) : Rat := xs.foldr (fun x a => a * z + x) 0
theorem co_range {n : Nat} {f : Nat → Rat} (k : Nat) (h : ∀ k, n ≤ k → f k = 0) : co ((List.range n).map f) k = f k := by
  by_cases hk : k < n
  · exact co_lt (by rw [List.getElem?_map, List.getElem?_range hk]; rfl)
  · rw [co_ge (by simp; omega), h k (by omega)]
theorem co_map {xs : List Rat} {f : Rat → Rat} (h : f 0 = 0) (k : Nat) : co (xs.map f) k = f (co xs k) := by
  by_cases hk : k < xs.length
  · exact co_lt (by rw [List.getElem?_map, co_some hk]; rfl)
  · rw [co_ge (by simp; omega), co_ge (by omega), h]
theorem co_pscale (a : Rat) (xs : List Rat) (k : Nat) : co (pscale a xs) k = a * co xs k := by
  unfold pscale
  rw [co_trim, co_map (f := fun x => a * x) (by grind)]
theorem co_psub (xs ys : List Rat) (k : Nat) : co (psub xs ys) k = co xs k - co ys k := by
  unfold psub
  rw [co_trim]
  exact co_range k fun k hk => by rw [co_ge (by omega), co_ge (by omega)]; grind
/-! ### sums -/
/-- a sum whose parts and whole stay small -/
def sumOk (b : Nat) (xs : List Rat) : Prop := (∀ x ∈ xs, sm b x) ∧ ∀ i, i ≤ xs.length → sm b (xs.take i).sum
theorem take_succ_sum {xs : List Rat} {i : Nat} {x : Rat} (h : xs[i]? = some x) : (xs.take (i + 1)).sum = (xs.take i).sum + x := by
  rw [List.take_succ, h]
  simp only [Option.toList_some, List.sum_append, List.sum_cons, List.sum_nil]
  grind
end DL
/-! DL21: comprehensions over mapped items. -/
namespace DL
open PySem PySem.Spec PyProof.Rows L2
section
variable {w : W3}
theorem comp_mapF {α : Type} {own : List Nat} {tg : TDG} {te : TD} {Q : List PyData → W3 → Prop} {sl : List (Option Rv)} (f g : α → PyData) : ∀ (ys : List α) (acc : List PyData),
    (∀ y ∈ ys, ∀ K : PyData → W3 → Prop, K (g y) w → tg (f y) ⟨wipeD sl own, w⟩ fun s1 => te s1 fun r w2 => kp r fun y => K y w2) → Q (acc ++ ys.map g) w → compD own tg dYes te Q sl (ys.map f) acc w
  | [], acc, _, q => by simpa [compD] using q
  | y :: ys, acc, h, q => by
    show tg (f y) ⟨wipeD sl own, w⟩ fun s1 => te s1 fun r w2 => kp r fun z => compD own tg dYes te Q sl (ys.map f) (acc ++ [z]) w2
    refine h y List.mem_cons_self (fun z w2 => compD own tg dYes te Q sl (ys.map f) (acc ++ [z]) w2) ?_
    refine comp_mapF f g ys _ (fun y hy => h y (List.mem_cons_of_mem _ hy)) ?_
    simpa using q
theorem comp_filF {α : Type} {own : List Nat} {tg : TDG} {tt : TDT} {te : TD} {Q : List PyData → W3 → Prop} {sl : List (Option Rv)} (f g : α → PyData) (p : α → Bool) : ∀ (ys : List α) (acc : List PyData),
    (∀ y ∈ ys, ∀ (K1 : PyData → W3 → Prop) (K0 : W3 → Prop), (p y = true → K1 (g y) w) → (p y = false → K0 w) → tg (f y) ⟨wipeD sl own, w⟩ fun s1 => tt s1 fun b w1 => if b = true then te (s1.wl w1) fun r w2 => kp r fun y => K1 y w2 else K0 w1) →
    Q (acc ++ (ys.filter p).map g) w → compD own tg tt te Q sl (ys.map f) acc w
  | [], acc, _, q => by simpa [compD] using q
  | y :: ys, acc, h, q => by
    refine h y List.mem_cons_self (fun z w2 => compD own tg tt te Q sl (ys.map f) (acc ++ [z]) w2) (fun w1 => compD own tg tt te Q sl (ys.map f) acc w1) (fun e => ?_) fun e => ?_
    · refine comp_filF f g p ys _ (fun y hy => h y (List.mem_cons_of_mem _ hy)) ?_
      rw [List.filter_cons_of_pos e] at q
      simpa using q
    · refine comp_filF f g p ys _ (fun y hy => h y (List.mem_cons_of_mem _ hy)) ?_
      rw [List.filter_cons_of_neg (by simp [e])] at q
      exact q
theorem intsBy_eq {lo c : Int} {n : Nat} : intsBy lo c n = (List.range n).map fun (k : Nat) => PyData.int (lo + (k : Int) * c) := rfl
theorem comp_rng {own : List Nat} {tg : TDG} {te : TD} {Q : List PyData → W3 → Prop} {sl : List (Option Rv)} (g : Nat → PyData) {n : Nat}
    (h : ∀ i, i < n → ∀ K : PyData → W3 → Prop, K (g i) w → tg (.int (i : Int)) ⟨wipeD sl own, w⟩ fun s1 => te s1 fun r w2 => kp r fun y => K y w2) (q : Q ((List.range n).map g) w) : compD own tg dYes te Q sl (intsBy 0 1 n) [] w := by
  rw [intsBy_eq]
  refine comp_mapF (fun (k : Nat) => PyData.int (0 + (k : Int) * 1)) g _ _ (fun i hi K k => ?_) (by simpa using q)
  have := h i (List.mem_range.mp hi) K k
  rw [show (0 : Int) + (i : Int) * 1 = (i : Int) by omega]
  exact this
theorem rng_get {n i : Nat} {x : PyData} (h : (intsBy 0 1 n)[i]? = some x) : i < n ∧ x = .int (i : Int) := by
  obtain ⟨h1, h2⟩ := intsBy_get h
  exact ⟨h1, by rw [h2]; congr 1; omega⟩
theorem rng_get2 {lo : Int} {n i : Nat} {x : PyData} (h : (intsBy lo 1 n)[i]? = some x) : i < n ∧ x = .int (lo + (i : Int)) := by
  obtain ⟨h1, h2⟩ := intsBy_get h
  exact ⟨h1, by rw [h2]; congr 1; omega⟩
end
end DL
/-! DL22: stores as rewriting; lists that are built of a function. -/
namespace DL
open PySem PySem.Spec PyProof.Rows L2
section
variable {l : List (Option Rv)} {w w0 : W3} {Q : Rv → W3 → Prop} {s : S} {D : De} {xs : List PyData}
def oq (o : Option (Option Rv)) (k : List PyData → Prop) : Prop := match o with
  | some (some (.l xs)) => k xs
  | _ => False
theorem own_eq {i : Nat} {k : List PyData → Prop} : own ⟨l, w⟩ i k = oq l[i]? k := rfl
theorem oq_l {k : List PyData → Prop} : oq (some (some (.l xs))) k = k xs := rfl
def ixq (o : Option Nat) (k : Nat → Prop) : Prop := match o with
  | some n => k n
  | none => False
theorem setIx_eq {j : Nat} {ti te : TD} : dSetIx j ti te D s = te s fun r w => kp r fun y => own s j fun xs => ti (s.wl w) fun r2 w2 => asInt r2 fun m => ixq (ixN xs.length m) fun n => D.nx ⟨s.sl.set j (some (.l (xs.set n y))), w2⟩ := by
  unfold dSetIx ixq
  rfl
theorem ixq_of {n : Nat} {m : Int} {k : Nat → Prop} (h0 : 0 ≤ m) (h : m < (n : Int)) (q : k m.toNat) : ixq (ixN n m) k := by
  unfold ixq ixN
  rw [if_pos h0, if_pos h]
  exact q
theorem append_eq {i : Nat} {t : TD} : dAppend i t D s = own s i fun xs => xs.length < 16000000 ∧ t s fun r w => kp r fun y => D.nx ⟨s.sl.set i (some (.l (xs ++ [y]))), w⟩ := rfl
theorem numbered_at {ys : List PyData} {i : Nat} {z : PyData} (h : (numbered 0 ys)[i]? = some z) : ∃ y, ys[i]? = some y ∧ z = .tuple [.int (i : Int), y] := by
  obtain ⟨y, h1, h2⟩ := numbered_get h
  rw [Nat.zero_add] at h2
  exact ⟨y, h1, h2⟩
theorem numbered_row {xs : List Rat} {i : Nat} {z : PyData} (h : (numbered 0 (xs.map fr))[i]? = some z) : i < xs.length ∧ z = .tuple [.int (i : Int), fr (co xs i)] := by
  obtain ⟨y, h1, h2⟩ := numbered_at h
  rw [List.getElem?_map] at h1
  obtain ⟨x, ex, rfl⟩ := Option.map_eq_some_iff.mp h1
  have hl := (List.getElem?_eq_some_iff.mp ex).1
  rw [co_lt ex]
  exact ⟨hl, h2⟩
def enQ (r : Rv) (w : W3) (R : List PyData → W3 → Prop) : Prop := match r with
  | .d (.tuple xs) => R (numbered 0 xs) w
  | _ => False
theorem diEnumT_eq2 {t : TD} {R : List PyData → W3 → Prop} : diEnumT t s R = t s fun r w => enQ r w R := rfl
theorem enQ_row {R : List PyData → W3 → Prop} {xs : List Rat} : enQ (.d (row xs)) w R = R (numbered 0 (xs.map fr)) w := rfl
theorem fRep_l {k : Int} {R : Rv → Prop} : fRep (.l xs) (.d (.int k)) R = ((cnt k ∧ xs.length * k.toNat ≤ 16000000) ∧ R (.l (repD xs k.toNat))) := rfl
theorem fCat_ll {ys : List PyData} {R : Rv → Prop} : fCat (.l xs) (.l ys) R = (xs.length + ys.length ≤ 16000000 ∧ R (.l (xs ++ ys))) := rfl
theorem fCat_lp {ys : List PyData} {R : Rv → Prop} : fCat (.l xs) (.p ys) R = (xs.length + ys.length ≤ 16000000 ∧ R (.l (xs ++ ys))) := rfl
theorem numbered_rlen {xs : List Rat} : (numbered 0 (xs.map fr)).length = xs.length := by rw [numbered_len, List.length_map]
/-! ### the list of f's first n values -/
def tab (n : Nat) (f : Nat → Rat) : List Rat := (List.range n).map f
theorem tab_len {n : Nat} {f : Nat → Rat} : (tab n f).length = n := by simp [tab]
theorem tab_get {n i : Nat} {f : Nat → Rat} (h : i < n) : (tab n f)[i]? = some (f i) := by
  unfold tab
  rw [List.getElem?_map, List.getElem?_range h]
  rfl
theorem tab_co {n i : Nat} {f : Nat → Rat} (h : i < n) : co (tab n f) i = f i := co_lt (tab_get h)
theorem tab_set {n i : Nat} {f g : Nat → Rat} {x : Rat} (h : i < n) (h1 : g i = x) (h2 : ∀ k, k ≠ i → g k = f k) : (tab n f).set i x = tab n g := by
  apply List.ext_getElem?
  intro k
  by_cases hk : k < n
  · rw [tab_get hk]
    by_cases e : k = i
    · subst e
      rw [List.getElem?_set_self (by rw [tab_len]; exact hk), h1]
    · rw [List.getElem?_set_ne (Ne.symm e), tab_get hk, h2 k e]
  · rw [List.getElem?_eq_none (by rw [List.length_set, tab_len]; omega), List.getElem?_eq_none (by rw [tab_len]; omega)]
theorem tab_congr {n : Nat} {f g : Nat → Rat} (h : ∀ k, k < n → f k = g k) : tab n f = tab n g := by
  unfold tab
  exact List.map_congr_left fun k hk => h k (List.mem_range.mp hk)
theorem rep_zero (n : Nat) : repD [fr 0] n = (tab n fun _ => 0).map fr := by
  unfold repD tab
  induction n with
  | zero => rfl
  | succ n ih =>
    rw [List.replicate_succ, List.flatten_cons, ih, List.range_succ, List.map_append, List.map_append]
    have e : ∀ m : Nat, [fr 0] ++ (List.map fr (List.map (fun _ => (0 : Rat)) (List.range m))) = (List.map fr (List.map (fun _ => (0 : Rat)) (List.range m))) ++ [fr 0] := by
      intro m
      rw [List.map_map, show (fr ∘ fun _ : Nat => (0 : Rat)) = fun _ => fr 0 from rfl, List.map_const', List.length_range]
      exact (List.replicate_succ (n := m) (a := fr 0)).symm.trans (List.replicate_succ' (n := m) (a := fr 0))
    exact e n
theorem map_set {ys : List Rat} {i : Nat} {x : Rat} : (ys.map fr).set i (fr x) = (ys.set i x).map fr := (List.map_set).symm
end
end DL
/-! DL23: the first numbers of a quotient. -/
namespace DL
open PySem PySem.Spec PyProof.Rows L2
/-- the number at n of top, less the first j products -/
def rec_ (top under xs : List Rat) (n : Nat) : Nat → Rat
  | 0 => co top n
  | j + 1 => rec_ top under xs n j - co under (j + 1) * co xs (n - (j + 1))
def nxt (top under xs : List Rat) (n : Nat) : Rat := rec_ top under xs n (min n (under.length - 1))
/-- the first n numbers of top over under -/
def ser (top under : List Rat) : Nat → List Rat
  | 0 => []
  | n + 1 => ser top under n ++ [nxt top under (ser top under n) n]
theorem ser_len (top under : List Rat) : ∀ n, (ser top under n).length = n
  | 0 => rfl
  | n + 1 => by
    show (ser top under n ++ [_]).length = n + 1
    rw [List.length_append, ser_len top under n]
    rfl
structure serOk (top under : List Rat) (many : Nat) : Prop where
  und : ∀ i, sm 4000 (co under i)
  num : ∀ n, n < many → ∀ j, sm 4000 (co (ser top under n) j)
  par : ∀ n, n < many → ∀ j, j ≤ n → sm 4000 (rec_ top under (ser top under n) n j)
  pro : ∀ n, n < many → ∀ j, j ≤ n → sm 4000 (co under j * co (ser top under n) (n - j))
theorem lst_snoc {xs : List Rat} {x : Rat} : xs.map fr ++ [fr x] = (xs ++ [x]).map fr := by simp
end DL
/-! DL24: bends, plainly. -/
namespace DL
open PySem PySem.Spec PyProof.Rows L2
def nextN (xs : List Rat) (b : Rat) : List Rat := (xs.dropLast.zip xs.reverse).map fun p => (p.1 - b * p.2) / (1 - b * b)
theorem nextN_len {xs : List Rat} {b : Rat} : (nextN xs b).length = xs.length - 1 := by
  unfold nextN
  rw [List.length_map, List.length_zip, List.length_dropLast, List.length_reverse]
  omega
def smB (b : Nat) (x : Rat) : Bool := decide (x.num.natAbs < 2 ^ b) && decide (x.den < 2 ^ b)
theorem smB_ok {b : Nat} {x : Rat} (h : smB b x = true) : sm b x := by
  unfold smB at h
  rw [Bool.and_eq_true, decide_eq_true_eq, decide_eq_true_eq] at h
  exact h
/-- all bends are within 1, and all numbers small -/
def bendsOk : Nat → List Rat → Bool
  | 0, _ => true
  | n + 1, xs => decide (xs.length ≤ 1) || (match xs.getLast? with
    | some b => decide (b.num.natAbs < b.den) && (xs.all (smB 900) && bendsOk n (nextN xs b))
    | none => false)
theorem bendsOk_step {n : Nat} {xs : List Rat} (h : bendsOk (n + 1) xs = true) (hl : 1 < xs.length) : ∃ b, xs.getLast? = some b ∧ b.num.natAbs < b.den ∧ (∀ x ∈ xs, sm 900 x) ∧ bendsOk n (nextN xs b) = true := by
  unfold bendsOk at h
  rw [decide_eq_false (by omega), Bool.false_or] at h
  cases e : xs.getLast? with
  | none =>
    rw [e] at h
    cases h
  | some b =>
    rw [e] at h
    rw [Bool.and_eq_true, Bool.and_eq_true, decide_eq_true_eq, List.all_eq_true] at h
    exact ⟨b, rfl, h.1, fun x hx => smB_ok (h.2.1 x hx), h.2.2⟩
theorem bend_ne {b : Rat} (h : b.num.natAbs < b.den) : b * b ≠ 1 := by
  intro e
  have e1 : b = 1 ∨ b = -1 := by
    have : (b - 1) * (b + 1) = 0 := by grind
    rcases Rat.mul_eq_zero.mp this with h | h
    · left; grind
    · right; grind
  rcases e1 with rfl | rfl
  · exact absurd h (by decide)
  · exact absurd h (by decide)
end DL
/-! DL25: sizes of sums, products, quotients; slices as rewriting. -/
namespace DL
open PySem PySem.Spec PyProof.Rows L2
theorem fdiv_le {a : Int} {g : Nat} (hg : 0 < g) : (a.fdiv (g : Int)).natAbs ≤ a.natAbs := by
  rw [Int.fdiv_eq_ediv_of_nonneg _ (Int.natCast_nonneg _)]
  exact Int.natAbs_ediv_le_natAbs a (g : Int)
theorem div_small {a b : Int} (hb : b ≠ 0) : ((a : Rat) / (b : Rat)).num.natAbs ≤ a.natAbs ∧ ((a : Rat) / (b : Rat)).den ≤ b.natAbs := by
  have pos : ∀ {a b : Int}, 0 < b → ((a : Rat) / (b : Rat)).num.natAbs ≤ a.natAbs ∧ ((a : Rat) / (b : Rat)).den ≤ b.natAbs := by
    intro a b hb
    obtain ⟨e1, e2⟩ := div_pos_nd (a := a) hb
    have hg : 0 < Nat.gcd a.natAbs b.natAbs := Nat.gcd_pos_of_pos_right _ (by omega)
    refine ⟨by rw [← e1]; exact fdiv_le hg, ?_⟩
    have h2 := fdiv_le (a := b) hg
    rw [e2, Int.natAbs_natCast] at h2
    exact h2
  by_cases h : 0 < b
  · exact pos h
  · have h2 := pos (a := -a) (b := -b) (by omega)
    have e : (((-a : Int) : Rat) / ((-b : Int) : Rat)) = (a : Rat) / (b : Rat) := by
      have hb' : (b : Rat) ≠ 0 := rat_ne hb
      rw [Rat.intCast_neg, Rat.intCast_neg]
      grind
    rw [e, Int.natAbs_neg, Int.natAbs_neg] at h2
    exact h2
theorem sm.frac {n : Nat} {a b : Int} (hb : b ≠ 0) (h1 : a.natAbs < 2 ^ n) (h2 : b.natAbs < 2 ^ n) : sm n ((a : Rat) / (b : Rat)) := by
  obtain ⟨e1, e2⟩ := div_small (a := a) hb
  exact ⟨Nat.lt_of_le_of_lt e1 h1, Nat.lt_of_le_of_lt e2 h2⟩
section
variable {a b : Nat} {x y : Rat}
theorem dnz (x y : Rat) : (x.den * y.den : Int) ≠ 0 := Int.mul_ne_zero (by have := x.den_nz; omega) (by have := y.den_nz; omega)
theorem sm.mul (hx : sm a x) (hy : sm b y) : sm (a + b) (x * y) := by
  rw [← mul_nd x y]
  exact sm.frac (dnz x y) (lt_two_pow_mul hx.1 hy.1) (lt_two_pow_mul hx.d hy.d)
theorem sm.add (hx : sm a x) (hy : sm b y) : sm (a + b + 1) (x + y) := by
  rw [← add_nd x y]
  refine sm.frac (dnz x y) (lt_two_pow_add (lt_two_pow_mul hx.1 hy.d) ?_) (lt_two_pow_mono (lt_two_pow_mul hx.d hy.d) (by omega))
  rw [Nat.add_comm a b]
  exact lt_two_pow_mul hy.1 hx.d
theorem sm.sub (hx : sm a x) (hy : sm b y) : sm (a + b + 1) (x - y) := by
  rw [← sub_nd x y]
  refine sm.frac (dnz x y) (lt_two_pow_sub (lt_two_pow_mul hx.1 hy.d) ?_) (lt_two_pow_mono (lt_two_pow_mul hx.d hy.d) (by omega))
  rw [Nat.add_comm a b]
  exact lt_two_pow_mul hy.1 hx.d
theorem sm.div (hx : sm a x) (hy : sm b y) (h : y ≠ 0) : sm (a + b) (x / y) := by
  rw [← div_nd h]
  refine sm.frac (Int.mul_ne_zero (by have := x.den_nz; omega) fun e => h (Rat.num_eq_zero.mp e)) (lt_two_pow_mul hx.1 hy.d) (lt_two_pow_mul hx.d hy.1)
theorem sm.abs (hx : sm a x) : sm a (rabs x) := by
  unfold rabs
  split
  · exact ⟨by rw [Rat.neg_num, Int.natAbs_neg]; exact hx.1, by rw [Rat.neg_den]; exact hx.2⟩
  · exact hx
end
section
variable {l : List (Option Rv)} {w w0 : W3} {Q : Rv → W3 → Prop} {s : S} {D : De} {xs : List PyData}
def lsQ (r : Rv) (k : List PyData → Prop) : Prop := match listOf r with
  | some xs => k xs
  | none => False
theorem revL_eq {t : TD} : dRevL t s Q = t s fun x w => lsQ x fun xs => Q (.l xs.reverse) w := rfl
theorem lsQ_dl {k : List PyData → Prop} : lsQ (.d (.list xs)) k = k xs := rfl
theorem lsQ_a {k : List PyData → Prop} : lsQ (.a xs) k = k xs := rfl
theorem lsQ_l {k : List PyData → Prop} : lsQ (.l xs) k = k xs := rfl
theorem lsQ_p {k : List PyData → Prop} : lsQ (.p xs) k = k xs := rfl
def tpQ (r : Rv) (k : List PyData → Prop) : Prop := match r with
  | .d (.tuple xs) => k xs
  | _ => False
theorem revT_eq {t : TD} : dRevT t s Q = t s fun x w => tpQ x fun xs => Q (.d (.tuple xs.reverse)) w := rfl
theorem tpQ_t {k : List PyData → Prop} : tpQ (.d (.tuple xs)) k = k xs := rfl
theorem tpQ_row {ys : List Rat} {k : List PyData → Prop} : tpQ (.d (row ys)) k = k (ys.map fr) := rfl
theorem sl_eq {t : TD} {tl th : TDO} : dSl t tl th s Q = t s fun x w1 => tl (s.wl w1) fun l w2 => th (s.wl w2) fun u w3 => fSl x l u fun z => Q z w3 := rfl
theorem doNone_eq {R : Option Int → W3 → Prop} : doNone s R = R none s.w := rfl
theorem doSome_eq {t : TD} {R : Option Int → W3 → Prop} : doSome t s R = t s fun x w => asInt x fun i => R (some i) w := rfl
section
variable {lo hi : Option Int} {R : Rv → Prop}
theorem fSl_t : fSl (.d (.tuple xs)) lo hi R = R (.d (.tuple (cutD xs lo hi))) := rfl
theorem fSl_dl : fSl (.d (.list xs)) lo hi R = R (.l (cutD xs lo hi)) := rfl
theorem fSl_a : fSl (.a xs) lo hi R = R (.l (cutD xs lo hi)) := rfl
theorem fSl_l : fSl (.l xs) lo hi R = R (.l (cutD xs lo hi)) := rfl
theorem fSl_p : fSl (.p xs) lo hi R = R (.l (cutD xs lo hi)) := rfl
end
theorem fz_own {i : Nat} {t : TSD} : dFz i t D s = own s i fun xs => t D ⟨s.sl.set i (some (.d (.list xs))), s.w⟩ := rfl
theorem cut_butlast {ys : List PyData} (h : ys ≠ []) : cutD ys none (some (-1)) = ys.dropLast := by
  have hl : 0 < ys.length := List.length_pos_iff.mpr h
  show (ys.drop 0).take ((if (-1 : Int) < 0 then ((-1 : Int) + (ys.length : Int)).toNat else min (-1 : Int).toNat ys.length) - 0) = _
  rw [if_pos (by decide), List.drop_zero, List.dropLast_eq_take]
  congr 1
  omega
theorem cut_to {ys : List PyData} {n : Nat} (h : n ≤ ys.length) : cutD ys none (some (n : Int)) = ys.take n := by
  show (ys.drop 0).take (HT.sIx ys.length ys.length (some (n : Int)) - 0) = _
  rw [HT.sIx_nat, List.drop_zero, Nat.min_eq_left h, Nat.sub_zero]
theorem pairs_map {xs ys : List Rat} : pairsOf (xs.map fr) (ys.map fr) = (xs.zip ys).map fun p => .tuple [fr p.1, fr p.2] := by
  induction xs generalizing ys with
  | nil => cases ys <;> rfl
  | cons x xs ih =>
    cases ys with
    | nil => rfl
    | cons y ys => simp [pairsOf, ih]
end
end DL
/-! DL26: rows as operators on sequences. -/
namespace DL
abbrev Sq := Nat → Rat
/-- one place later -/
def sh (f : Sq) : Sq := fun n => match n with
  | 0 => 0
  | n + 1 => f n
/-- the row times a sequence -/
def mu : List Rat → Sq → Sq
  | [], _ => fun _ => 0
  | x :: xs, g => fun n => x * g n + sh (mu xs g) n
def dl : Sq := fun n => if n = 0 then 1 else 0
theorem sh_add (f g : Sq) : sh (fun n => f n + g n) = fun n => sh f n + sh g n := by
  funext n
  cases n with
  | zero => show (0 : Rat) = 0 + 0; grind
  | succ n => rfl
theorem sh_smul (a : Rat) (f : Sq) : sh (fun n => a * f n) = fun n => a * sh f n := by
  funext n
  cases n with
  | zero => show (0 : Rat) = a * 0; grind
  | succ n => rfl
theorem mu_zero (xs : List Rat) : mu xs (fun _ => 0) = fun _ => 0 := by
  induction xs with
  | nil => rfl
  | cons x xs ih =>
    funext n
    show x * 0 + sh (mu xs fun _ => 0) n = 0
    rw [ih]
    cases n with
    | zero => show x * 0 + 0 = 0; grind
    | succ n => show x * 0 + 0 = 0; grind
theorem mu_add (xs : List Rat) (f g : Sq) : mu xs (fun n => f n + g n) = fun n => mu xs f n + mu xs g n := by
  induction xs with
  | nil => funext n; show (0 : Rat) = 0 + 0; grind
  | cons x xs ih =>
    funext n
    show x * (f n + g n) + sh (mu xs fun n => f n + g n) n = x * f n + sh (mu xs f) n + (x * g n + sh (mu xs g) n)
    rw [ih, sh_add]
    grind
theorem mu_smul (xs : List Rat) (a : Rat) (f : Sq) : mu xs (fun n => a * f n) = fun n => a * mu xs f n := by
  induction xs with
  | nil => funext n; show (0 : Rat) = a * 0; grind
  | cons x xs ih =>
    funext n
    show x * (a * f n) + sh (mu xs fun n => a * f n) n = a * (x * f n + sh (mu xs f) n)
    rw [ih, sh_smul]
    grind
theorem mu_sh (xs : List Rat) (f : Sq) : mu xs (sh f) = sh (mu xs f) := by
  induction xs with
  | nil => funext n; cases n <;> rfl
  | cons x xs ih =>
    funext n
    show x * sh f n + sh (mu xs (sh f)) n = _
    rw [ih]
    cases n with
    | zero => show x * 0 + 0 = 0; grind
    | succ n => rfl
theorem mu_comm (xs ys : List Rat) (g : Sq) : mu xs (mu ys g) = mu ys (mu xs g) := by
  induction xs with
  | nil =>
    show (fun _ => 0) = mu ys fun _ => 0
    rw [mu_zero]
  | cons x xs ih =>
    have e : mu (x :: xs) g = fun n => (x * g n) + sh (mu xs g) n := rfl
    rw [e, mu_add, mu_smul, mu_sh, ← ih]
    rfl
theorem co_cons (x : Rat) (xs : List Rat) (n : Nat) : co (x :: xs) (n + 1) = co xs n := rfl
theorem mu_dl (xs : List Rat) : mu xs dl = co xs := by
  induction xs with
  | nil => funext n; exact (co_ge (Nat.zero_le _)).symm
  | cons x xs ih =>
    funext n
    show x * dl n + sh (mu xs dl) n = co (x :: xs) n
    rw [ih]
    cases n with
    | zero => show x * 1 + 0 = x; grind
    | succ n => show x * 0 + co xs n = co xs n; grind
/-- the sums that the program makes -/
theorem pc_cons (x : Rat) (xs ys : List Rat) : ∀ i k, pc (x :: xs) ys (i + 1) k = x * co ys k + sh (fun n => pc xs ys i n) k
  | 0, k => by
    show pc (x :: xs) ys 0 k + (if 0 ≤ k then co (x :: xs) 0 * co ys (k - 0) else 0) = _
    rw [if_pos (Nat.zero_le _)]
    show (0 : Rat) + x * co ys k = _
    cases k with
    | zero => show _ = x * co ys 0 + 0; grind
    | succ k => show _ = x * co ys (k + 1) + 0; grind
  | i + 1, k => by
    show pc (x :: xs) ys (i + 1) k + (if i + 1 ≤ k then co (x :: xs) (i + 1) * co ys (k - (i + 1)) else 0) = _
    rw [pc_cons x xs ys i k, co_cons]
    cases k with
    | zero =>
      rw [if_neg (by omega)]
      show x * co ys 0 + 0 + 0 = x * co ys 0 + 0
      grind
    | succ k =>
      show x * co ys (k + 1) + pc xs ys i k + (if i + 1 ≤ k + 1 then co xs i * co ys (k + 1 - (i + 1)) else 0) = x * co ys (k + 1) + (pc xs ys i k + if i ≤ k then co xs i * co ys (k - i) else 0)
      by_cases h : i ≤ k
      · rw [if_pos h, if_pos (by omega), Nat.add_sub_add_right]
        grind
      · rw [if_neg h, if_neg (by omega)]
        grind
theorem cv_mu (xs ys : List Rat) (k : Nat) : cv xs ys k = mu xs (co ys) k := by
  unfold cv
  induction xs generalizing k with
  | nil => rfl
  | cons x xs ih =>
    show pc (x :: xs) ys (xs.length + 1) k = x * co ys k + sh (mu xs (co ys)) k
    rw [pc_cons]
    congr 1
    cases k with
    | zero => rfl
    | succ k => exact ih k
theorem mu_beyond {xs : List Rat} {g : Sq} {m : Nat} (h : ∀ n, m ≤ n → g n = 0) : ∀ n, xs.length + m ≤ n → mu xs g n = 0 := by
  induction xs with
  | nil => intro n _; rfl
  | cons x xs ih =>
    intro n hn
    have hl : (x :: xs).length = xs.length + 1 := rfl
    show x * g n + sh (mu xs g) n = 0
    rw [h n (by omega)]
    cases n with
    | zero => show x * 0 + 0 = 0; grind
    | succ n =>
      show x * 0 + mu xs g n = 0
      rw [ih n (by omega)]
      grind
theorem co_pmul (xs ys : List Rat) (k : Nat) : co (pmul xs ys) k = mu xs (co ys) k := by
  unfold pmul
  rw [co_trim, co_range k fun k hk => ?_, cv_mu]
  rw [cv_mu]
  exact mu_beyond (m := ys.length) (fun n hn => co_ge hn) k hk
theorem mu_co_comm (xs ys : List Rat) : mu xs (co ys) = mu ys (co xs) := by rw [← mu_dl ys, mu_comm, mu_dl xs]
theorem mu_trim (xs : List Rat) (g : Sq) (h : ∀ ys : List Rat, g = co ys → True) (ys : List Rat) : mu (trim xs) (co ys) = mu xs (co ys) := by
  rw [mu_co_comm, mu_co_comm xs]
  congr 1
  funext n
  exact co_trim xs n
end DL
/-! DL27: sizes by a common denominator; one step of a division. -/
namespace DL
open PySem PySem.Spec PyProof.Rows L2
/-- all numbers over one denominator, all below 2 ^ b -/
def RB (b : Nat) (f : Sq) : Prop := ∃ (D : Nat) (a : Nat → Int), 0 < D ∧ D < 2 ^ b ∧ (∀ k, (a k).natAbs < 2 ^ b) ∧ ∀ k, f k = (a k : Rat) / ((D : Int) : Rat)
theorem RB.sm {b : Nat} {f : Sq} (h : RB b f) (k : Nat) : sm b (f k) := by
  obtain ⟨D, a, h0, h1, h2, h3⟩ := h
  rw [h3 k]
  exact sm.frac (by omega) (h2 k) (by simpa using h1)
theorem RB.mono {b c : Nat} {f : Sq} (h : RB b f) (hbc : b ≤ c) : RB c f := by
  obtain ⟨D, a, h0, h1, h2, h3⟩ := h
  exact ⟨D, a, h0, lt_two_pow_mono h1 hbc, fun k => lt_two_pow_mono (h2 k) hbc, h3⟩
theorem RB.congr {b : Nat} {f g : Sq} (h : RB b f) (e : ∀ k, f k = g k) : RB b g := by
  obtain ⟨D, a, h0, h1, h2, h3⟩ := h
  exact ⟨D, a, h0, h1, h2, fun k => by rw [← e k, h3 k]⟩
theorem q1 (ak at_ cu ck d e : Rat) (hd : d ≠ 0) (he : e ≠ 0) (hc : cu ≠ 0) : ak / d - at_ / d / (cu / e) * (ck / e) = (ak * cu - at_ * ck) / (d * cu) := by grind
theorem q2 (ak cu d : Rat) (hd : d ≠ 0) (hc : cu ≠ 0) : ak / d - 0 = (ak * cu) / (d * cu) := by grind
/-- f less c times g, s places later, where c brings the number at t to 0 -/
def dstep (f g : Sq) (s t : Nat) (lead : Rat) : Sq := fun k => f k - (if s ≤ k then f t / lead * g (k - s) else 0)
theorem RB.step {b1 b2 : Nat} {f g : Sq} (hf : RB b1 f) (hg : RB b2 g) (s t u : Nat) (h : g u ≠ 0) : RB (b1 + b2 + 1) (dstep f g s t (g u)) := by
  obtain ⟨D, a, hD, h1, h2, h3⟩ := hf
  obtain ⟨E, c, hE, g1, g2, g3⟩ := hg
  have hE' : ((E : Int) : Rat) ≠ 0 := rat_ne (by omega)
  have hD' : ((D : Int) : Rat) ≠ 0 := rat_ne (by omega)
  have hc : c u ≠ 0 := by
    intro e
    apply h
    rw [g3 u, e]
    show (0 : Rat) / _ = 0
    grind
  have hc' : (c u : Rat) ≠ 0 := rat_ne hc
  -- the new numbers over D c
  have key : ∀ k, dstep f g s t (g u) k = ((a k * c u - (if s ≤ k then a t * c (k - s) else 0) : Int) : Rat) / (((D : Int) * c u : Int) : Rat) := by
    intro k
    unfold dstep
    by_cases hs : s ≤ k
    · rw [if_pos hs, if_pos hs, h3 k, h3 t, g3 u, g3 (k - s), Rat.intCast_sub, Rat.intCast_mul, Rat.intCast_mul, Rat.intCast_mul]
      exact q1 _ _ _ _ _ _ hD' hE' hc'
    · rw [if_neg hs, if_neg hs, h3 k, Int.sub_zero, Rat.intCast_mul, Rat.intCast_mul]
      exact q2 _ _ _ hD' hc'
  have num : ∀ k, (a k * c u - (if s ≤ k then a t * c (k - s) else 0)).natAbs < 2 ^ (b1 + b2 + 1) := by
    intro k
    refine lt_two_pow_sub (lt_two_pow_mul (h2 k) (g2 u)) ?_
    split
    · exact lt_two_pow_mul (h2 t) (g2 (k - s))
    · exact Nat.two_pow_pos _
  have den : ((D : Int) * c u).natAbs < 2 ^ (b1 + b2 + 1) := lt_two_pow_mono (lt_two_pow_mul (by simpa using h1) (g2 u)) (by omega)
  have dne : (D : Int) * c u ≠ 0 := Int.mul_ne_zero (by omega) hc
  by_cases hp : 0 < (D : Int) * c u
  · refine ⟨((D : Int) * c u).natAbs, _, by omega, den, num, fun k => ?_⟩
    rw [key k, Int.natAbs_of_nonneg (by omega)]
  · refine ⟨((D : Int) * c u).natAbs, fun k => -(a k * c u - (if s ≤ k then a t * c (k - s) else 0)), by omega, den, fun k => by rw [Int.natAbs_neg]; exact num k, fun k => ?_⟩
    rw [key k, show ((((D : Int) * c u).natAbs : Nat) : Int) = -((D : Int) * c u) by omega]
    have dne' : (((D : Int) * c u : Int) : Rat) ≠ 0 := rat_ne dne
    rw [Rat.intCast_neg, Rat.intCast_neg]
    grind
/-- f at s changed -/
def putAt (f : Sq) (s : Nat) (c : Rat) : Sq := fun k => if k = s then c else f k
theorem tab_zero {n : Nat} {f : Sq} {k : Nat} (h : n ≤ k) : co (tab n f) k = 0 := co_ge (by rw [tab_len]; exact h)
theorem tab_co' {n : Nat} {f : Sq} {k : Nat} (h : ∀ k, n ≤ k → f k = 0) : co (tab n f) k = f k := by
  by_cases hk : k < n
  · exact tab_co hk
  · rw [tab_zero (by omega), h k (by omega)]
theorem pc_put {q s : Nat} {f : Sq} {c : Rat} {ys : List Rat} (hs : s < q) (h0 : f s = 0) (k : Nat) : ∀ i, i ≤ q → pc (tab q (putAt f s c)) ys i k = pc (tab q f) ys i k + (if s < i ∧ s ≤ k then c * co ys (k - s) else 0)
  | 0, _ => by
    rw [if_neg (by omega)]
    show (0 : Rat) = 0 + 0
    grind
  | i + 1, hi => by
    show pc (tab q (putAt f s c)) ys i k + (if i ≤ k then co (tab q (putAt f s c)) i * co ys (k - i) else 0) = pc (tab q f) ys i k + (if i ≤ k then co (tab q f) i * co ys (k - i) else 0) + _
    rw [pc_put hs h0 k i (by omega), tab_co (by omega), tab_co (by omega)]
    unfold putAt
    by_cases e : i = s
    · subst e
      rw [if_pos rfl, h0, if_neg (show ¬ (i < i ∧ i ≤ k) by omega)]
      by_cases hk : i ≤ k
      · rw [if_pos hk, if_pos hk, if_pos (show i < i + 1 ∧ i ≤ k by omega)]
        grind
      · rw [if_neg hk, if_neg hk, if_neg (show ¬ (i < i + 1 ∧ i ≤ k) by omega)]
        try grind
    · rw [if_neg e]
      by_cases h2 : s < i ∧ s ≤ k
      · rw [if_pos h2, if_pos (show s < i + 1 ∧ s ≤ k by omega)]
        grind
      · rw [if_neg h2, if_neg (show ¬ (s < i + 1 ∧ s ≤ k) by omega)]
        grind
theorem mu_put {q s : Nat} {f : Sq} {c : Rat} {ys : List Rat} (hs : s < q) (h0 : f s = 0) (k : Nat) : mu (tab q (putAt f s c)) (co ys) k = mu (tab q f) (co ys) k + (if s ≤ k then c * co ys (k - s) else 0) := by
  rw [← cv_mu, ← cv_mu]
  unfold cv
  rw [tab_len, tab_len, pc_put hs h0 k q (Nat.le_refl _)]
  congr 1
  by_cases h : s ≤ k
  · rw [if_pos ⟨hs, h⟩, if_pos h]
  · rw [if_neg (by omega), if_neg h]
theorem trimd_len {xs : List Rat} {m : Nat} (ht : trimd xs) (h : ∀ k, m ≤ k → co xs k = 0) : xs.length ≤ m := by
  rcases ht with rfl | ⟨x, h1, h2⟩
  · exact Nat.zero_le _
  · apply Nat.le_of_not_lt
    intro hlt
    rw [List.getLast?_eq_getElem?] at h1
    have := h (xs.length - 1) (by omega)
    rw [co_lt h1] at this
    exact h2 this
theorem last_co {xs : List Rat} (hne : xs ≠ []) : xs.getLast? = some (co xs (xs.length - 1)) := by
  rw [List.getLast?_eq_getElem?]
  exact co_some (by have := List.length_pos_iff.mpr hne; omega)
theorem trimd_last {xs : List Rat} (hne : xs ≠ []) (ht : trimd xs) : co xs (xs.length - 1) ≠ 0 := by
  rcases ht with rfl | ⟨x, h1, h2⟩
  · exact absurd rfl hne
  · rw [last_co hne] at h1
    cases h1
    exact h2
end DL
/-! DL28: rows without a common divisor; the sizes within Euclid's steps. -/
namespace DL
open PySem PySem.Spec PyProof.Rows L2
/-- no row of two numbers or more divides both -/
def Cop (xs ys : List Rat) : Prop := ∀ g q1 q2 : List Rat, trimd g → (∀ n, co xs n = mu g (co q1) n) → (∀ n, co ys n = mu g (co q2) n) → g.length ≤ 1
def padd (xs ys : List Rat) : List Rat := tab (max xs.length ys.length) fun n => co xs n + co ys n
theorem co_padd (xs ys : List Rat) (n : Nat) : co (padd xs ys) n = co xs n + co ys n := by
  unfold padd
  exact tab_co' fun k hk => by rw [co_ge (by omega), co_ge (by omega)]; grind
theorem Cop.step {xs ys Q R : List Rat} (h : Cop xs ys) (e : ∀ n, co xs n = mu Q (co ys) n + co R n) : Cop ys R := by
  intro g q1 q2 hg h1 h2
  refine h g (padd (pmul Q q1) q2) q1 hg (fun n => ?_) h1
  have e1 : co (padd (pmul Q q1) q2) = fun n => mu Q (co q1) n + co q2 n := by
    funext n
    rw [co_padd, co_pmul]
  have e2 : co ys = mu g (co q1) := funext h1
  rw [e n, e1, mu_add, mu_comm g Q, ← e2, h2 n]
theorem Cop.end_ {xs : List Rat} (h : Cop xs []) (ht : trimd xs) : xs.length ≤ 1 := by
  refine h xs [1] [] ht (fun n => ?_) fun n => ?_
  · rw [mu_co_comm]
    show _ = 1 * co xs n + sh (fun _ => 0) n
    cases n with
    | zero => show _ = 1 * co xs 0 + 0; grind
    | succ n => show _ = 1 * co xs (n + 1) + 0; grind
  · rw [mu_co_comm]
    exact co_ge (Nat.zero_le _)
/-- the sizes stay within 4000 bits, whatever the remainders' lengths -/
def eOk : Nat → Nat → Nat → Nat → Nat → Bool
  | 0, _, m, b1, _ => m == 0 && decide (b1 ≤ 4000)
  | f + 1, n, m, b1, b2 => decide (b1 ≤ 4000) && (m == 0 || (decide (b1 + (n + 1 - m + 1) * (b2 + 1) ≤ 4000) && (List.range m).all fun r => eOk f m r b2 (b1 + (n + 1 - m) * (b2 + 1))))
theorem eOk_b1 {f n m b1 b2 : Nat} (h : eOk f n m b1 b2 = true) : b1 ≤ 4000 := by
  cases f with
  | zero =>
    unfold eOk at h
    rw [Bool.and_eq_true, decide_eq_true_eq] at h
    exact h.2
  | succ f =>
    unfold eOk at h
    rw [Bool.and_eq_true, decide_eq_true_eq] at h
    exact h.1
theorem eOk_step {f n m b1 b2 : Nat} (h : eOk f n m b1 b2 = true) (hm : m ≠ 0) : ∃ f', b1 + (n + 1 - m + 1) * (b2 + 1) ≤ 4000 ∧ ∀ r, r < m → eOk f' m r b2 (b1 + (n + 1 - m) * (b2 + 1)) = true := by
  cases f with
  | zero =>
    unfold eOk at h
    rw [Bool.and_eq_true, beq_iff_eq] at h
    exact absurd h.1 hm
  | succ f =>
    unfold eOk at h
    rw [Bool.and_eq_true, Bool.or_eq_true, Bool.and_eq_true, beq_iff_eq, decide_eq_true_eq, List.all_eq_true] at h
    rcases h.2 with h | h
    · exact absurd h hm
    · exact ⟨f, by simpa using h.1, fun r hr => h.2 r (List.mem_range.mpr hr)⟩
/-- an answer in lowest terms -/
structure AnsOk (top under : List Rat) : Prop where
  tt : trimd top
  tu : trimd under
  lt : top.length ≤ 60
  lu : under.length ≤ 60
  une : under ≠ []
  one : co under 0 = 1
  nil : top = [] → under = [1]
  cop : top ≠ [] → Cop top under ∧ ∃ b1 b2 f, RB b1 (co top) ∧ RB b2 (co under) ∧ eOk f top.length under.length b1 b2 = true ∧ b1 + 62 * 2 ≤ 4000 ∧ b2 + 62 * 2 ≤ 4000
theorem rb_one : RB 1 (co [1]) := by
  refine ⟨1, fun n => if n = 0 then 1 else 0, by decide, by decide, fun k => ?_, fun k => ?_⟩
  · show (if k = 0 then (1 : Int) else 0).natAbs < 2 ^ 1
    split <;> decide
  · show co [1] k = (((if k = 0 then (1 : Int) else 0) : Int) : Rat) / _
    cases k with
    | zero => decide +kernel
    | succ k =>
      rw [if_neg (by omega), co_ge (by simp)]
      decide +kernel
theorem mu_one (xs : List Rat) (n : Nat) : mu xs (co [1]) n = co xs n := by
  rw [mu_co_comm]
  show 1 * co xs n + sh (fun _ => 0) n = _
  cases n with
  | zero => show 1 * co xs 0 + 0 = _; grind
  | succ n => show 1 * co xs (n + 1) + 0 = _; grind
theorem trimd_one : trimd [1] := .inr ⟨1, rfl, by decide⟩
end DL
/-! DL29: bounds of the worst, plainly. -/
namespace DL
open PySem PySem.Spec PyProof.Rows L2
structure MulOk (xs ys : List Rat) : Prop where
  lx : xs.length ≤ 400
  ly : ys.length ≤ 400
  x : ∀ i, sm 4000 (co xs i)
  y : ∀ i, sm 4000 (co ys i)
  p : ∀ i j, sm 4000 (co xs i * co ys j)
  c : ∀ i k, sm 4000 (pc xs ys i k)
def share (under x : List Rat) : Rat := ((psub [1] (pmul under x)).map rabs).sum
def upper (top x : List Rat) : Rat := ((pmul top x).map rabs).sum
def loB (top under x : List Rat) : Rat := upper top x / (1 + share under x)
def hiB (top under x : List Rat) : Rat := upper top x / (1 - share under x)
def bnds (top under x : List Rat) : PyData := if share under x < 1 then .tuple [fr (loB top under x), fr (hiB top under x)] else .none
structure BOk (top under x : List Rat) : Prop where
  mu_ : MulOk under x
  mt : MulOk top x
  e : ∀ i, sm 4000 (co (pmul under x) i)
  s1 : sumOk 4000 ((psub [1] (pmul under x)).map rabs)
  s2 : sumOk 4000 ((pmul top x).map rabs)
  ss : sm 1500 (share under x)
  su : sm 1500 (upper top x)
theorem rabs_nn (x : Rat) : 0 ≤ rabs x := by
  unfold rabs
  split <;> grind
theorem sum_nn : ∀ xs : List Rat, (∀ x ∈ xs, 0 ≤ x) → 0 ≤ xs.sum
  | [], _ => by show (0 : Rat) ≤ 0; grind
  | x :: xs, h => by
    have h1 := h x List.mem_cons_self
    have h2 := sum_nn xs fun y hy => h y (List.mem_cons_of_mem _ hy)
    rw [List.sum_cons]
    grind
theorem abs_sum_nn (xs : List Rat) : 0 ≤ (xs.map rabs).sum := sum_nn _ fun x hx => by
  obtain ⟨y, _, rfl⟩ := List.mem_map.mp hx
  exact rabs_nn y
theorem share_nn (under x : List Rat) : 0 ≤ share under x := abs_sum_nn _
theorem upper_nn (top x : List Rat) : 0 ≤ upper top x := abs_sum_nn _
def near (top under x : List Rat) (many : Int) : Prop := share under x < 1 ∧ ¬ (1 / (many : Rat) < hiB top under x - loB top under x)
theorem one_over {m : Int} (h : 0 < m) : PyData.tuple [.int 1, .int m] = fr (1 / (m : Rat)) := by
  obtain ⟨e1, e2⟩ := div_pos_nd (a := 1) h
  have eg : Nat.gcd (1 : Int).natAbs m.natAbs = 1 := Nat.gcd_one_left _
  rw [eg] at e1 e2
  have c1 : (((1 : Int) : Rat) / (m : Rat)) = 1 / (m : Rat) := rfl
  rw [c1] at e1 e2
  unfold fr
  rw [← e1, ← e2]
  congr 3
  show PyData.int m = PyData.int (m.fdiv 1)
  rw [Int.fdiv_one]
/-- the row of 1 over under, n numbers -/
def rwn (under : List Rat) (n : Nat) : List Rat := trim (ser [1] under n)
theorem rwn_one (under : List Rat) : rwn under 1 = [1] := by
  unfold rwn
  have : ser [1] under 1 = [1] := by
    show [] ++ [nxt [1] under [] 0] = [1]
    unfold nxt
    rw [Nat.zero_min]
    rfl
  rw [this]
  exact trimd_one.eq
/-- all that the search for bounds needs -/
structure BdOk (top under : List Rat) (many : Int) : Prop where
  ser : serOk [1] under 128
  b : ∀ n, n ≤ 128 → BOk top under (rwn under n)
  near : near top under (rwn under 128) many
theorem serOk.le {top under : List Rat} {m n : Nat} (h : serOk top under n) (hm : m ≤ n) : serOk top under m :=
  ⟨h.und, fun k hk => h.num k (by omega), fun k hk => h.par k (by omega), fun k hk => h.pro k (by omega)⟩
end DL
/-! DL30: what is drawn. -/
namespace DL
open PySem PySem.Spec PyProof.Rows L2
/-- a well after at most n draws -/
def wok (n : Nat) (w : W3) : Prop := 0 ≤ w.1 ∧ (0 ≤ w.2.1 ∧ w.2.1 < 2147483648) ∧ 0 ≤ w.2.2 ∧ w.2.2 ≤ (n : Int)
theorem wok.mono {n m : Nat} {w : W3} (h : wok n w) (hnm : n ≤ m) : wok m w := ⟨h.1, h.2.1, h.2.2.1, by have := h.2.2.2; omega⟩
/-- a drawn number -/
def okN (x : Rat) : Prop := ∃ a b : Int, x = (a : Rat) / (b : Rat) ∧ -50 ≤ a ∧ a ≤ 50 ∧ (b = 1 ∨ b = 2 ∨ b = 3 ∨ b = 5)
/-- a drawn zero, its size -/
def okZ (z : Rat) : Prop := ∃ u t : Int, z = ((u + 1 + t : Int) : Rat) / (u : Rat) ∧ 1 ≤ u ∧ u ≤ 3 ∧ 0 ≤ t ∧ t ≤ 3
/-- the row with -d in the place of d -/
def mir (xs : List Rat) : List Rat := tab xs.length fun i => co xs i * (if i % 2 = 0 then 1 else -1)
theorem okN.sm {x : Rat} (h : okN x) : sm 8 x := by
  obtain ⟨a, b, rfl, h1, h2, h3⟩ := h
  exact sm.frac (by omega) (by omega) (by omega)
theorem rabs_num (x : Rat) : rabs x = x ∨ rabs x = -x := by
  unfold rabs
  split
  · exact .inr rfl
  · exact .inl rfl
theorem okN.neg {x : Rat} (h : okN x) : okN (-x) := by
  obtain ⟨a, b, rfl, h1, h2, h3⟩ := h
  refine ⟨-a, b, ?_, by omega, by omega, h3⟩
  rw [Rat.intCast_neg]
  grind
theorem okN.abs {x : Rat} (h : okN x) : okN (rabs x) := by
  rcases rabs_num x with e | e <;> rw [e]
  · exact h
  · exact h.neg
end DL
/-! DL31: a row over one denominator. -/
namespace DL
open PySem PySem.Spec PyProof.Rows L2
/-- the least common denominator of the first numbers -/
def lcd (xs : List Rat) : Nat := xs.foldl (fun a x => Nat.lcm a x.den) 1
/-- the numerators over it -/
def numz (xs : List Rat) : List Int := xs.map fun x => x.num * ((lcd xs / x.den : Nat) : Int)
theorem lcm_step {a b : Nat} (ha : 0 < a) (hb : 0 < b) : (a : Int) * (b : Int).fdiv ((Nat.gcd a b : Nat) : Int) = ((Nat.lcm a b : Nat) : Int) := by
  rw [Int.fdiv_eq_ediv_of_nonneg _ (Int.natCast_nonneg _), ← Int.natCast_ediv, ← Int.natCast_mul]
  congr 1
  rw [Nat.lcm, Nat.mul_div_assoc _ (Nat.gcd_dvd_right a b)]
theorem lcd_take {xs : List Rat} {i : Nat} {x : Rat} (h : xs[i]? = some x) : lcd (xs.take (i + 1)) = Nat.lcm (lcd (xs.take i)) x.den := by
  unfold lcd
  rw [List.take_succ, h]
  simp [List.foldl_append]
theorem lcd_pos (xs : List Rat) : 0 < lcd xs := by
  have go : ∀ (xs : List Rat) (a : Nat), 0 < a → 0 < xs.foldl (fun a x => Nat.lcm a x.den) a := by
    intro xs
    induction xs with
    | nil => intro a h; exact h
    | cons x xs ih => intro a h; exact ih _ (Nat.lcm_pos h x.den_pos)
  exact go xs 1 (by decide)
end DL
/-! DL32: products of rows over their common denominators. -/
namespace DL
open PySem PySem.Spec PyProof.Rows L2
/-- the number at a place of a list of ints -/
def ci (a : List Int) (n : Nat) : Int := a.getD n 0
/-- the sum of the first i products that make the number at k -/
def pci (a b : List Int) : Nat → Nat → Int
  | 0, _ => 0
  | i + 1, k => pci a b i k + if i ≤ k then ci a i * ci b (k - i) else 0
theorem lcd_dvd {xs : List Rat} {x : Rat} (h : x ∈ xs) : x.den ∣ lcd xs := by
  have go : ∀ (xs : List Rat) (a : Nat), a ∣ xs.foldl (fun a x => Nat.lcm a x.den) a ∧ ∀ x ∈ xs, x.den ∣ xs.foldl (fun a x => Nat.lcm a x.den) a := by
    intro xs
    induction xs with
    | nil => intro a; exact ⟨Nat.dvd_refl a, fun x h => by cases h⟩
    | cons y xs ih =>
      intro a
      obtain ⟨h1, h2⟩ := ih (Nat.lcm a y.den)
      refine ⟨Nat.dvd_trans (Nat.dvd_lcm_left a y.den) h1, fun x hx => ?_⟩
      rcases List.mem_cons.mp hx with rfl | hx
      · exact Nat.dvd_trans (Nat.dvd_lcm_right a x.den) h1
      · exact h2 x hx
  exact (go xs 1).2 x h
end DL
/-! DL33: rows times sequences, geometric sequences, worths. -/
namespace DL
theorem sh_local {f g : Sq} {n : Nat} (h : ∀ k, k < n → f k = g k) : sh f n = sh g n := by
  cases n with
  | zero => rfl
  | succ n => exact h n (Nat.lt_succ_self n)
theorem mu_local {xs : List Rat} {f g : Sq} {n : Nat} (h : ∀ k, k ≤ n → f k = g k) : mu xs f n = mu xs g n := by
  induction xs generalizing n with
  | nil => rfl
  | cons x xs ih =>
    show x * f n + sh (mu xs f) n = x * g n + sh (mu xs g) n
    rw [h n (Nat.le_refl n), sh_local fun k hk => ih fun i hi => h i (by omega)]
theorem mu_tab (xs : List Rat) (g : Sq) (n : Nat) : mu xs g n = mu (tab (n + 1) g) (co xs) n := by
  rw [← mu_co_comm]
  exact mu_local fun k hk => (tab_co (by omega)).symm
theorem mu_congr {xs ys : List Rat} (h : ∀ n, co xs n = co ys n) (g : Sq) (n : Nat) : mu xs g n = mu ys g n := by
  rw [mu_tab, mu_tab ys, show co xs = co ys from funext h]
theorem mu_pmul (xs ys : List Rat) (g : Sq) (n : Nat) : mu (pmul xs ys) g n = mu xs (mu ys g) n := by
  rw [mu_tab, show co (pmul xs ys) = mu xs (co ys) from funext fun k => co_pmul xs ys k, mu_comm, mu_co_comm]
  refine mu_local fun k hk => ?_
  exact mu_local fun i hi => tab_co (by omega)
theorem co_one_dl : co [1] = dl := by
  funext n
  cases n with
  | zero => rfl
  | succ n => exact co_ge (by show 1 ≤ n + 1; omega)
theorem mu_one_left (g : Sq) (n : Nat) : mu [1] g n = g n := by
  show 1 * g n + sh (fun _ => 0) n = g n
  cases n with
  | zero => show 1 * g 0 + 0 = g 0; grind
  | succ n => show 1 * g (n + 1) + 0 = g (n + 1); grind
/-! ### factors -/
def fac (a : Rat) : List Rat := [1, -a]
def geo (a : Rat) (g : Sq) : Sq
  | 0 => g 0
  | n + 1 => a * geo a g n + g (n + 1)
theorem mu_fac0 (a : Rat) (g : Sq) : mu (fac a) g 0 = g 0 := by
  show 1 * g 0 + 0 = g 0
  grind
theorem mu_fac (a : Rat) (g : Sq) (n : Nat) : mu (fac a) g (n + 1) = g (n + 1) - a * g n := by
  show 1 * g (n + 1) + (-a * g n + sh (fun _ => 0) n) = _
  cases n with
  | zero => show 1 * g 1 + (-a * g 0 + 0) = _; grind
  | succ n => show 1 * g (n + 2) + (-a * g (n + 1) + 0) = _; grind
theorem fac_geo (a : Rat) (g : Sq) : mu (fac a) (geo a g) = g := by
  funext n
  cases n with
  | zero => rw [mu_fac0]; rfl
  | succ n =>
    rw [mu_fac]
    show a * geo a g n + g (n + 1) - a * geo a g n = g (n + 1)
    grind
theorem geo_fac (a : Rat) (g : Sq) : geo a (mu (fac a) g) = g := by
  funext n
  induction n with
  | zero => exact mu_fac0 a g
  | succ n ih =>
    show a * geo a (mu (fac a) g) n + mu (fac a) g (n + 1) = g (n + 1)
    rw [ih, mu_fac]
    grind
/-- the product of factors -/
def prodF (as : List Rat) : List Rat := as.foldl (fun u a => pmul u (fac a)) [1]
theorem prodF_snoc (as : List Rat) (a : Rat) : prodF (as ++ [a]) = pmul (prodF as) (fac a) := by
  unfold prodF
  rw [List.foldl_append]
  rfl
/-- 1 over the product -/
def inv (as : List Rat) : Sq := as.foldl (fun g a => geo a g) dl
theorem inv_snoc (as : List Rat) (a : Rat) : inv (as ++ [a]) = geo a (inv as) := by
  unfold inv
  rw [List.foldl_append]
  rfl
/-- induction from the end -/
theorem snoc_ind {P : List Rat → Prop} (h0 : P []) (h1 : ∀ as a, P as → P (as ++ [a])) (as : List Rat) : P as := by
  have go : ∀ (n : Nat) (as : List Rat), as.length = n → P as := by
    intro n
    induction n with
    | zero => intro as h; rw [List.eq_nil_of_length_eq_zero h]; exact h0
    | succ n ih =>
      intro as h
      have hne : as ≠ [] := fun e => by rw [e] at h; cases h
      obtain ⟨x, _, e⟩ := snoc_of_ne hne
      rw [e]
      exact h1 _ _ (ih _ (by rw [List.length_dropLast, h]; rfl))
  exact go _ as rfl
theorem mu_inv (as : List Rat) : mu (prodF as) (inv as) = dl := by
  induction as using snoc_ind with
  | h0 => funext n; exact mu_one_left dl n
  | h1 as a ih =>
    funext n
    rw [prodF_snoc, mu_pmul, inv_snoc, fac_geo, ih]
/-! ### sums -/
def tw (z : Rat) (f : Sq) : Nat → Rat
  | 0 => 0
  | n + 1 => tw z f n + f n * z ^ n
def tot (f : Sq) : Nat → Rat
  | 0 => 0
  | n + 1 => tot f n + f n
theorem tot_congr {f g : Sq} {n : Nat} (h : ∀ k, k < n → f k = g k) : tot f n = tot g n := by
  induction n with
  | zero => rfl
  | succ n ih =>
    show tot f n + f n = tot g n + g n
    rw [ih fun k hk => h k (by omega), h n (Nat.lt_succ_self n)]
theorem tot_mono {f g : Sq} {n : Nat} (h : ∀ k, k < n → f k ≤ g k) : tot f n ≤ tot g n := by
  induction n with
  | zero => show (0 : Rat) ≤ 0; grind
  | succ n ih =>
    show tot f n + f n ≤ tot g n + g n
    have h1 := ih fun k hk => h k (by omega)
    have h2 := h n (Nat.lt_succ_self n)
    grind
theorem tot_nn {f : Sq} {n : Nat} (h : ∀ k, 0 ≤ f k) : 0 ≤ tot f n := by
  induction n with
  | zero => show (0 : Rat) ≤ 0; grind
  | succ n ih =>
    show 0 ≤ tot f n + f n
    have := h n
    grind
theorem tot_le {f : Sq} {n m : Nat} (h : ∀ k, 0 ≤ f k) (hnm : n ≤ m) : tot f n ≤ tot f m := by
  induction hnm with
  | refl => grind
  | step _ ih =>
    rename_i m _
    show tot f n ≤ tot f m + f m
    have := h m
    grind
theorem tot_beyond {f : Sq} {n m : Nat} (h : ∀ k, n ≤ k → f k = 0) (hnm : n ≤ m) : tot f m = tot f n := by
  induction hnm with
  | refl => rfl
  | step hm ih =>
    rename_i m
    show tot f m + f m = tot f n
    rw [ih, h m hm]
    grind
theorem tot_add (f g : Sq) (n : Nat) : tot (fun k => f k + g k) n = tot f n + tot g n := by
  induction n with
  | zero => show (0 : Rat) = 0 + 0; grind
  | succ n ih =>
    show tot (fun k => f k + g k) n + (f n + g n) = tot f n + f n + (tot g n + g n)
    rw [ih]
    grind
theorem tot_smul (a : Rat) (f : Sq) (n : Nat) : tot (fun k => a * f k) n = a * tot f n := by
  induction n with
  | zero => show (0 : Rat) = a * 0; grind
  | succ n ih =>
    show tot (fun k => a * f k) n + a * f n = a * (tot f n + f n)
    rw [ih]
    grind
theorem tot_shift (f : Sq) (n : Nat) : tot f (n + 1) = f 0 + tot (fun k => f (k + 1)) n := by
  induction n with
  | zero => show (0 : Rat) + f 0 = f 0 + 0; grind
  | succ n ih =>
    show tot f (n + 1) + f (n + 1) = f 0 + (tot (fun k => f (k + 1)) n + f (n + 1))
    rw [ih]
    grind
theorem tot_sh (f : Sq) (n : Nat) : tot (sh f) (n + 1) = tot f n := by
  rw [tot_shift]
  show 0 + tot f n = tot f n
  grind
theorem sum_tot (xs : List Rat) {n : Nat} (h : xs.length ≤ n) : tot (co xs) n = xs.sum := by
  rw [tot_beyond (f := co xs) (fun k hk => co_ge hk) h]
  clear h
  induction xs with
  | nil => rfl
  | cons x xs ih =>
    show tot (co (x :: xs)) (xs.length + 1) = _
    rw [tot_shift, List.sum_cons]
    show x + tot (co xs) xs.length = _
    rw [ih]
theorem take_tot (xs : List Rat) {n : Nat} (h : n ≤ xs.length) : (xs.take n).sum = tot (co xs) n := by
  induction n with
  | zero => rfl
  | succ n ih =>
    rw [take_succ_sum (co_some (by omega)), ih (by omega)]
    rfl
theorem co_abs (xs : List Rat) (k : Nat) : co (xs.map rabs) k = rabs (co xs k) := co_map (f := rabs) (by decide +kernel) k
theorem abs_tot (xs : List Rat) {n : Nat} (h : xs.length ≤ n) : (xs.map rabs).sum = tot (fun k => rabs (co xs k)) n := by
  rw [← sum_tot (xs.map rabs) (n := n) (by rw [List.length_map]; exact h)]
  exact tot_congr fun k _ => co_abs xs k
theorem rabs_add (x y : Rat) : rabs (x + y) ≤ rabs x + rabs y := by unfold rabs; grind
theorem rabs_mul (x y : Rat) : rabs (x * y) = rabs x * rabs y := by
  have e : ∀ z : Rat, (z < 0 ∧ rabs z = -z) ∨ (0 ≤ z ∧ rabs z = z) := fun z => by unfold rabs; split <;> grind
  rcases e x with ⟨h1, e1⟩ | ⟨h1, e1⟩ <;> rcases e y with ⟨h2, e2⟩ | ⟨h2, e2⟩ <;> rcases e (x * y) with ⟨h3, e3⟩ | ⟨h3, e3⟩ <;> rw [e1, e2, e3]
  · have : 0 < (-x) * (-y) := Rat.mul_pos (by grind) (by grind)
    grind
  · grind
  · grind
  · have : 0 ≤ (-x) * y := Rat.mul_nonneg (by grind) h2
    have h4 : -x * y = -(x * y) := by grind
    rw [h4] at this ⊢
    grind
  · grind
  · have : 0 ≤ x * (-y) := Rat.mul_nonneg h1 (by grind)
    have h4 : x * -y = -(x * y) := by grind
    rw [h4] at this ⊢
    grind
  · have : 0 ≤ x * y := Rat.mul_nonneg h1 h2
    grind
theorem rabs_of_nn {x : Rat} (h : 0 ≤ x) : rabs x = x := by unfold rabs; grind
theorem rabs_neg (x : Rat) : rabs (-x) = rabs x := by unfold rabs; grind
theorem tot_abs_le (f : Sq) (n : Nat) : rabs (tot f n) ≤ tot (fun k => rabs (f k)) n := by
  induction n with
  | zero => exact (by decide +kernel : rabs 0 ≤ 0)
  | succ n ih =>
    show rabs (tot f n + f n) ≤ tot (fun k => rabs (f k)) n + rabs (f n)
    have := rabs_add (tot f n) (f n)
    grind
theorem tot_mu_le (xs : List Rat) (f : Sq) (n : Nat) : tot (fun k => rabs (mu xs f k)) n ≤ (xs.map rabs).sum * tot (fun k => rabs (f k)) n := by
  induction xs generalizing n with
  | nil =>
    have : tot (fun k => rabs (mu [] f k)) n ≤ tot (fun _ => 0 * 0) n := tot_mono fun k _ => by
      show rabs 0 ≤ 0 * 0
      decide +kernel
    rw [tot_smul] at this
    show _ ≤ 0 * _
    grind
  | cons x xs ih =>
    have h1 : tot (fun k => rabs (mu (x :: xs) f k)) n ≤ tot (fun k => rabs x * rabs (f k) + sh (fun k => rabs (mu xs f k)) k) n := tot_mono fun k _ => by
      show rabs (x * f k + sh (mu xs f) k) ≤ _
      have e1 := rabs_add (x * f k) (sh (mu xs f) k)
      have e2 : rabs (sh (mu xs f) k) = sh (fun k => rabs (mu xs f k)) k := by
        cases k with
        | zero => exact (by decide +kernel : rabs 0 = 0)
        | succ k => rfl
      rw [rabs_mul, e2] at e1
      exact e1
    rw [tot_add, tot_smul] at h1
    rw [List.map_cons, List.sum_cons]
    have h2 : tot (sh fun k => rabs (mu xs f k)) n ≤ tot (fun k => rabs (mu xs f k)) n := by
      cases n with
      | zero => show (0 : Rat) ≤ 0; grind
      | succ n =>
        rw [tot_sh]
        exact tot_le (fun k => rabs_nn _) (Nat.le_succ n)
    have h3 := ih n
    grind
/-! ### worths -/
theorem tw_shift (z : Rat) (f : Sq) (n : Nat) : tw z f (n + 1) = f 0 + z * tw z (fun k => f (k + 1)) n := by
  induction n with
  | zero => show (0 : Rat) + f 0 * z ^ 0 = f 0 + z * 0; rw [Rat.pow_zero]; grind
  | succ n ih =>
    show tw z f (n + 1) + f (n + 1) * z ^ (n + 1) = f 0 + z * (tw z (fun k => f (k + 1)) n + f (n + 1) * z ^ n)
    rw [ih, Rat.pow_succ]
    grind
theorem tw_beyond {z : Rat} {f : Sq} {n m : Nat} (h : ∀ k, n ≤ k → f k = 0) (hnm : n ≤ m) : tw z f m = tw z f n := by
  induction hnm with
  | refl => rfl
  | step hm ih =>
    rename_i m
    show tw z f m + f m * z ^ m = tw z f n
    rw [ih, h m hm]
    grind
theorem worth_tw (xs : List Rat) (z : Rat) {n : Nat} (h : xs.length ≤ n) : tw z (co xs) n = worth xs z := by
  rw [tw_beyond (f := co xs) (fun k hk => co_ge hk) h]
  clear h
  induction xs with
  | nil => rfl
  | cons x xs ih =>
    show tw z (co (x :: xs)) (xs.length + 1) = _
    rw [tw_shift]
    show x + z * tw z (co xs) xs.length = worth xs z * z + x
    rw [ih]
    grind
theorem tw_congr {z : Rat} {f g : Sq} {n : Nat} (h : ∀ k, f k = g k) : tw z f n = tw z g n := by rw [show f = g from funext h]
theorem tw_add (z : Rat) (f g : Sq) (n : Nat) : tw z (fun k => f k + g k) n = tw z f n + tw z g n := by
  induction n with
  | zero => show (0 : Rat) = 0 + 0; grind
  | succ n ih =>
    show tw z (fun k => f k + g k) n + (f n + g n) * z ^ n = tw z f n + f n * z ^ n + (tw z g n + g n * z ^ n)
    rw [ih]
    grind
theorem tw_smul (z a : Rat) (f : Sq) (n : Nat) : tw z (fun k => a * f k) n = a * tw z f n := by
  induction n with
  | zero => show (0 : Rat) = a * 0; grind
  | succ n ih =>
    show tw z (fun k => a * f k) n + a * f n * z ^ n = a * (tw z f n + f n * z ^ n)
    rw [ih]
    grind
theorem tw_sh (z : Rat) (f : Sq) (n : Nat) : tw z (sh f) (n + 1) = z * tw z f n := by
  rw [tw_shift]
  show 0 + z * tw z f n = _
  grind
theorem tw_mu (xs : List Rat) (z : Rat) (f : Sq) {m : Nat} (hf : ∀ k, m ≤ k → f k = 0) : ∀ n, m + xs.length ≤ n → tw z (mu xs f) n = worth xs z * tw z f m := by
  induction xs with
  | nil =>
    intro n _
    rw [show mu [] f = fun k => 0 * f k from by funext k; show (0 : Rat) = 0 * f k; grind, tw_smul]
    show _ = 0 * tw z f m
    grind
  | cons x xs ih =>
    intro n hn
    rw [show mu (x :: xs) f = fun k => x * f k + sh (mu xs f) k from rfl, tw_add, tw_smul, tw_beyond hf (by omega)]
    have hl : (x :: xs).length = xs.length + 1 := rfl
    obtain ⟨n', rfl⟩ : ∃ n', n = n' + 1 := ⟨n - 1, by omega⟩
    rw [tw_sh, ih n' (by omega)]
    show _ = (worth xs z * z + x) * _
    grind
theorem worth_pmul (xs ys : List Rat) (z : Rat) : worth (pmul xs ys) z = worth xs z * worth ys z := by
  rw [← worth_tw (pmul xs ys) z (n := (pmul xs ys).length + xs.length + ys.length) (by omega), tw_congr fun k => co_pmul xs ys k,
    tw_mu xs z (co ys) (m := ys.length) (fun k hk => co_ge hk) _ (by omega), worth_tw ys z (Nat.le_refl _)]
theorem tw_one (f : Sq) (n : Nat) : tw 1 f n = tot f n := by
  induction n with
  | zero => rfl
  | succ n ih =>
    show tw 1 f n + f n * 1 ^ n = tot f n + f n
    have e : (1 : Rat) ^ n = 1 := by
      clear ih
      induction n with
      | zero => exact Rat.pow_zero 1
      | succ n ih => rw [Rat.pow_succ, ih]; grind
    rw [ih, e]
    grind
theorem worth_one (xs : List Rat) : worth xs 1 = xs.sum := by rw [← worth_tw xs 1 (Nat.le_refl _), tw_one, sum_tot xs (Nat.le_refl _)]
theorem worth_nn {xs : List Rat} {z : Rat} (hz : 0 ≤ z) (h : ∀ x ∈ xs, 0 ≤ x) : 0 ≤ worth xs z := by
  induction xs with
  | nil => show (0 : Rat) ≤ 0; grind
  | cons x xs ih =>
    show 0 ≤ worth xs z * z + x
    have h1 := Rat.mul_nonneg (ih fun y hy => h y (List.mem_cons_of_mem _ hy)) hz
    have h2 := h x List.mem_cons_self
    grind
theorem worth_pos {xs : List Rat} {z : Rat} (hz : 0 < z) (h : ∀ x ∈ xs, 0 ≤ x) {y : Rat} (hy : y ∈ xs) (hp : y ≠ 0) : 0 < worth xs z := by
  induction xs with
  | nil => cases hy
  | cons x xs ih =>
    show 0 < worth xs z * z + x
    have h2 := h x List.mem_cons_self
    rcases List.mem_cons.mp hy with rfl | hy
    · have h0 : 0 ≤ z := by grind
      have h1 := Rat.mul_nonneg (worth_nn (xs := xs) (z := z) h0 fun y hy => h y (List.mem_cons_of_mem _ hy)) h0
      grind
    · have h1 := Rat.mul_pos (ih (fun y hy => h y (List.mem_cons_of_mem _ hy)) hy) hz
      grind
end DL
/-! DL34: the product of two rows by whole numbers. -/
namespace DL
open PySem PySem.Spec PyProof.Rows L2
def midI (a b : List Int) (i j k : Nat) : Int := pci a b i k + if i ≤ k ∧ k < i + j then ci a i * ci b (k - i) else 0
theorem ci_ge {a : List Int} {n : Nat} (h : a.length ≤ n) : ci a n = 0 := by
  unfold ci
  rw [List.getD_eq_getElem?_getD, List.getElem?_eq_none h]
  rfl
theorem ci_some {a : List Int} {n : Nat} (h : n < a.length) : a[n]? = some (ci a n) := by
  unfold ci
  rw [List.getD_eq_getElem?_getD, List.getElem?_eq_getElem h]
  rfl
theorem midI_zero (a b : List Int) (i k : Nat) : midI a b i 0 k = pci a b i k := by
  unfold midI
  rw [if_neg (by omega)]
  omega
theorem midI_end (a b : List Int) (i k : Nat) : midI a b i b.length k = pci a b (i + 1) k := by
  show _ = pci a b i k + if i ≤ k then ci a i * ci b (k - i) else 0
  unfold midI
  by_cases h : i ≤ k
  · rw [if_pos h]
    by_cases h2 : k < i + b.length
    · rw [if_pos ⟨h, h2⟩]
    · rw [if_neg (by omega), ci_ge (a := b) (by omega), Int.mul_zero]
  · rw [if_neg h, if_neg (by omega)]
theorem midI_at (a b : List Int) (i j : Nat) : midI a b i j (i + j) = pci a b i (i + j) := by
  unfold midI
  rw [if_neg (by omega)]
  omega
theorem midI_succ (a b : List Int) (i j : Nat) : midI a b i (j + 1) (i + j) = pci a b i (i + j) + ci a i * ci b j := by
  unfold midI
  rw [if_pos (by omega), Nat.add_sub_cancel_left]
theorem midI_ne (a b : List Int) (i j k : Nat) (h : k ≠ i + j) : midI a b i (j + 1) k = midI a b i j k := by
  unfold midI
  by_cases h2 : i ≤ k ∧ k < i + j
  · rw [if_pos h2, if_pos (by omega)]
  · rw [if_neg h2, if_neg (by omega)]
/-- whole numbers as a list of the program -/
def tabI (n : Nat) (f : Nat → Int) : List PyData := (List.range n).map fun k => .int (f k)
theorem tabI_len {n : Nat} {f : Nat → Int} : (tabI n f).length = n := by simp [tabI]
theorem tabI_get {n i : Nat} {f : Nat → Int} (h : i < n) : (tabI n f)[i]? = some (.int (f i)) := by
  unfold tabI
  rw [List.getElem?_map, List.getElem?_range h]
  rfl
theorem tabI_congr {n : Nat} {f g : Nat → Int} (h : ∀ k, f k = g k) : tabI n f = tabI n g := by rw [show f = g from funext h]
theorem tabI_set {n i : Nat} {f g : Nat → Int} {x : Int} (hi : i < n) (hx : g i = x) (hg : ∀ k, k ≠ i → g k = f k) : (tabI n f).set i (.int x) = tabI n g := by
  apply List.ext_getElem?
  intro k
  by_cases hk : k < n
  · rw [tabI_get hk, List.getElem?_set]
    by_cases e : i = k
    · subst e
      rw [if_pos rfl, if_pos (by rw [tabI_len]; exact hk), hx]
    · rw [if_neg e, tabI_get hk, hg k (by omega)]
  · rw [List.getElem?_eq_none (by rw [List.length_set, tabI_len]; omega), List.getElem?_eq_none (by rw [tabI_len]; omega)]
theorem numz_len (xs : List Rat) : (numz xs).length = xs.length := by unfold numz; rw [List.length_map]
theorem num_is (x : Rat) : (x.num : Rat) = x * (((x.den : Nat) : Int) : Rat) := by
  have hx : x = (x.num : Rat) / (x.den : Rat) := nd_eq x
  have dx : (x.den : Rat) ≠ 0 := by have := x.den_nz; exact_mod_cast this
  have e : (((x.den : Nat) : Int) : Rat) = (x.den : Rat) := rfl
  rw [e]
  conv => rhs; lhs; rw [hx]
  grind
theorem num_over (x : Rat) (d : Nat) (h : x.den ∣ d) : ((x.num * ((d / x.den : Nat) : Int) : Int) : Rat) = x * ((d : Int) : Rat) := by
  obtain ⟨c, rfl⟩ := h
  rw [Nat.mul_div_cancel_left _ x.den_pos, Rat.intCast_mul, Int.natCast_mul, Rat.intCast_mul]
  rw [num_is x]
  grind
theorem numz_co (xs : List Rat) (i : Nat) : ((ci (numz xs) i : Int) : Rat) = co xs i * ((lcd xs : Int) : Rat) := by
  by_cases h : i < xs.length
  · have e : (numz xs)[i]? = some ((co xs i).num * ((lcd xs / (co xs i).den : Nat) : Int)) := by
      unfold numz
      rw [List.getElem?_map, co_some h]
      rfl
    have e2 := ci_some (a := numz xs) (n := i) (by rw [numz_len]; exact h)
    rw [e] at e2
    rw [← Option.some.inj e2]
    exact num_over _ _ (lcd_dvd (co_mem h))
  · rw [ci_ge (by rw [numz_len]; omega), co_ge (by omega)]
    show (0 : Rat) = 0 * _
    grind
theorem pci_pc (xs ys : List Rat) (i k : Nat) : ((pci (numz xs) (numz ys) i k : Int) : Rat) = pc xs ys i k * (((lcd xs : Int) : Rat) * ((lcd ys : Int) : Rat)) := by
  induction i with
  | zero => show (0 : Rat) = 0 * _; grind
  | succ i ih =>
    show (((pci (numz xs) (numz ys) i k + if i ≤ k then ci (numz xs) i * ci (numz ys) (k - i) else 0) : Int) : Rat) = (pc xs ys i k + if i ≤ k then co xs i * co ys (k - i) else 0) * _
    rw [Rat.intCast_add, ih]
    by_cases h : i ≤ k
    · rw [if_pos h, if_pos h, Rat.intCast_mul, numz_co, numz_co]
      grind
    · rw [if_neg h, if_neg h]
      show _ + (0 : Rat) = _
      grind
theorem pci_div (xs ys : List Rat) (i k : Nat) : ((pci (numz xs) (numz ys) i k : Int) : Rat) / (((lcd xs : Int) * (lcd ys : Int) : Int) : Rat) = pc xs ys i k := by
  rw [pci_pc, Rat.intCast_mul]
  have h1 : ((lcd xs : Int) : Rat) ≠ 0 := rat_ne (by have := lcd_pos xs; omega)
  have h2 : ((lcd ys : Int) : Rat) ≠ 0 := rat_ne (by have := lcd_pos ys; omega)
  grind
/-- the last number of a product -/
theorem mu_last {g q : List Rat} (hg : g ≠ []) : mu g (co q) (g.length - 1 + (q.length - 1)) = co g (g.length - 1) * co q (q.length - 1) := by
  induction g with
  | nil => exact absurd rfl hg
  | cons x xs ih =>
    cases xs with
    | nil =>
      show x * co q (0 + (q.length - 1)) + sh (fun _ => 0) _ = x * co q (q.length - 1)
      rw [Nat.zero_add]
      cases q.length - 1 with
      | zero => show _ + (0 : Rat) = _; grind
      | succ n => show _ + (0 : Rat) = _; grind
    | cons y ys =>
      have := ih (by simp)
      show x * co q ((y :: ys).length + 1 - 1 + (q.length - 1)) + sh (mu (y :: ys) (co q)) ((y :: ys).length + 1 - 1 + (q.length - 1)) = co (x :: y :: ys) ((y :: ys).length + 1 - 1) * _
      have e : (y :: ys).length + 1 - 1 + (q.length - 1) = ((y :: ys).length - 1 + (q.length - 1)) + 1 := by
        show ys.length + 1 + 1 - 1 + (q.length - 1) = (ys.length + 1 - 1 + (q.length - 1)) + 1
        omega
      rw [e, co_ge (xs := q) (by show q.length ≤ ys.length + 1 - 1 + (q.length - 1) + 1; omega)]
      show x * 0 + mu (y :: ys) (co q) _ = co (y :: ys) ys.length * _
      rw [this]
      show x * 0 + co (y :: ys) ys.length * _ = _
      grind
/-- the product's row as the program makes it -/
theorem pmul_row {xs ys : List Rat} (hx : xs ≠ []) (hy : ys ≠ []) (tx : trimd xs) (ty : trimd ys) : pmul xs ys = tab (xs.length + ys.length - 1) (cv xs ys) := by
  have lx : 0 < xs.length := List.length_pos_iff.mpr hx
  have ly : 0 < ys.length := List.length_pos_iff.mpr hy
  refine trimd_ext (trim_trimd _) (.inr ⟨cv xs ys (xs.length + ys.length - 1 - 1), ?_, ?_⟩) fun n => ?_
  · rw [List.getLast?_eq_getElem?, tab_len]
    exact tab_get (by omega)
  · rw [cv_mu, show xs.length + ys.length - 1 - 1 = xs.length - 1 + (ys.length - 1) by omega, mu_last hx]
    exact fun e => (Rat.mul_eq_zero.mp e).elim (trimd_last hx tx) (trimd_last hy ty)
  · rw [co_pmul, ← cv_mu]
    by_cases h : n < xs.length + ys.length - 1
    · rw [tab_co h]
    · rw [tab_zero (by omega), cv_mu]
      by_cases h2 : xs.length + ys.length ≤ n
      · exact mu_beyond (m := ys.length) (fun k hk => co_ge hk) n h2
      · obtain ⟨x, hx1, ex⟩ := snoc_of_ne hx
        have e3 : n = (xs.length - 1 + (ys.length - 1)) + 1 := by omega
        rw [mu_co_comm] at *
        have key : ∀ (g q : List Rat), g ≠ [] → q ≠ [] → mu g (co q) (g.length - 1 + (q.length - 1) + 1) = 0 := by
          intro g
          induction g with
          | nil => intro q h; exact absurd rfl h
          | cons a g ih =>
            intro q _ hq
            have lq : 0 < q.length := List.length_pos_iff.mpr hq
            show a * co q (g.length + 1 - 1 + (q.length - 1) + 1) + mu g (co q) (g.length + 1 - 1 + (q.length - 1)) = 0
            rw [co_ge (by omega)]
            cases g with
            | nil => show a * 0 + (0 : Rat) = 0; grind
            | cons b g =>
              have := ih q (by simp) hq
              rw [show (b :: g).length + 1 - 1 + (q.length - 1) = (b :: g).length - 1 + (q.length - 1) + 1 by show g.length + 1 + 1 - 1 + (q.length - 1) = g.length + 1 - 1 + (q.length - 1) + 1; omega, this]
              grind
        rw [mu_co_comm, e3]
        exact key xs ys hx hy
end DL
/-! DL35: numbers over a fixed denominator; geometric sequences, their sizes. -/
namespace DL
open PySem PySem.Spec PyProof.Rows L2
def FB (D M : Nat) (x : Rat) : Prop := ∃ z : Int, x * ((D : Int) : Rat) = (z : Rat) ∧ z.natAbs ≤ M
theorem FB.mono {D M N : Nat} {x : Rat} (h : FB D M x) (hMN : M ≤ N) : FB D N x := by
  obtain ⟨z, e, hz⟩ := h
  exact ⟨z, e, by omega⟩
theorem FB.zero (D : Nat) : FB D 0 0 := ⟨0, by show (0 : Rat) * _ = 0; grind, by decide⟩
theorem FB.zero' (D M : Nat) : FB D M 0 := (FB.zero D).mono (Nat.zero_le _)
theorem FB.add {D M N : Nat} {x y : Rat} (h : FB D M x) (k : FB D N y) : FB D (M + N) (x + y) := by
  obtain ⟨z, e, hz⟩ := h
  obtain ⟨t, f, ht⟩ := k
  exact ⟨z + t, by rw [Rat.intCast_add, ← e, ← f]; grind, by omega⟩
theorem FB.neg {D M : Nat} {x : Rat} (h : FB D M x) : FB D M (-x) := by
  obtain ⟨z, e, hz⟩ := h
  exact ⟨-z, by rw [Rat.intCast_neg, ← e]; grind, by omega⟩
theorem FB.sub {D M N : Nat} {x y : Rat} (h : FB D M x) (k : FB D N y) : FB D (M + N) (x - y) := by
  rw [show x - y = x + -y by grind]
  exact h.add k.neg
theorem FB.abs {D M : Nat} {x : Rat} (h : FB D M x) : FB D M (rabs x) := by
  rcases rabs_num x with e | e <;> rw [e]
  · exact h
  · exact h.neg
theorem FB.mul {D E M N : Nat} {x y : Rat} (h : FB D M x) (k : FB E N y) : FB (D * E) (M * N) (x * y) := by
  obtain ⟨z, e, hz⟩ := h
  obtain ⟨t, f, ht⟩ := k
  refine ⟨z * t, ?_, ?_⟩
  · rw [Rat.intCast_mul, ← e, ← f, Int.natCast_mul, Rat.intCast_mul]
    grind
  · rw [Int.natAbs_mul]
    exact Nat.mul_le_mul hz ht
theorem FB.one (D : Nat) : FB D D 1 := ⟨(D : Int), by show 1 * _ = _; grind, by omega⟩
theorem FB.sm {D M b : Nat} {x : Rat} (h : FB D M x) (hD : 0 < D) (h1 : D < 2 ^ b) (h2 : M < 2 ^ b) : sm b x := by
  obtain ⟨z, e, hz⟩ := h
  have hD' : ((D : Int) : Rat) ≠ 0 := rat_ne (by omega)
  rw [show x = (z : Rat) / ((D : Int) : Rat) by rw [← e]; grind]
  exact sm.frac (by omega) (by omega) (by simpa using h1)
theorem FB.pc {D E M N : Nat} {xs ys : List Rat} (hx : ∀ k, FB D M (co xs k)) (hy : ∀ k, FB E N (co ys k)) (i k : Nat) : FB (D * E) (xs.length * (M * N)) (pc xs ys i k) := by
  have go : ∀ i, FB (D * E) (min i xs.length * (M * N)) (DL.pc xs ys i k) := by
    intro i
    induction i with
    | zero => exact (FB.zero _).mono (Nat.zero_le _)
    | succ i ih =>
      show FB _ _ (DL.pc xs ys i k + if i ≤ k then co xs i * co ys (k - i) else 0)
      by_cases h : i < xs.length
      · rw [show min (i + 1) xs.length = min i xs.length + 1 by omega, Nat.add_mul, Nat.one_mul]
        refine ih.add ?_
        split
        · exact (hx i).mul (hy _)
        · exact FB.zero' _ _
      · rw [co_ge (xs := xs) (by omega), show min (i + 1) xs.length = min i xs.length + 0 by omega, Nat.add_mul, Nat.zero_mul]
        refine ih.add ?_
        rw [show (if i ≤ k then (0 : Rat) * co ys (k - i) else 0) = 0 by split <;> grind]
        exact FB.zero _
  exact (go i).mono (Nat.mul_le_mul_right _ (by omega))
theorem FB.tot {D M : Nat} {f : Sq} (h : ∀ k, FB D M (f k)) (n : Nat) : FB D (n * M) (tot f n) := by
  induction n with
  | zero => exact (FB.zero _).mono (Nat.zero_le _)
  | succ n ih =>
    rw [Nat.add_mul, Nat.one_mul]
    exact ih.add (h n)
theorem FB.sumOk {D M b n : Nat} {xs : List Rat} (h : ∀ k, FB D M (co xs k)) (hl : xs.length ≤ n) (hn : 0 < n) (hD : 0 < D) (h1 : D < 2 ^ b) (h2 : n * M < 2 ^ b) : DL.sumOk b xs ∧ DL.sm b xs.sum := by
  have hM : M ≤ n * M := Nat.le_mul_of_pos_left M hn
  have key : ∀ i, i ≤ xs.length → DL.sm b (xs.take i).sum := fun i hi => by
    rw [take_tot xs hi]
    exact ((FB.tot h i).mono (Nat.mul_le_mul_right M (show i ≤ n by omega))).sm hD h1 h2
  refine ⟨⟨fun x hx => ?_, key⟩, ?_⟩
  · obtain ⟨i, hi, rfl⟩ := List.mem_iff_getElem.mp hx
    rw [← co_lt (List.getElem?_eq_getElem hi)]
    exact (h i).sm hD h1 (by omega)
  · have := key xs.length (Nat.le_refl _)
    rwa [List.take_length] at this
/-! ### geometric sequences -/
theorem geo_nn {a : Rat} {g : Sq} (ha : 0 ≤ a) (hg : ∀ n, 0 ≤ g n) : ∀ n, 0 ≤ geo a g n
  | 0 => hg 0
  | n + 1 => by
    show 0 ≤ a * geo a g n + g (n + 1)
    have := Rat.mul_nonneg ha (geo_nn ha hg n)
    have := hg (n + 1)
    grind
theorem geo_mono {a b : Rat} {g h : Sq} (ha : 0 ≤ a) (hab : a ≤ b) (hg : ∀ n, 0 ≤ g n) (hgh : ∀ n, g n ≤ h n) : ∀ n, geo a g n ≤ geo b h n
  | 0 => hgh 0
  | n + 1 => by
    show a * geo a g n + g (n + 1) ≤ b * geo b h n + h (n + 1)
    have h1 := geo_mono ha hab hg hgh n
    have h2 := geo_nn ha hg n
    have h3 := hgh (n + 1)
    have h4 := Rat.mul_nonneg (show 0 ≤ b - a by grind) h2
    have h5 := Rat.mul_nonneg (show 0 ≤ b by grind) (show 0 ≤ geo b h n - geo a g n by grind)
    grind
theorem geo_tot {a : Rat} {g : Sq} (n : Nat) : tot (geo a g) (n + 1) = a * tot (geo a g) n + tot g (n + 1) := by
  induction n with
  | zero => show (0 : Rat) + g 0 = a * 0 + (0 + g 0); grind
  | succ n ih =>
    show tot (geo a g) (n + 1) + (a * geo a g n + g (n + 1)) = a * (tot (geo a g) n + geo a g n) + (tot g (n + 1) + g (n + 1))
    rw [ih]
    grind
theorem geo_tot_le {a : Rat} {g : Sq} (ha : 0 ≤ a) (h34 : a ≤ 3 / 4) (hg : ∀ n, 0 ≤ g n) (n : Nat) : tot (geo a g) n ≤ 4 * tot g n := by
  induction n with
  | zero => show (0 : Rat) ≤ 4 * 0; grind
  | succ n ih =>
    rw [geo_tot]
    have h1 := tot_nn (f := geo a g) (n := n) (geo_nn ha hg)
    have h2 := tot_le (f := g) hg (Nat.le_succ n)
    have h3 := Rat.mul_nonneg (show 0 ≤ 3 / 4 - a by grind) h1
    grind
theorem geo_int {a : Rat} {g : Sq} (ha : ∃ z : Int, a * 420 = (z : Rat)) (hg : ∀ n, ∃ z : Int, g n * 420 ^ n = (z : Rat)) : ∀ n, ∃ z : Int, geo a g n * 420 ^ n = (z : Rat)
  | 0 => hg 0
  | n + 1 => by
    obtain ⟨t, ht⟩ := ha
    obtain ⟨z, hz⟩ := geo_int ⟨t, ht⟩ hg n
    obtain ⟨u, hu⟩ := hg (n + 1)
    refine ⟨t * z + u, ?_⟩
    show (a * geo a g n + g (n + 1)) * 420 ^ (n + 1) = _
    rw [Rat.intCast_add, Rat.intCast_mul, ← ht, ← hz, ← hu, Rat.pow_succ]
    grind
def A9 : List Rat := [1 / 2, 1 / 3, 1 / 4, 1 / 5, 2 / 3, 2 / 5, 3 / 4, 3 / 5, 3 / 7]
theorem a9_chk : (A9.all fun a => decide (0 < a) && decide (a ≤ 3 / 4) && (a * 420).den == 1) = true := by decide +kernel
theorem int_of_den {x : Rat} (h : x.den = 1) : x = (x.num : Rat) := by
  have := num_is x
  rw [h] at this
  have e : ((((1 : Nat) : Int) : Rat)) = 1 := rfl
  rw [e] at this
  grind
theorem a9 {a : Rat} (h : a ∈ A9) : 0 < a ∧ a ≤ 3 / 4 ∧ ∃ z : Int, a * 420 = (z : Rat) := by
  have := List.all_eq_true.mp a9_chk a h
  rw [Bool.and_eq_true, Bool.and_eq_true, decide_eq_true_eq, decide_eq_true_eq, beq_iff_eq] at this
  exact ⟨this.1.1, this.1.2, _, int_of_den this.2⟩
theorem dl_nn (n : Nat) : 0 ≤ dl n := by
  unfold dl
  split <;> decide +kernel
theorem dl_int (n : Nat) : ∃ z : Int, dl n * 420 ^ n = (z : Rat) := by
  unfold dl
  split
  · rename_i h
    subst h
    exact ⟨1, by decide +kernel⟩
  · exact ⟨0, by show (0 : Rat) * _ = 0; grind⟩
/-- the greatest such sequence -/
def BB : Nat → Sq
  | 0 => dl
  | j + 1 => geo (3 / 4) (BB j)
theorem BB_nn : ∀ j n, 0 ≤ BB j n
  | 0 => dl_nn
  | j + 1 => geo_nn (by decide +kernel) (BB_nn j)
theorem BB_up (j n : Nat) : BB j n ≤ BB (j + 1) n := by
  cases n with
  | zero => show _ ≤ BB j 0; grind
  | succ n =>
    show _ ≤ 3 / 4 * geo (3 / 4) (BB j) n + BB j (n + 1)
    have := geo_nn (a := 3 / 4) (by decide +kernel) (BB_nn j) n
    grind
theorem BB_le3 {j : Nat} (h : j ≤ 3) (n : Nat) : BB j n ≤ BB 3 n := by
  have h0 := BB_up 0 n
  have h1 := BB_up 1 n
  have h2 := BB_up 2 n
  match j, h with
  | 0, _ => grind
  | 1, _ => grind
  | 2, _ => grind
  | 3, _ => grind
theorem BB1 (n : Nat) : BB 1 n = (3 / 4) ^ n := by
  induction n with
  | zero => rw [Rat.pow_zero]; rfl
  | succ n ih =>
    show 3 / 4 * BB 1 n + dl (n + 1) = _
    rw [ih, Rat.pow_succ]
    show _ + (0 : Rat) = _
    grind
theorem natr_succ (n : Nat) : (((n + 1 : Nat) : Int) : Rat) = ((n : Int) : Rat) + 1 := by
  rw [Int.natCast_add, Rat.intCast_add]
  rfl
theorem BB2 (n : Nat) : BB 2 n = (((n : Int) : Rat) + 1) * (3 / 4) ^ n := by
  induction n with
  | zero => show dl 0 = _; rw [Rat.pow_zero]; decide +kernel
  | succ n ih =>
    show 3 / 4 * BB 2 n + BB 1 (n + 1) = _
    rw [ih, BB1, Rat.pow_succ, natr_succ]
    grind
theorem BB3 (n : Nat) : BB 3 n * 2 = (((n : Int) : Rat) + 1) * (((n : Int) : Rat) + 2) * (3 / 4) ^ n := by
  induction n with
  | zero => show dl 0 * 2 = _; rw [Rat.pow_zero]; decide +kernel
  | succ n ih =>
    show (3 / 4 * BB 3 n + BB 2 (n + 1)) * 2 = _
    rw [BB2, Rat.pow_succ, natr_succ]
    grind
def tiny : Rat := 86 / 100000000000000
theorem BB_tiny {n : Nat} (h : 128 ≤ n) (h2 : n < 132) : BB 3 n ≤ tiny := by
  have e : n = 128 ∨ n = 129 ∨ n = 130 ∨ n = 131 := by omega
  have key : ∀ m : Nat, (((m : Int) : Rat) + 1) * (((m : Int) : Rat) + 2) * (3 / 4) ^ m ≤ tiny * 2 → BB 3 m ≤ tiny := fun m hm => by
    rw [← BB3] at hm
    grind
  rcases e with rfl | rfl | rfl | rfl <;> exact key _ (by decide +kernel)
/-- the row of factors' own facts -/
theorem inv_facts {as : List Rat} (h : ∀ a ∈ as, a ∈ A9) : (∀ n, 0 ≤ inv as n) ∧ (∀ n, ∃ z : Int, inv as n * 420 ^ n = (z : Rat)) ∧ (∀ n, inv as n ≤ BB as.length n) ∧ ∀ n, tot (inv as) n ≤ 4 ^ as.length := by
  induction as using snoc_ind with
  | h0 =>
    refine ⟨dl_nn, dl_int, fun n => by show dl n ≤ dl n; grind, fun n => ?_⟩
    show tot dl n ≤ 4 ^ 0
    rw [Rat.pow_zero]
    have h1 := tot_le (f := dl) dl_nn (show n ≤ n + 1 by omega)
    have h2 : tot dl (n + 1) = tot dl 1 := tot_beyond (f := dl) (n := 1) (fun k hk => if_neg (by omega)) (by omega)
    have e : tot dl 1 = 1 := by decide +kernel
    rw [h2, e] at h1
    exact h1
  | h1 as a ih =>
    obtain ⟨i1, i2, i3, i4⟩ := ih fun b hb => h b (List.mem_append_left _ hb)
    obtain ⟨h0, h34, hz⟩ := a9 (h a (by simp))
    have h0' : 0 ≤ a := by grind
    rw [inv_snoc, List.length_append]
    refine ⟨geo_nn h0' i1, geo_int hz i2, fun n => geo_mono h0' h34 i1 i3 n, fun n => ?_⟩
    show _ ≤ 4 ^ (as.length + 1)
    rw [Rat.pow_succ]
    have e1 := geo_tot_le h0' h34 i1 n
    have e2 := i4 n
    grind
end DL
/-! DL36: answers that are well known: the row of 1 over the lower row, the bounds. -/
namespace DL
open PySem PySem.Spec PyProof.Rows L2
def D3 : Nat := 420 ^ 3
def M3 : Nat := 4 * 420 ^ 3
def D128 : Nat := 420 ^ 128
def M128 : Nat := 64 * 420 ^ 128
/-- an answer and 1 over its lower row -/
structure Kn (top under : List Rat) (xi : Sq) : Prop where
  inv : ∀ n, mu under xi n = dl n
  ne : under ≠ []
  one : co under 0 = 1
  tu : trimd under
  tt : trimd top
  lu : under.length ≤ 4
  lt : top.length ≤ 6
  ft : ∀ k, FB 30 1500 (co top k)
  fu : ∀ k, FB D3 M3 (co under k)
  fx : ∀ k, k < 128 → FB D128 M128 (xi k)
  st : (top.map rabs).sum ≤ 300
  su : (under.map rabs).sum ≤ 6
  sx : ∀ n, tot (fun k => rabs (xi k)) n ≤ 64
  tn : ∀ k, 128 ≤ k → k < 132 → rabs (xi k) ≤ tiny
section
variable {top under : List Rat} {xi : Sq}
theorem Kn.x0 (G : Kn top under xi) : xi 0 = 1 := by
  have h := G.inv 0
  obtain ⟨x, xs, e⟩ : ∃ x xs, under = x :: xs := by
    cases h2 : under with
    | nil => exact absurd h2 G.ne
    | cons x xs => exact ⟨x, xs, rfl⟩
  have h1 := G.one
  rw [e] at h h1
  have h2 : x = 1 := h1
  have h3 : x * xi 0 + 0 = 1 := h
  rw [h2] at h3
  grind
/-- the partial sums within the recursion -/
theorem rec_pc (G : Kn top under xi) {xs : List Rat} {n : Nat} (hx : ∀ k, k < n → co xs k = xi k) : ∀ j, j ≤ n → rec_ [1] under xs n j = dl n - (pc under (tab (n + 1) xi) (j + 1) n - xi n)
  | 0, _ => by
    show co [1] n = dl n - ((0 + if 0 ≤ n then co under 0 * co (tab (n + 1) xi) (n - 0) else 0) - xi n)
    rw [if_pos (Nat.zero_le n), Nat.sub_zero, tab_co (Nat.lt_succ_self n), G.one, co_one_dl]
    grind
  | j + 1, hj => by
    show rec_ [1] under xs n j - co under (j + 1) * co xs (n - (j + 1)) = dl n - ((pc under (tab (n + 1) xi) (j + 1) n + if j + 1 ≤ n then co under (j + 1) * co (tab (n + 1) xi) (n - (j + 1)) else 0) - xi n)
    rw [rec_pc G hx j (by omega), if_pos hj, tab_co (by omega), hx _ (by omega)]
    grind
theorem pc_stop {xs ys : List Rat} {n : Nat} : ∀ {j m : Nat}, j ≤ m → (∀ i, j ≤ i → i < m → i ≤ n → co xs i = 0) → pc xs ys m n = pc xs ys j n := by
  intro j m hjm h
  induction hjm with
  | refl => rfl
  | step hm ih =>
    rename_i m
    show pc xs ys m n + (if m ≤ n then co xs m * co ys (n - m) else 0) = _
    rw [ih fun i h1 h2 h3 => h i h1 (by omega) h3]
    by_cases e : m ≤ n
    · rw [if_pos e, h m hm (by omega) e]
      grind
    · rw [if_neg e]
      grind
theorem nxt_is (G : Kn top under xi) {xs : List Rat} {n : Nat} (hx : ∀ k, k < n → co xs k = xi k) : nxt [1] under xs n = xi n := by
  have hl : 0 < under.length := List.length_pos_iff.mpr G.ne
  unfold nxt
  rw [rec_pc G hx _ (Nat.min_le_left _ _)]
  have e1 : mu under xi n = cv under (tab (n + 1) xi) n := by
    rw [cv_mu]
    exact mu_local fun k hk => (tab_co (by omega)).symm
  have e2 : cv under (tab (n + 1) xi) n = pc under (tab (n + 1) xi) (min n (under.length - 1) + 1) n := by
    unfold cv
    refine pc_stop (by omega) fun i h1 h2 h3 => ?_
    omega
  rw [← e2, ← e1, G.inv n]
  grind
theorem ser_is (G : Kn top under xi) : ∀ n k, co (ser [1] under n) k = if k < n then xi k else 0
  | 0, k => by
    rw [if_neg (by omega)]
    exact co_ge (Nat.zero_le _)
  | n + 1, k => by
    have ih := ser_is G n
    show co (ser [1] under n ++ [nxt [1] under (ser [1] under n) n]) k = _
    rw [nxt_is G fun k hk => by rw [ih, if_pos hk]]
    have hl := ser_len [1] under n
    by_cases h : k < n
    · rw [if_pos (by omega), ← (show co (ser [1] under n) k = xi k by rw [ih, if_pos h])]
      exact co_lt (by rw [List.getElem?_append_left (by omega)]; exact co_some (by omega))
    · by_cases h2 : k = n
      · rw [if_pos (by omega)]
        exact co_lt (by rw [List.getElem?_append_right (by omega), hl, h2, Nat.sub_self]; rfl)
      · rw [if_neg (by omega)]
        exact co_ge (by rw [List.length_append, hl]; show n + 1 ≤ k; omega)
theorem rwn_is (G : Kn top under xi) (n k : Nat) : co (rwn under n) k = if k < n then xi k else 0 := by
  unfold rwn
  rw [co_trim, ser_is G]
theorem rwn_len (under : List Rat) (n : Nat) : (rwn under n).length ≤ n := by
  have := trim_length (ser [1] under n)
  rw [ser_len] at this
  exact this
theorem Kn.fxr (G : Kn top under xi) {n : Nat} (hn : n ≤ 128) (k : Nat) : FB D128 M128 (co (rwn under n) k) := by
  rw [rwn_is G]
  split
  · exact G.fx k (by omega)
  · exact FB.zero' _ _
theorem Kn.fxs (G : Kn top under xi) {n : Nat} (hn : n ≤ 128) (k : Nat) : FB D128 M128 (co (ser [1] under n) k) := by
  rw [ser_is G]
  split
  · exact G.fx k (by omega)
  · exact FB.zero' _ _
theorem fu_sm (G : Kn top under xi) (i : Nat) : sm 100 (co under i) := (G.fu i).sm (by decide) (by decide) (by decide)
theorem Kn.serK (G : Kn top under xi) : serOk [1] under 128 := by
  have hl := G.lu
  refine ⟨fun i => (fu_sm G i).mono (by decide), fun n hn j => (G.fxs (by omega) j).sm (by decide) (b := 4000) (by decide) (by decide), fun n hn j hj => ?_, fun n hn j hj => ?_⟩
  · rw [rec_pc G (fun k hk => by rw [ser_is G, if_pos hk]) j hj]
    have ht : ∀ k, FB D128 M128 (co (tab (n + 1) xi) k) := fun k => by
      by_cases h : k < n + 1
      · rw [tab_co h]
        exact G.fx k (by omega)
      · rw [tab_zero (by omega)]
        exact FB.zero' _ _
    have h1 : FB (D3 * D128) (4 * (M3 * M128)) (pc under (tab (n + 1) xi) (j + 1) n) := (FB.pc G.fu ht _ _).mono (Nat.mul_le_mul_right _ hl)
    have h2 : FB (D3 * D128) (D3 * M128) (xi n) := by
      have := (FB.one D3).mul (G.fx n hn)
      rwa [show 1 * xi n = xi n by grind] at this
    have h3 : FB (D3 * D128) (D3 * D128) (dl n) := by
      unfold dl
      split
      · exact FB.one _
      · exact FB.zero' _ _
    exact (h3.sub (h1.sub h2)).sm (by decide) (by decide) (by decide)
  · exact ((G.fu j).mul (G.fxs (by omega) (n - j))).sm (by decide) (by decide) (by decide)
theorem mulOk_of {D E M N : Nat} {xs ys : List Rat} (lx : xs.length ≤ 6) (ly : ys.length ≤ 400) (hx : ∀ k, FB D M (co xs k)) (hy : ∀ k, FB E N (co ys k)) (d1 : 0 < D) (d2 : 0 < E) (h1 : D * E < 2 ^ 1300) (h2 : 6 * (M * N) < 2 ^ 1300) (h3 : D < 2 ^ 1300) (h4 : E < 2 ^ 1300) (h5 : M < 2 ^ 1300) (h6 : N < 2 ^ 1300) : MulOk xs ys := by
  have e : (2 : Nat) ^ 1300 ≤ 2 ^ 4000 := Nat.pow_le_pow_right (by decide) (by decide)
  have h7 : 0 < D * E := Nat.mul_pos d1 d2
  refine ⟨by omega, ly, fun i => (hx i).sm d1 (by omega) (by omega), fun i => (hy i).sm d2 (by omega) (by omega), fun i j => ((hx i).mul (hy j)).sm h7 (by omega) (by omega), fun i k => ?_⟩
  exact ((FB.pc hx hy i k).mono (Nat.mul_le_mul_right _ lx)).sm h7 (by omega) (by omega)
theorem abs_co_FB {D M : Nat} {xs : List Rat} (h : ∀ k, FB D M (co xs k)) (k : Nat) : FB D M (co (xs.map rabs) k) := by
  rw [co_abs]
  exact (h k).abs
theorem fe (G : Kn top under xi) {x : List Rat} (hx : ∀ k, FB D128 M128 (co x k)) (k : Nat) : FB (D3 * D128) (D3 * D128 + 4 * (M3 * M128)) (co (psub [1] (pmul under x)) k) := by
  rw [co_psub]
  refine FB.sub ?_ ?_
  · rw [co_one_dl]
    unfold dl
    split
    · exact FB.one _
    · exact FB.zero' _ _
  · rw [co_pmul, ← cv_mu]
    exact (FB.pc G.fu hx _ _).mono (Nat.mul_le_mul_right _ G.lu)
theorem fp (G : Kn top under xi) {x : List Rat} (hx : ∀ k, FB D128 M128 (co x k)) (k : Nat) : FB (30 * D128) (6 * (1500 * M128)) (co (pmul top x) k) := by
  rw [co_pmul, ← cv_mu]
  exact (FB.pc G.ft hx _ _).mono (Nat.mul_le_mul_right _ G.lt)
theorem pmul_len' (xs ys : List Rat) : (pmul xs ys).length ≤ xs.length + ys.length := by
  have := trim_length ((List.range (xs.length + ys.length)).map (cv xs ys))
  rw [List.length_map, List.length_range] at this
  exact this
theorem psub_len' (xs ys : List Rat) : (psub xs ys).length ≤ max xs.length ys.length := by
  have := trim_length ((List.range (max xs.length ys.length)).map fun i => co xs i - co ys i)
  rw [List.length_map, List.length_range] at this
  exact this
theorem lenE (hl : under.length ≤ 4) {x : List Rat} (hx : x.length ≤ 128) : (psub [1] (pmul under x)).length ≤ 132 := by
  have h1 := psub_len' [1] (pmul under x)
  have h2 := pmul_len' under x
  have h3 : max [(1 : Rat)].length (pmul under x).length ≤ 132 := by show max 1 _ ≤ _; omega
  omega
theorem Kn.bok (G : Kn top under xi) {n : Nat} (hn : n ≤ 128) : BOk top under (rwn under n) := by
  have hl := rwn_len under n
  have hx := G.fxr hn
  have l4 := G.lu
  have l6 := G.lt
  have e : (2 : Nat) ^ 1500 ≤ 2 ^ 4000 := Nat.pow_le_pow_right (by decide) (by decide)
  have le := lenE l4 (show (rwn under n).length ≤ 128 by omega)
  have lp := pmul_len' top (rwn under n)
  obtain ⟨_, ss⟩ := FB.sumOk (n := 140) (b := 1500) (abs_co_FB (fe G hx)) (by rw [List.length_map]; omega) (by decide) (by decide) (by decide) (by decide)
  obtain ⟨s1, _⟩ := FB.sumOk (n := 140) (b := 4000) (abs_co_FB (fe G hx)) (by rw [List.length_map]; omega) (by decide) (by decide) (by decide) (by decide)
  obtain ⟨_, su⟩ := FB.sumOk (n := 140) (b := 1500) (abs_co_FB (fp G hx)) (by rw [List.length_map]; omega) (by decide) (by decide) (by decide) (by decide)
  obtain ⟨s2, _⟩ := FB.sumOk (n := 140) (b := 4000) (abs_co_FB (fp G hx)) (by rw [List.length_map]; omega) (by decide) (by decide) (by decide) (by decide)
  refine ⟨mulOk_of (by omega) (by omega) G.fu hx (by decide) (by decide) (by decide) (by decide) (by decide) (by decide) (by decide) (by decide), mulOk_of l6 (by omega) G.ft hx (by decide) (by decide) (by decide) (by decide) (by decide) (by decide) (by decide) (by decide), fun i => ?_, s1, s2, ss, su⟩
  rw [co_pmul, ← cv_mu]
  exact ((FB.pc G.fu hx _ _).mono (Nat.mul_le_mul_right _ l4)).sm (by decide) (by decide) (by decide)
end
end DL
/-! DL37: the bounds are near after 128 numbers; where the worst lies. -/
namespace DL
open PySem PySem.Spec PyProof.Rows L2
section
variable {top under : List Rat} {xi : Sq}
theorem mu_sub (xs : List Rat) (f g : Sq) (n : Nat) : mu xs (fun k => f k - g k) n = mu xs f n - mu xs g n := by
  rw [show (fun k => f k - g k) = fun k => f k + (-1) * g k from by funext k; grind, mu_add, mu_smul]
  grind
/-- what is left -/
theorem res_is (K : Kn top under xi) (n k : Nat) : co (psub [1] (pmul under (rwn under n))) k = mu under (fun j => if j < n then 0 else xi j) k := by
  rw [co_psub, co_pmul, co_one_dl, ← K.inv k, ← mu_sub]
  refine mu_local fun j _ => ?_
  rw [rwn_is K]
  split <;> grind
theorem lenE' (hl : under.length ≤ 4) {x : List Rat} (hx : x.length ≤ 128) : (psub [1] (pmul under x)).length ≤ 132 := lenE hl hx
theorem tot_tail (K : Kn top under xi) : tot (fun k => rabs (if k < 128 then 0 else xi k)) 132 ≤ 4 * tiny := by
  have h0 : tot (fun k => rabs (if k < 128 then 0 else xi k)) 128 = 0 := by
    rw [tot_congr (g := fun _ => 0) fun k hk => by rw [if_pos hk]; decide +kernel]
    exact tot_beyond (f := fun _ => (0 : Rat)) (n := 0) (fun k _ => rfl) (Nat.zero_le _)
  show tot (fun k => rabs (if k < 128 then 0 else xi k)) 128 + rabs (xi 128) + rabs (xi 129) + rabs (xi 130) + rabs (xi 131) ≤ _
  rw [h0]
  have h1 := K.tn 128 (by decide) (by decide)
  have h2 := K.tn 129 (by decide) (by decide)
  have h3 := K.tn 130 (by decide) (by decide)
  have h4 := K.tn 131 (by decide) (by decide)
  grind
theorem share_tiny (K : Kn top under xi) : share under (rwn under 128) ≤ 24 * tiny := by
  unfold share
  rw [abs_tot _ (lenE K.lu (rwn_len under 128)), tot_congr fun k _ => by rw [res_is K]]
  have h1 := tot_mu_le under (fun j => if j < 128 then 0 else xi j) 132
  have h2 := tot_tail K
  have h3 := K.su
  have h4 := abs_sum_nn under
  have h5 : 0 ≤ tot (fun k => rabs (if k < 128 then 0 else xi k)) 132 := tot_nn fun k => rabs_nn _
  have h6 := Rat.mul_nonneg (show 0 ≤ 6 - (under.map rabs).sum by grind) h5
  grind
theorem upper_le (K : Kn top under xi) (n : Nat) : upper top (rwn under n) ≤ 19200 := by
  unfold upper
  rw [abs_tot _ (Nat.le_refl _), tot_congr fun k _ => by rw [co_pmul]]
  generalize (pmul top (rwn under n)).length = N
  have h1 := tot_mu_le top (co (rwn under n)) N
  have h2 : tot (fun k => rabs (co (rwn under n) k)) N ≤ tot (fun k => rabs (xi k)) N := tot_mono fun k _ => by
    rw [rwn_is K]
    split
    · grind
    · exact (show rabs 0 = 0 by decide +kernel) ▸ rabs_nn _
  have h3 := K.sx N
  have h4 := K.st
  have h5 := abs_sum_nn top
  have h6 : 0 ≤ tot (fun k => rabs (co (rwn under n) k)) N := tot_nn fun k => rabs_nn _
  have h7 := Rat.mul_nonneg (show 0 ≤ 300 - (top.map rabs).sum by grind) h6
  grind
theorem div_le_i {a b c : Rat} (hb : 0 < b) : a / b ≤ c ↔ a ≤ c * b := by
  rw [← Rat.not_lt, ← Rat.not_lt, Rat.lt_div_iff hb]
theorem le_div_i {a b c : Rat} (hc : 0 < c) : a ≤ b / c ↔ a * c ≤ b := by
  rw [← Rat.not_lt, ← Rat.not_lt, Rat.div_lt_iff hc]
theorem gap_eq {U s : Rat} (h1 : 1 + s ≠ 0) (h2 : 1 - s ≠ 0) : U / (1 - s) - U / (1 + s) = (2 * s * U) / ((1 - s) * (1 + s)) := by grind
theorem gap_le {U s : Rat} (hs0 : 0 ≤ s) (hs : s ≤ 24 * tiny) (hU0 : 0 ≤ U) (hU : U ≤ 19200) : U / (1 - s) - U / (1 + s) ≤ 1 / 1000000 := by
  have ht : 24 * tiny ≤ 1 / 100 := by decide +kernel
  have hs1 : s ≤ 1 / 100 := by grind
  have e1 : 0 < (1 - s) * (1 + s) := Rat.mul_pos (by grind) (by grind)
  have e2 : s * s ≤ 1 / 100 := by
    have := Rat.mul_nonneg hs0 (show 0 ≤ 1 / 100 - s by grind)
    grind
  have e3 : 9 / 10 ≤ (1 - s) * (1 + s) := by grind
  rw [gap_eq (by grind) (by grind), div_le_i e1]
  have e4 : 2 * s * U ≤ 2 * (24 * tiny) * 19200 := by
    have a1 := Rat.mul_nonneg hs0 (show 0 ≤ 19200 - U by grind)
    have a2 := Rat.mul_nonneg (show 0 ≤ 24 * tiny - s by grind) (show (0 : Rat) ≤ 19200 by decide +kernel)
    grind
  have e5 : 2 * (24 * tiny) * 19200 ≤ 1 / 1000000 * (9 / 10) := by decide +kernel
  grind
theorem one_div_le {m : Int} (h1 : 1 ≤ m) (h2 : m ≤ 1000000) : (1 : Rat) / 1000000 ≤ 1 / (m : Rat) := by
  have e1 : (1 : Rat) ≤ (m : Rat) := Rat.intCast_le_intCast.mpr h1
  have e2 : (m : Rat) ≤ 1000000 := Rat.intCast_le_intCast.mpr h2
  have e3 : (0 : Rat) < (m : Rat) := by grind
  rw [le_div_i e3]
  grind
theorem Kn.near (K : Kn top under xi) {m : Int} (h1 : 1 ≤ m) (h2 : m ≤ 1000000) : DL.near top under (rwn under 128) m := by
  have s0 := share_nn under (rwn under 128)
  have s1 := share_tiny K
  have u0 := upper_nn top (rwn under 128)
  have u1 := upper_le K 128
  have ht : 24 * tiny < 1 := by decide +kernel
  refine ⟨by grind, fun h => ?_⟩
  have e1 := gap_le s0 s1 u0 u1
  have e2 := one_div_le h1 h2
  unfold hiB loB at h
  grind
theorem Kn.bd (K : Kn top under xi) {m : Int} (h1 : 1 ≤ m) (h2 : m ≤ 1000000) : BdOk top under m := ⟨K.serK, fun _ hn => K.bok hn, K.near h1 h2⟩
/-! ### where the worst lies -/
theorem sum_psub (xs ys : List Rat) : (psub xs ys).sum = xs.sum - ys.sum := by
  have e1 := sum_tot (psub xs ys) (n := (psub xs ys).length + xs.length + ys.length) (by omega)
  have e2 := sum_tot xs (n := (psub xs ys).length + xs.length + ys.length) (by omega)
  have e3 := sum_tot ys (n := (psub xs ys).length + xs.length + ys.length) (by omega)
  rw [← e1, ← e2, ← e3, tot_congr (g := fun k => co xs k + (-1) * co ys k) fun k _ => by rw [co_psub]; grind, tot_add, tot_smul]
  grind
theorem abs_sum (xs : List Rat) : rabs xs.sum ≤ (xs.map rabs).sum := by
  rw [abs_tot xs (Nat.le_refl _), ← sum_tot xs (Nat.le_refl _)]
  exact tot_abs_le _ _
theorem abs_sum_eq {xs : List Rat} (h : ∀ k, 0 ≤ co xs k) : (xs.map rabs).sum = xs.sum := by
  rw [abs_tot xs (Nat.le_refl _), ← sum_tot xs (Nat.le_refl _)]
  exact tot_congr fun k _ => rabs_of_nn (h k)
theorem mu_nn {xs : List Rat} {f : Sq} (hx : ∀ k, 0 ≤ co xs k) (hf : ∀ k, 0 ≤ f k) : ∀ n, 0 ≤ mu xs f n := by
  induction xs with
  | nil => intro n; show (0 : Rat) ≤ 0; grind
  | cons x xs ih =>
    intro n
    have h1 := Rat.mul_nonneg (show 0 ≤ x from hx 0) (hf n)
    show 0 ≤ x * f n + sh (mu xs f) n
    cases n with
    | zero => show 0 ≤ x * f 0 + 0; grind
    | succ n =>
      have h2 := ih (fun k => hx (k + 1)) n
      show 0 ≤ x * f (n + 1) + mu xs f n
      grind
theorem div_mul_cancel' {a b : Rat} (h : b ≠ 0) : a / b * b = a := by grind
/-- the worth at 1 lies within the bounds -/
theorem worst_in (K : Kn top under xi) (ht : ∀ k, 0 ≤ co top k) (hx : ∀ k, 0 ≤ xi k) (hu : 0 < worth under 1) {n : Nat} (hs : share under (rwn under n) < 1) :
    ¬ worth top 1 / worth under 1 < loB top under (rwn under n) ∧ ¬ hiB top under (rwn under n) < worth top 1 / worth under 1 := by
  have x0 : ∀ k, 0 ≤ co (rwn under n) k := fun k => by
    rw [rwn_is K]
    split
    · exact hx k
    · grind
  have eU : upper top (rwn under n) = worth top 1 * worth (rwn under n) 1 := by
    unfold upper
    rw [abs_sum_eq fun k => by rw [co_pmul]; exact mu_nn ht x0 k, ← worth_one, worth_pmul]
  have eS : rabs (1 - worth under 1 * worth (rwn under n) 1) ≤ share under (rwn under n) := by
    have := abs_sum (psub [1] (pmul under (rwn under n)))
    rw [sum_psub, ← worth_one (pmul under (rwn under n)), worth_pmul] at this
    rw [show [(1 : Rat)].sum = 1 by decide +kernel] at this
    exact this
  have hT : 0 ≤ worth top 1 := worth_nn (by decide +kernel) fun x hx' => by
    obtain ⟨i, hi, rfl⟩ := List.mem_iff_getElem.mp hx'
    rw [← co_lt (List.getElem?_eq_getElem hi)]
    exact ht i
  have s0 := share_nn under (rwn under n)
  unfold loB hiB
  rw [eU]
  generalize worth (rwn under n) 1 = V at *
  generalize worth top 1 = T at *
  generalize worth under 1 = U at *
  generalize share under (rwn under n) = s at *
  have hb : 1 - U * V ≤ s ∧ -(1 - U * V) ≤ s := by
    unfold rabs at eS
    split at eS <;> grind
  have hU' : U ≠ 0 := by grind
  have hW : T / U * U = T := div_mul_cancel' hU'
  have hW0 : 0 ≤ T / U := by
    rw [le_div_i hu]
    grind
  have m1 := Rat.mul_nonneg hW0 (show 0 ≤ 1 + s - U * V by grind)
  have m2 := Rat.mul_nonneg hW0 (show 0 ≤ U * V - (1 - s) by grind)
  have k1 : T / U * (U * V) = T * V := by grind
  constructor
  · refine Rat.not_lt.mpr ?_
    rw [div_le_i (by grind)]
    grind
  · refine Rat.not_lt.mpr ?_
    rw [le_div_i (by grind)]
    grind
end
end DL
/-! DL38: the drawn lower rows, checked one by one; no common divisor. -/
namespace DL
open PySem PySem.Spec PyProof.Rows L2
def l9 : Nat → List (List Rat)
  | 0 => [[]]
  | n + 1 => [] :: (l9 n).flatMap fun l => A9.map fun a => a :: l
theorem l9_mem {n : Nat} {as : List Rat} (hl : as.length ≤ n) (h : ∀ a ∈ as, a ∈ A9) : as ∈ l9 n := by
  induction n generalizing as with
  | zero =>
    cases as with
    | nil => exact List.mem_cons_self
    | cons a as => exact absurd hl (by show ¬ as.length + 1 ≤ 0; omega)
  | succ n ih =>
    cases as with
    | nil => exact List.mem_cons_self
    | cons a as =>
      refine List.mem_cons_of_mem _ (List.mem_flatMap.mpr ⟨as, ih (by simpa using hl) fun b hb => h b (List.mem_cons_of_mem _ hb), ?_⟩)
      exact List.mem_map.mpr ⟨a, h a List.mem_cons_self, rfl⟩
def mulB (u : List Rat) : Bool := decide (u.length ≤ 6) && (u.all (smB 100) && (List.range 7).all fun i => decide (lcd (u.take i) < 2 ^ 100))
def fbB (u : List Rat) : Bool := u.all fun c => (c * ((D3 : Int) : Rat)).den == 1 && decide ((c * ((D3 : Int) : Rat)).num.natAbs ≤ M3)
def chkU (u : List Rat) : Bool := decide (u.length ≤ 4) && decide (u ≠ []) && decide (co u 0 = 1) && decide (co u (u.length - 1) ≠ 0) && fbB u && decide ((u.map rabs).sum ≤ 6) && bendsOk u.length u && bendsOk (mir u).length (mir u) && mulB u && decide (0 < worth u 1)
def chkA (a : Rat) : Bool := (l9 2).all fun as => chkU (prodF (a :: as))
theorem chk_0 : chkU (prodF []) = true := by decide +kernel
theorem chk_a1 : chkA (1 / 2) = true := by decide +kernel
theorem chk_a2 : chkA (1 / 3) = true := by decide +kernel
theorem chk_a3 : chkA (1 / 4) = true := by decide +kernel
theorem chk_a4 : chkA (1 / 5) = true := by decide +kernel
theorem chk_a5 : chkA (2 / 3) = true := by decide +kernel
theorem chk_a6 : chkA (2 / 5) = true := by decide +kernel
theorem chk_a7 : chkA (3 / 4) = true := by decide +kernel
theorem chk_a8 : chkA (3 / 5) = true := by decide +kernel
theorem chk_a9 : chkA (3 / 7) = true := by decide +kernel
theorem a9_ind {P : Rat → Prop} (h1 : P (1 / 2)) (h2 : P (1 / 3)) (h3 : P (1 / 4)) (h4 : P (1 / 5)) (h5 : P (2 / 3)) (h6 : P (2 / 5)) (h7 : P (3 / 4)) (h8 : P (3 / 5)) (h9 : P (3 / 7)) {a : Rat} (h : a ∈ A9) : P a := by
  unfold A9 at h
  simp only [List.mem_cons, List.not_mem_nil, or_false] at h
  rcases h with rfl | rfl | rfl | rfl | rfl | rfl | rfl | rfl | rfl <;> assumption
structure ChkU (u : List Rat) : Prop where
  l : u.length ≤ 4
  ne : u ≠ []
  one : co u 0 = 1
  last : co u (u.length - 1) ≠ 0
  fb : fbB u = true
  su : (u.map rabs).sum ≤ 6
  be : bendsOk u.length u = true
  bm : bendsOk (mir u).length (mir u) = true
  mu_ : mulB u = true
  w : 0 < worth u 1
theorem chk_of {u : List Rat} (h : chkU u = true) : ChkU u := by
  unfold chkU at h
  simp only [Bool.and_eq_true, decide_eq_true_eq] at h
  obtain ⟨⟨⟨⟨⟨⟨⟨⟨⟨h1, h2⟩, h3⟩, h4⟩, h5⟩, h6⟩, h7⟩, h8⟩, h9⟩, h10⟩ := h
  exact ⟨h1, h2, h3, h4, h5, h6, h7, h8, h9, h10⟩
theorem chk {as : List Rat} (hl : as.length ≤ 3) (h : ∀ a ∈ as, a ∈ A9) : ChkU (prodF as) := by
  cases as with
  | nil => exact chk_of chk_0
  | cons a as =>
    have k : chkA a = true := a9_ind (P := fun a => chkA a = true) chk_a1 chk_a2 chk_a3 chk_a4 chk_a5 chk_a6 chk_a7 chk_a8 chk_a9 (h a List.mem_cons_self)
    have hl2 : as.length + 1 ≤ 3 := hl
    exact chk_of (List.all_eq_true.mp k as (l9_mem (n := 2) (by omega) fun b hb => h b (List.mem_cons_of_mem _ hb)))
theorem fb_of {u : List Rat} (h : fbB u = true) (k : Nat) : FB D3 M3 (co u k) := by
  by_cases hk : k < u.length
  · have := List.all_eq_true.mp h _ (co_mem hk)
    rw [Bool.and_eq_true, beq_iff_eq, decide_eq_true_eq] at this
    exact ⟨_, int_of_den this.1, this.2⟩
  · rw [co_ge (by omega)]
    exact FB.zero' _ _
theorem trimd_of {u : List Rat} (h0 : u ≠ []) (h : co u (u.length - 1) ≠ 0) : trimd u := .inr ⟨_, last_co h0, h⟩
/-! ### upper rows -/
structure Tp (top : List Rat) : Prop where
  tt : trimd top
  lt : top.length ≤ 6
  ft : ∀ k, FB 30 1500 (co top k)
  st : (top.map rabs).sum ≤ 300
theorem okN_fb {x : Rat} (h : okN x) : FB 30 1500 x := by
  obtain ⟨a, b, rfl, h1, h2, h3⟩ := h
  have mk : ∀ (b c : Int), b ≠ 0 → b * c = 30 → c.natAbs ≤ 30 → FB 30 1500 ((a : Rat) / (b : Rat)) := fun b c hb e hc => by
    refine ⟨a * c, ?_, ?_⟩
    · have hb' : (b : Rat) ≠ 0 := rat_ne hb
      have e' : ((30 : Nat) : Int) = b * c := e.symm
      rw [e', Rat.intCast_mul, Rat.intCast_mul]
      grind
    · rw [Int.natAbs_mul]
      have : a.natAbs ≤ 50 := by omega
      exact Nat.mul_le_mul this hc
  rcases h3 with rfl | rfl | rfl | rfl
  · exact mk 1 30 (by decide) (by decide) (by decide)
  · exact mk 2 15 (by decide) (by decide) (by decide)
  · exact mk 3 10 (by decide) (by decide) (by decide)
  · exact mk 5 6 (by decide) (by decide) (by decide)
theorem fb_abs {x : Rat} (h : FB 30 1500 x) : rabs x ≤ 50 := by
  obtain ⟨z, e, hz⟩ := h
  have h1 : (z : Rat) ≤ ((1500 : Int) : Rat) := Rat.intCast_le_intCast.mpr (by omega)
  have h2 : ((-1500 : Int) : Rat) ≤ (z : Rat) := Rat.intCast_le_intCast.mpr (by omega)
  have e1 : ((1500 : Int) : Rat) = 1500 := rfl
  have e2 : ((-1500 : Int) : Rat) = -1500 := by decide +kernel
  have e3 : (((30 : Nat) : Int) : Rat) = 30 := rfl
  rw [← e, e1, e3] at h1
  rw [← e, e2, e3] at h2
  unfold rabs
  split <;> grind
theorem Tp.of {xs : List Rat} (h : ∀ x ∈ xs, okN x) (ht : trimd xs) (hl : xs.length ≤ 6) : Tp xs := by
  have hf : ∀ k, FB 30 1500 (co xs k) := fun k => by
    by_cases hk : k < xs.length
    · exact okN_fb (h _ (co_mem hk))
    · rw [co_ge (by omega)]
      exact FB.zero' _ _
  refine ⟨ht, hl, hf, ?_⟩
  rw [abs_tot xs hl]
  show (0 : Rat) + rabs (co xs 0) + rabs (co xs 1) + rabs (co xs 2) + rabs (co xs 3) + rabs (co xs 4) + rabs (co xs 5) ≤ 300
  have g0 := fb_abs (hf 0)
  have g1 := fb_abs (hf 1)
  have g2 := fb_abs (hf 2)
  have g3 := fb_abs (hf 3)
  have g4 := fb_abs (hf 4)
  have g5 := fb_abs (hf 5)
  grind
theorem pow_cast (n : Nat) : (((420 ^ n : Nat) : Int) : Rat) = (420 : Rat) ^ n := by
  induction n with
  | zero => rw [Rat.pow_zero]; rfl
  | succ n ih =>
    rw [Nat.pow_succ, Int.natCast_mul, Rat.intCast_mul, ih, Rat.pow_succ]
    rfl
theorem pow_add' (a : Rat) (m n : Nat) : a ^ (m + n) = a ^ m * a ^ n := by
  induction n with
  | zero => rw [Nat.add_zero, Rat.pow_zero]; grind
  | succ n ih =>
    rw [← Nat.add_assoc, Rat.pow_succ, ih, Rat.pow_succ]
    grind
theorem pow4 {n : Nat} (h : n ≤ 3) : (4 : Rat) ^ n ≤ 64 := by
  match n, h with
  | 0, _ => decide +kernel
  | 1, _ => decide +kernel
  | 2, _ => decide +kernel
  | 3, _ => decide +kernel
/-- the drawn answers are known -/
theorem kn {top as : List Rat} (T : Tp top) (hl : as.length ≤ 3) (h : ∀ a ∈ as, a ∈ A9) : Kn top (prodF as) (inv as) := by
  obtain ⟨i1, i2, i3, i4⟩ := inv_facts h
  have C := chk hl h
  have h4 := pow4 hl
  have ha : (fun k => rabs (inv as k)) = inv as := funext fun k => rabs_of_nn (i1 k)
  have i64 : ∀ k, inv as k ≤ 64 := fun k => by
    have e1 := i4 (k + 1)
    have e2 := tot_nn (f := inv as) (n := k) i1
    have e3 : tot (inv as) (k + 1) = tot (inv as) k + inv as k := rfl
    grind
  refine ⟨fun n => congrFun (mu_inv as) n, C.ne, C.one, trimd_of C.ne C.last, T.tt, C.l, T.lt, T.ft, fb_of C.fb, fun k hk => ?_, T.st, C.su, fun n => ?_, fun k h1 h2 => ?_⟩
  · obtain ⟨z, hz⟩ := i2 k
    have e : inv as k * ((D128 : Int) : Rat) = ((z * ((420 ^ (128 - k) : Nat) : Int) : Int) : Rat) := by
      unfold D128
      rw [Rat.intCast_mul, ← hz, pow_cast, pow_cast, show (420 : Rat) ^ 128 = 420 ^ (k + (128 - k)) by rw [show k + (128 - k) = 128 by omega], pow_add']
      grind
    refine ⟨_, e, ?_⟩
    have hD : (0 : Rat) ≤ ((D128 : Int) : Rat) := by
      have : ((0 : Int) : Rat) ≤ ((D128 : Int) : Rat) := Rat.intCast_le_intCast.mpr (Int.natCast_nonneg _)
      exact this
    have p1 := Rat.mul_nonneg (i1 k) hD
    have p2 := Rat.mul_nonneg (show 0 ≤ 64 - inv as k by have := i64 k; grind) hD
    have q1 : ((0 : Int) : Rat) ≤ ((z * ((420 ^ (128 - k) : Nat) : Int) : Int) : Rat) := by rw [← e]; exact p1
    have q2 : ((z * ((420 ^ (128 - k) : Nat) : Int) : Int) : Rat) ≤ ((64 * (D128 : Int) : Int) : Rat) := by
      rw [← e, Rat.intCast_mul]
      have : ((64 : Int) : Rat) = 64 := rfl
      rw [this]
      grind
    have q3 := Rat.intCast_le_intCast.mp q1
    have q4 := Rat.intCast_le_intCast.mp q2
    have e4 : M128 = 64 * D128 := rfl
    omega
  · rw [ha]
    have := i4 n
    grind
  · rw [rabs_of_nn (i1 k)]
    have e1 := i3 k
    have e2 := BB_le3 hl k
    have e3 := BB_tiny h1 h2
    grind
/-! ### no common divisor -/
theorem worth_mu {xs g q : List Rat} (h : ∀ n, co xs n = mu g (co q) n) (z : Rat) : worth xs z = worth g z * worth q z := by
  rw [← worth_tw xs z (n := xs.length + q.length + g.length) (by omega), tw_congr h, tw_mu g z (co q) (m := q.length) (fun k hk => co_ge hk) _ (by omega), worth_tw q z (Nat.le_refl _)]
theorem geo_tw {a z : Rat} (h : a * z = 1) (f : Sq) (n : Nat) : geo a f n * z ^ n = tw z f (n + 1) := by
  induction n with
  | zero => show f 0 * z ^ 0 = 0 + f 0 * z ^ 0; grind
  | succ n ih =>
    show (a * geo a f n + f (n + 1)) * z ^ (n + 1) = tw z f (n + 1) + f (n + 1) * z ^ (n + 1)
    rw [← ih, Rat.pow_succ]
    have : a * geo a f n * (z ^ n * z) = (a * z) * (geo a f n * z ^ n) := by grind
    rw [h] at this
    grind
theorem pow_ne {z : Rat} (h : z ≠ 0) (n : Nat) : z ^ n ≠ 0 := by
  induction n with
  | zero => rw [Rat.pow_zero]; decide +kernel
  | succ n ih =>
    rw [Rat.pow_succ]
    exact fun e => (Rat.mul_eq_zero.mp e).elim ih h
/-- a row with the zero 1 / a has the factor -/
theorem part_off {a : Rat} (ha : a ≠ 0) {q : List Rat} (h : worth q (1 / a) = 0) : ∃ q', mu (fac a) (co q') = co q := by
  have hz : a * (1 / a) = 1 := by grind
  have hz0 : (1 / a) ≠ 0 := by grind
  refine ⟨tab q.length (geo a (co q)), ?_⟩
  rw [show co (tab q.length (geo a (co q))) = geo a (co q) from funext fun k => tab_co' fun k hk => ?_]
  · exact fac_geo a (co q)
  · have := geo_tw hz (co q) k
    rw [worth_tw q (1 / a) (by omega), h] at this
    exact (Rat.mul_eq_zero.mp this).elim id fun e => absurd e (pow_ne hz0 k)
theorem cop_prodF {top as : List Rat} (h : ∀ a ∈ as, a ≠ 0 ∧ worth top (1 / a) ≠ 0) : Cop top (prodF as) := by
  intro g q1 q2 hg h1 h2
  induction as using snoc_ind generalizing q2 with
  | h0 =>
    apply Nat.le_of_not_lt
    intro hl
    have hgne : g ≠ [] := fun e => by rw [e] at hl; cases hl
    have h3 : ∀ n, co [1] n = mu g (co (trim q2)) n := fun n => by
      rw [show co (trim q2) = co q2 from funext (co_trim q2)]
      exact h2 n
    by_cases hq : trim q2 = []
    · have := h3 0
      rw [hq, show co [] = fun _ => (0 : Rat) from funext fun k => co_ge (Nat.zero_le _), mu_zero] at this
      exact absurd this (by decide +kernel)
    · have := h3 (g.length - 1 + ((trim q2).length - 1))
      rw [mu_last hgne, co_ge (by show 1 ≤ _; omega)] at this
      exact (Rat.mul_eq_zero.mp this.symm).elim (trimd_last hgne hg) (trimd_last hq (trim_trimd q2))
  | h1 as a ih =>
    obtain ⟨ha, hw⟩ := h a (by simp)
    have w1 := worth_mu h1 (1 / a)
    have w2 := worth_mu h2 (1 / a)
    have w3 : worth (fac a) (1 / a) = 0 := by
      show (0 * (1 / a) + -a) * (1 / a) + 1 = 0
      grind
    rw [prodF_snoc, worth_pmul, w3] at w2
    have w4 : worth q2 (1 / a) = 0 := by
      have : worth g (1 / a) * worth q2 (1 / a) = 0 := by rw [← w2]; grind
      refine (Rat.mul_eq_zero.mp this).elim (fun e => ?_) id
      rw [e] at w1
      exact absurd (by rw [w1]; grind) hw
    obtain ⟨q', e⟩ := part_off ha w4
    refine ih (fun b hb => h b (List.mem_append_left _ hb)) q' fun n => ?_
    have k1 : mu (fac a) (co (prodF as)) = mu (fac a) (mu g (co q')) := by
      funext n
      rw [mu_co_comm, ← co_pmul, ← prodF_snoc, h2 n, mu_comm, e]
    have k2 := congrArg (geo a) k1
    rw [geo_fac, geo_fac] at k2
    exact congrFun k2 n
theorem eok_all : ((List.range 7).all fun n => (List.range 5).all fun m => eOk 9 n m 12 29) = true := by decide +kernel
theorem FB.rb {D M b : Nat} {f : Sq} (h : ∀ k, FB D M (f k)) (hD : 0 < D) (h1 : D < 2 ^ b) (h2 : M < 2 ^ b) : RB b f := by
  refine ⟨D, fun k => (f k * ((D : Int) : Rat)).num, hD, h1, fun k => ?_, fun k => ?_⟩
  · obtain ⟨z, e, hz⟩ := h k
    show (f k * ((D : Int) : Rat)).num.natAbs < 2 ^ b
    rw [e, Rat.num_intCast]
    omega
  · obtain ⟨z, e, hz⟩ := h k
    have hD' : ((D : Int) : Rat) ≠ 0 := rat_ne (by omega)
    show f k = (((f k * ((D : Int) : Rat)).num : Int) : Rat) / ((D : Int) : Rat)
    rw [e, Rat.num_intCast, ← e]
    grind
theorem Kn.ans {top under : List Rat} {xi : Sq} (K : Kn top under xi) (hc : Cop top under) (h0 : top ≠ []) : AnsOk top under := by
  refine ⟨K.tt, K.tu, by have := K.lt; omega, by have := K.lu; omega, K.ne, K.one, fun e => absurd e h0, fun _ => ⟨hc, 12, 29, 9, FB.rb K.ft (by decide) (by decide) (by decide), FB.rb K.fu (by decide) (by decide) (by decide), ?_, by decide, by decide⟩⟩
  have h1 := List.all_eq_true.mp eok_all top.length (List.mem_range.mpr (by have := K.lt; omega))
  exact List.all_eq_true.mp h1 under.length (List.mem_range.mpr (by have := K.lu; omega))
end DL
/-! DL39: the same with the sign of d turned. -/
namespace DL
open PySem PySem.Spec PyProof.Rows L2
def eps (n : Nat) : Rat := if n % 2 = 0 then 1 else -1
theorem eps_cases (n : Nat) : eps n = 1 ∨ eps n = -1 := by
  unfold eps
  split
  · exact .inl rfl
  · exact .inr rfl
theorem eps_succ (n : Nat) : eps (n + 1) = -eps n := by
  unfold eps
  by_cases h : n % 2 = 0
  · rw [if_pos h, if_neg (by omega)]
  · rw [if_neg h, if_pos (by omega)]
    grind
theorem eps_add (m n : Nat) : eps (m + n) = eps m * eps n := by
  induction n with
  | zero => show eps m = eps m * 1; grind
  | succ n ih => rw [← Nat.add_assoc, eps_succ, ih, eps_succ]; grind
theorem eps_sq (n : Nat) : eps n * eps n = 1 := by rcases eps_cases n with e | e <;> rw [e] <;> grind
theorem rabs_eps (n : Nat) (x : Rat) : rabs (eps n * x) = rabs x := by
  rcases eps_cases n with e | e <;> rw [e]
  · rw [show 1 * x = x by grind]
  · rw [show -1 * x = -x by grind, rabs_neg]
theorem FB.eps {D M : Nat} {x : Rat} (h : FB D M x) (n : Nat) : FB D M (DL.eps n * x) := by
  rcases eps_cases n with e | e <;> rw [e]
  · rw [show 1 * x = x by grind]
    exact h
  · rw [show -1 * x = -x by grind]
    exact h.neg
theorem co_mir (xs : List Rat) (k : Nat) : co (mir xs) k = eps k * co xs k := by
  unfold mir
  by_cases h : k < xs.length
  · rw [tab_co h]
    show co xs k * eps k = _
    grind
  · rw [tab_zero (by omega), co_ge (xs := xs) (by omega)]
    grind
theorem mir_len (xs : List Rat) : (mir xs).length = xs.length := by unfold mir; rw [tab_len]
theorem pc_eps {A A' B B' : List Rat} {n : Nat} (hA : ∀ j, co A' j = eps j * co A j) (hB : ∀ j, j ≤ n → co B' j = eps j * co B j) (i : Nat) : pc A' B' i n = eps n * pc A B i n := by
  induction i with
  | zero => show (0 : Rat) = _ * 0; grind
  | succ i ih =>
    show pc A' B' i n + (if i ≤ n then co A' i * co B' (n - i) else 0) = eps n * (pc A B i n + if i ≤ n then co A i * co B (n - i) else 0)
    rw [ih]
    by_cases h : i ≤ n
    · have e := eps_add i (n - i)
      rw [show i + (n - i) = n by omega] at e
      rw [if_pos h, if_pos h, hA, hB _ (by omega), e]
      grind
    · rw [if_neg h, if_neg h]
      grind
theorem mu_cv (xs : List Rat) (f : Sq) (n : Nat) : mu xs f n = pc xs (tab (n + 1) f) xs.length n := by
  rw [show pc xs (tab (n + 1) f) xs.length n = cv xs (tab (n + 1) f) n from rfl, cv_mu]
  exact mu_local fun k hk => (tab_co (by omega)).symm
theorem mu_mir (xs : List Rat) (f : Sq) (n : Nat) : mu (mir xs) (fun k => eps k * f k) n = eps n * mu xs f n := by
  rw [mu_cv, mu_cv, mir_len]
  refine pc_eps (fun j => co_mir xs j) (fun j hj => ?_) _
  rw [tab_co (by omega), tab_co (by omega)]
theorem mu_smul' (xs : List Rat) (a : Rat) (f : Sq) (n : Nat) : mu xs (fun k => a * f k) n = a * mu xs f n := congrFun (mu_smul xs a f) n
theorem mu_pscale (s : Rat) (xs : List Rat) (f : Sq) (n : Nat) : mu (pscale s xs) f n = s * mu xs f n := by
  rw [mu_tab, show co (pscale s xs) = fun k => s * co xs k from funext fun k => co_pscale s xs k, mu_smul', ← mu_tab]
theorem mir_trimd {xs : List Rat} (h : trimd xs) : trimd (mir xs) := by
  by_cases h0 : xs = []
  · subst h0
    exact .inl rfl
  · have hl : 0 < xs.length := List.length_pos_iff.mpr h0
    refine trimd_of (fun e => ?_) ?_
    · have := mir_len xs
      rw [e] at this
      exact absurd this (by show ¬ 0 = xs.length; omega)
    · rw [mir_len, co_mir]
      intro e
      refine (Rat.mul_eq_zero.mp e).elim (fun e => ?_) (trimd_last h0 h)
      have := eps_sq (xs.length - 1)
      rw [e] at this
      exact absurd this (by decide +kernel)
theorem Cop.mir {xs ys : List Rat} {s : Rat} (hs : s * s = 1) (h : Cop xs ys) : Cop (pscale s (mir xs)) (DL.mir ys) := by
  intro g q1 q2 hg h1 h2
  have := h (DL.mir g) (pscale s (DL.mir q1)) (DL.mir q2) (mir_trimd hg) (fun n => ?_) fun n => ?_
  · rwa [mir_len] at this
  · have e := h1 n
    rw [co_pscale, co_mir] at e
    rw [show co (pscale s (DL.mir q1)) = fun k => s * (eps k * co q1 k) from funext fun k => by rw [co_pscale, co_mir], mu_smul', mu_mir, ← e]
    have := eps_sq n
    grind
  · have e := h2 n
    rw [co_mir] at e
    rw [show co (DL.mir q2) = fun k => eps k * co q2 k from funext fun k => co_mir q2 k, mu_mir, ← e]
    have := eps_sq n
    grind
theorem sgn_abs {s : Rat} (hs : s = 1 ∨ s = -1) (x : Rat) : rabs (s * x) = rabs x := by
  rcases hs with rfl | rfl
  · rw [show 1 * x = x by grind]
  · rw [show -1 * x = -x by grind, rabs_neg]
theorem sgn_sq {s : Rat} (hs : s = 1 ∨ s = -1) : s * s = 1 := by rcases hs with rfl | rfl <;> grind
theorem mir_one (xs : List Rat) : co (mir xs) 0 = co xs 0 := by
  rw [co_mir]
  show 1 * _ = _
  grind
theorem pscale_len (s : Rat) (xs : List Rat) : (pscale s xs).length ≤ xs.length := by
  have := trim_length (xs.map fun x => s * x)
  rw [List.length_map] at this
  exact this
section
variable {top under : List Rat} {xi : Sq}
theorem Kn.mir (K : Kn top under xi) {s : Rat} (hs : s = 1 ∨ s = -1) : Kn (pscale s (mir top)) (DL.mir under) (fun k => eps k * xi k) := by
  have l1 := pscale_len s (DL.mir top)
  rw [mir_len] at l1
  have l2 := mir_len under
  have ec : ∀ k, co (pscale s (DL.mir top)) k = s * (eps k * co top k) := fun k => by rw [co_pscale, co_mir]
  refine ⟨fun n => ?_, fun e => ?_, by rw [mir_one]; exact K.one, mir_trimd K.tu, trim_trimd _, by rw [l2]; exact K.lu, by have := K.lt; omega, fun k => ?_, fun k => ?_, fun k hk => (K.fx k hk).eps k, ?_, ?_, fun n => ?_, fun k h1 h2 => ?_⟩
  · rw [mu_mir, K.inv]
    cases n with
    | zero => decide +kernel
    | succ n => show _ * (0 : Rat) = 0; grind
  · rw [e] at l2
    exact K.ne (List.eq_nil_of_length_eq_zero l2.symm)
  · rw [ec]
    rcases hs with rfl | rfl
    · rw [show (1 : Rat) * (eps k * co top k) = eps k * co top k by grind]
      exact (K.ft k).eps k
    · rw [show (-1 : Rat) * (eps k * co top k) = -(eps k * co top k) by grind]
      exact ((K.ft k).eps k).neg
  · rw [co_mir]
    exact (K.fu k).eps k
  · rw [abs_tot _ l1, tot_congr fun k _ => by rw [ec, sgn_abs hs, rabs_eps], ← abs_tot top (Nat.le_refl _)]
    exact K.st
  · rw [abs_tot _ (Nat.le_of_eq l2), tot_congr fun k _ => by rw [co_mir, rabs_eps], ← abs_tot under (Nat.le_refl _)]
    exact K.su
  · rw [tot_congr fun k _ => rabs_eps k (xi k)]
    exact K.sx n
  · show rabs (eps k * xi k) ≤ tiny
    rw [rabs_eps]
    exact K.tn k h1 h2
theorem share_mir (K : Kn top under xi) {s : Rat} (hs : s = 1 ∨ s = -1) (n : Nat) : share (DL.mir under) (rwn (DL.mir under) n) = share under (rwn under n) := by
  unfold share
  rw [abs_tot (psub [1] (pmul (DL.mir under) (rwn (DL.mir under) n))) (n := (psub [1] (pmul (DL.mir under) (rwn (DL.mir under) n))).length + (psub [1] (pmul under (rwn under n))).length) (by omega),
    abs_tot (psub [1] (pmul under (rwn under n))) (n := (psub [1] (pmul (DL.mir under) (rwn (DL.mir under) n))).length + (psub [1] (pmul under (rwn under n))).length) (by omega)]
  refine tot_congr fun k _ => ?_
  rw [res_is (K.mir hs), res_is K, show (fun j => if j < n then 0 else eps j * xi j) = fun j => eps j * (if j < n then 0 else xi j) from funext fun j => by split <;> grind, mu_mir, rabs_eps]
theorem upper_mir (K : Kn top under xi) {s : Rat} (hs : s = 1 ∨ s = -1) (n : Nat) : upper (pscale s (DL.mir top)) (rwn (DL.mir under) n) = upper top (rwn under n) := by
  unfold upper
  rw [abs_tot (pmul (pscale s (DL.mir top)) (rwn (DL.mir under) n)) (n := (pmul (pscale s (DL.mir top)) (rwn (DL.mir under) n)).length + (pmul top (rwn under n)).length) (by omega),
    abs_tot (pmul top (rwn under n)) (n := (pmul (pscale s (DL.mir top)) (rwn (DL.mir under) n)).length + (pmul top (rwn under n)).length) (by omega)]
  refine tot_congr fun k _ => ?_
  rw [co_pmul, co_pmul, show co (rwn (DL.mir under) n) = fun j => eps j * co (rwn under n) j from funext fun j => by rw [rwn_is (K.mir hs), rwn_is K]; split <;> grind, mu_pscale, mu_mir, sgn_abs hs, rabs_eps]
theorem loB_mir (K : Kn top under xi) {s : Rat} (hs : s = 1 ∨ s = -1) (n : Nat) : loB (pscale s (DL.mir top)) (DL.mir under) (rwn (DL.mir under) n) = loB top under (rwn under n) := by
  unfold loB
  rw [share_mir K hs, upper_mir K hs]
theorem hiB_mir (K : Kn top under xi) {s : Rat} (hs : s = 1 ∨ s = -1) (n : Nat) : hiB (pscale s (DL.mir top)) (DL.mir under) (rwn (DL.mir under) n) = hiB top under (rwn under n) := by
  unfold hiB
  rw [share_mir K hs, upper_mir K hs]
end
/-! ### sizes of worths at 1 -/
theorem sum_fb {D M : Nat} {xs : List Rat} (h : ∀ x ∈ xs, FB D M x) : FB D (xs.length * M) xs.sum := by
  induction xs with
  | nil => exact (FB.zero _).mono (Nat.zero_le _)
  | cons x xs ih =>
    rw [List.sum_cons, show (x :: xs).length * M = M + xs.length * M by show (xs.length + 1) * M = _; rw [Nat.add_mul, Nat.one_mul, Nat.add_comm]]
    exact (h x List.mem_cons_self).add (ih fun y hy => h y (List.mem_cons_of_mem _ hy))
theorem mem_fb {D M : Nat} {xs : List Rat} (h : ∀ k, FB D M (co xs k)) {x : Rat} (hx : x ∈ xs) : FB D M x := by
  obtain ⟨i, hi, rfl⟩ := List.mem_iff_getElem.mp hx
  rw [← co_lt (List.getElem?_eq_getElem hi)]
  exact h i
theorem worth_sm {D M b : Nat} {xs : List Rat} (h : ∀ k, FB D M (co xs k)) (hl : xs.length ≤ 6) (hD : 0 < D) (h1 : D < 2 ^ b) (h2 : 6 * M < 2 ^ b) (i : Nat) : sm b (worth (xs.drop i) 1) := by
  rw [worth_one]
  refine ((sum_fb fun x hx => mem_fb h (List.mem_of_mem_drop hx)).mono (Nat.mul_le_mul_right M (show (xs.drop i).length ≤ 6 by rw [List.length_drop]; omega))).sm hD h1 h2
end DL
/-! DL40: texts of fractions; strings compared. -/
namespace DL
open PySem PySem.Spec PyProof.Rows L2
def repOk (d : PyData) : Prop := d.showable = true ∧ d.hasDict = false ∧ d.depth ≤ 100 ∧ d.shown.length ≤ sizeLine
theorem log_lt {a : Int} {k : Nat} (hk : 0 < k) (h : a.natAbs < 2 ^ k) : a.natAbs.log2 < k := by
  by_cases h0 : a.natAbs = 0
  · rw [h0]
    exact hk
  · exact (Nat.log2_lt h0).mpr h
theorem int_leaf {a : Int} (h : a.natAbs < 2 ^ 100) : PyData.leavesShort 110 (.int a) = true ∧ PyData.weight (.int a) ≤ 101 ∧ PyData.showable (.int a) = true := by
  have hl := log_lt (by decide) h
  refine ⟨?_, ?_, ?_⟩
  · simp only [PyData.leavesShort, decide_eq_true_eq]
    have := int_text_length_le (by decide) hl
    show (Str.ofString (toString a)).length ≤ 110
    rw [PySem.ofString_length]
    omega
  · show (if a == 0 then 0 else a.natAbs.log2 + 1) ≤ 101
    split <;> omega
  · simp only [PyData.showable, decide_eq_true_eq]
    omega
theorem fr_leaf {x : Rat} (h : sm 100 x) : PyData.leavesShort 110 (fr x) = true ∧ PyData.weight (fr x) ≤ 204 ∧ PyData.showable (fr x) = true ∧ PyData.hasDict (fr x) = false ∧ PyData.depth (fr x) = 1 := by
  obtain ⟨a1, a2, a3⟩ := int_leaf h.1
  obtain ⟨b1, b2, b3⟩ := int_leaf (h.d)
  unfold fr
  refine ⟨?_, ?_, ?_, ?_, ?_⟩
  · simp only [PyData.leavesShort, PyData.leavesShortAll] at a1 b1 ⊢
    rw [a1, b1]
    rfl
  · simp only [PyData.weight, PyData.weightAll] at a2 b2 ⊢
    omega
  · simp only [PyData.showable, PyData.showableAll] at a3 b3 ⊢
    rw [a3, b3]
    rfl
  · rfl
  · rfl
theorem rep_of {d : PyData} (h1 : d.leavesShort 110 = true) (h2 : d.weight ≤ 5000) (h3 : d.showable = true) (h4 : d.hasDict = false) (h5 : d.depth ≤ 100) : repOk d := by
  refine ⟨h3, h4, h5, ?_⟩
  have h := PyData.shown_le 110 (by decide) d h1
  have e : (110 + 2) * d.weight ≤ 112 * 5000 := Nat.mul_le_mul (by decide) h2
  have e2 : 112 * 5000 + 110 ≤ sizeLine := by decide
  omega
theorem rep2 {a b : Rat} (ha : sm 100 a) (hb : sm 100 b) : repOk (.list [fr a, fr b]) := by
  obtain ⟨a1, a2, a3, a4, a5⟩ := fr_leaf ha
  obtain ⟨b1, b2, b3, b4, b5⟩ := fr_leaf hb
  refine rep_of ?_ ?_ ?_ ?_ ?_
  · simp only [PyData.leavesShort, PyData.leavesShortAll, a1, b1]; rfl
  · simp only [PyData.weight, PyData.weightAll]; omega
  · simp only [PyData.showable, PyData.showableAll, a3, b3]; rfl
  · simp only [PyData.hasDict, PyData.hasDictAll, a4, b4]; rfl
  · simp only [PyData.depth, PyData.depthAll, a5, b5]; decide
theorem rep4 {a b c e : Rat} (ha : sm 100 a) (hb : sm 100 b) (hc : sm 100 c) (he : sm 100 e) : repOk (.list [.tuple [fr a, fr b], .tuple [fr c, fr e]]) := by
  obtain ⟨a1, a2, a3, a4, a5⟩ := fr_leaf ha
  obtain ⟨b1, b2, b3, b4, b5⟩ := fr_leaf hb
  obtain ⟨c1, c2, c3, c4, c5⟩ := fr_leaf hc
  obtain ⟨e1, e2, e3, e4, e5⟩ := fr_leaf he
  refine rep_of ?_ ?_ ?_ ?_ ?_
  · simp only [PyData.leavesShort, PyData.leavesShortAll, a1, b1, c1, e1]; rfl
  · simp only [PyData.weight, PyData.weightAll]; omega
  · simp only [PyData.showable, PyData.showableAll, a3, b3, c3, e3]; rfl
  · simp only [PyData.hasDict, PyData.hasDictAll, a4, b4, c4, e4]; rfl
  · simp only [PyData.depth, PyData.depthAll, a5, b5, c5, e5]; decide
/-! ### the code points of such texts -/
def okS (x : PySem.Str) : Prop := ∀ c ∈ x.cps.toList, c < 0x110000
theorem okS_of (s : String) : okS (Str.ofString s) := by
  intro c hc
  rw [Str.ofString_eq_toList] at hc
  simp only [List.mem_map] at hc
  obtain ⟨d, _, rfl⟩ := hc
  have := d.valid
  unfold UInt32.isValidChar Nat.isValidChar at this
  show d.val.toNat < 0x110000
  omega
theorem okS_app {x y : PySem.Str} (hx : okS x) (hy : okS y) : okS (x ++ y) := by
  intro c hc
  have e : (x ++ y).cps = x.cps ++ y.cps := rfl
  rw [e, Array.toList_append, List.mem_append] at hc
  exact hc.elim (hx c) (hy c)
theorem okS_from : ∀ (ts : List PySem.Str) (k : Nat) (acc : PySem.Str), okS acc → (∀ t ∈ ts, okS t) → okS (textFrom k acc ts)
  | [], _, acc, h, _ => h
  | t :: ts, k, acc, h, ht => okS_from ts (k + 1) _ (okS_app (okS_app h (okS_of _)) (ht t List.mem_cons_self)) fun u hu => ht u (List.mem_cons_of_mem _ hu)
theorem okS_list {ts : List PySem.Str} (h : ∀ t ∈ ts, okS t) : okS (listText ts) := okS_app (okS_from ts 0 _ (okS_of _) h) (okS_of _)
theorem okS_join : ∀ (ts : List PySem.Str), (∀ t ∈ ts, okS t) → okS (Str.join ", " ts)
  | [], _ => fun c hc => by cases hc
  | [x], h => h x List.mem_cons_self
  | x :: y :: ts, h => okS_app (okS_app (h x List.mem_cons_self) (okS_of _)) (okS_join (y :: ts) fun u hu => h u (List.mem_cons_of_mem _ hu))
theorem okS_tuple {ts : List PySem.Str} (h : ∀ t ∈ ts, okS t) : okS (tupleText ts) := okS_app (okS_app (okS_of _) (okS_join ts h)) (okS_of _)
theorem okS_int (a : Int) : okS (PyData.shown (.int a)) := by
  simp only [PyData.shown]
  exact okS_of _
theorem okS_fr (x : Rat) : okS (PyData.shown (fr x)) := by
  unfold fr
  simp only [PyData.shown, PyData.shownAll]
  refine okS_tuple fun t ht => ?_
  rcases List.mem_cons.mp ht with rfl | ht
  · exact okS_of _
  · rcases List.mem_cons.mp ht with rfl | ht
    · exact okS_of _
    · cases ht
theorem okS_2 (a b : Rat) : okS (PyData.shown (.list [fr a, fr b])) := by
  have e : PyData.shown (.list [fr a, fr b]) = listText [PyData.shown (fr a), PyData.shown (fr b)] := by simp only [PyData.shown, PyData.shownAll]
  rw [e]
  refine okS_list fun t ht => ?_
  simp only [List.mem_cons, List.not_mem_nil, or_false] at ht
  rcases ht with rfl | rfl
  · exact okS_fr a
  · exact okS_fr b
theorem okS_4 (a b c d : Rat) : okS (PyData.shown (.list [.tuple [fr a, fr b], .tuple [fr c, fr d]])) := by
  have e : PyData.shown (.list [.tuple [fr a, fr b], .tuple [fr c, fr d]]) = listText [tupleText [PyData.shown (fr a), PyData.shown (fr b)], tupleText [PyData.shown (fr c), PyData.shown (fr d)]] := by simp only [PyData.shown, PyData.shownAll]
  rw [e]
  refine okS_list fun t ht => ?_
  simp only [List.mem_cons, List.not_mem_nil, or_false] at ht
  rcases ht with rfl | rfl
  · refine okS_tuple fun t ht => ?_
    simp only [List.mem_cons, List.not_mem_nil, or_false] at ht
    rcases ht with rfl | rfl
    · exact okS_fr a
    · exact okS_fr b
  · refine okS_tuple fun t ht => ?_
    simp only [List.mem_cons, List.not_mem_nil, or_false] at ht
    rcases ht with rfl | rfl
    · exact okS_fr c
    · exact okS_fr d
theorem okS_shaped {x : PySem.Str} (h : okS x) : SeqAt.shaped (.str x) = true := by
  show (PyData.canLay0 (.str x) && decide (PyData.depth (.str x) ≤ 64)) = true
  have e : PyData.canLay0 (.str x) = true := by
    simp only [PyData.canLay0]
    show x.cps.all (· < 0x110000) = true
    rw [← Array.all_toList, List.all_eq_true]
    intro c hc
    exact decide_eq_true (h c hc)
  rw [e]
  simp only [PyData.depth]
  rfl
section
variable {xs : List PyData} {Q : Rv → Prop} {x y : PySem.Str}
theorem fRepr_l : fRepr [.l xs] Q = (repOk (.list xs) ∧ Q (.d (.str (PyData.list xs).shown))) := rfl
theorem fRepr_dl : fRepr [.d (.list xs)] Q = (repOk (.list xs) ∧ Q (.d (.str (PyData.list xs).shown))) := rfl
theorem str_eqv : PyData.eqv (.str x) (.str x) = true := by
  simp only [PyData.eqv]
  exact beq_self_eq_true x
theorem fEq_ss (h : okS x) : fEq false (.d (.str x)) (.d (.str x)) Q = Q (.d (.bool true)) := by
  rw [fEq_of rfl rfl (okS_shaped h) (okS_shaped h), str_eqv]
  rfl
theorem fNe_ss (h : okS x) : fEq true (.d (.str x)) (.d (.str x)) Q = Q (.d (.bool false)) := by
  rw [fEq_of rfl rfl (okS_shaped h) (okS_shaped h), str_eqv]
  rfl
end
end DL
/-! DL42: a, b, c = x, y, z. -/
namespace DL
open PySem PySem.Spec PyProof.Rows L2
def ddQ (r : Rv) (k : PyData → Prop) : Prop := match r with
  | .d x => k x
  | _ => False
theorem ddQ_of {r : Rv} {k : PyData → Prop} (h : ddQ r k) : ∃ x, r = .d x ∧ k x := by
  cases r with
  | d x => exact ⟨x, rfl, h⟩
  | _ => exact h.elim
theorem ddQ_d {x : PyData} {k : PyData → Prop} : ddQ (.d x) k = k x := rfl
def dPar3 (i j l : Nat) (t u v : TD) : TSD := fun D s => t s fun r w => ddQ r fun x => u (s.wl w) fun r2 w2 => ddQ r2 fun y => v (s.wl w2) fun r3 w3 => sto r3 (D.nx ⟨((s.sl.set i (some (.d x))).set j (some (.d y))).set l (some r3), w3⟩)
theorem par3_eq {i j l : Nat} {t u v : TD} {D : De} {s : S} : dPar3 i j l t u v D s = t s fun r w => ddQ r fun x => u (s.wl w) fun r2 w2 => ddQ r2 fun y => v (s.wl w2) fun r3 w3 => sto r3 (D.nx ⟨((s.sl.set i (some (.d x))).set j (some (.d y))).set l (some r3), w3⟩) := rfl
theorem ds_par3 {A : Am} {i j l : Nat} {te ue ve : TE} {t u v : TD} (h : DE A te t) (h2 : DE A ue u) (h3 : DE A ve v) : DS A (tPar3 i j l (tCons te (tCons ue (tCons ve tNil)))) (dPar3 i j l t u v) := by
  refine ⟨fun σ H F s D D' R q k => ?_⟩
  refine h.run σ H F s _ _ R q fun a H1 F1 r w1 f1 W1 v1 q1 => ?_
  obtain ⟨x, rfl, q1⟩ := ddQ_of q1
  have R1 := R.fw f1 W1
  refine h2.run σ H1 F1 _ _ _ R1 q1 fun b H2 F2 r2 w2 f2 W2 v2 q2 => ?_
  obtain ⟨y, rfl, q2⟩ := ddQ_of q2
  have R2 := R1.fw f2 W2
  refine h3.run σ H2 F2 _ _ _ R2 q2 fun c H3 F3 r3 w3 f3 W3 v3 q3 => ?_
  obtain ⟨hp3, q3⟩ := sto_of q3
  have R3 := R2.fw f3 W3
  refine ⟨a, b, c, rfl, ?_⟩
  have v1' : ResR A H H3 F3 a (.d x) := v1.later (f2.trans f3) R.pwH
  have v2' : ResR A H1 H3 F3 b (.d y) := v2.later f3 R1.pwH
  have Ra := R3.store (i := i) (v1'.slot R (sto_of (k := True) (r := .d x) trivial).1) fun xs e => by cases e
  have Rb := Ra.store (i := j) (v2'.slot R1 (sto_of (k := True) (r := .d y) trivial).1) fun xs e => by cases e
  refine k.nx _ H3 F3 _ (f1.sub.trans (f2.sub.trans f3.sub)) (Rb.store (i := l) (v3.slot R2 hp3) fun xs e m ys nl el => ?_) q3
  rcases getElem?_set_cases el with ⟨rfl, e1, hi⟩ | ⟨nl2, e1⟩
  · cases e1
  · rcases getElem?_set_cases e1 with ⟨rfl, e2, hi⟩ | ⟨nl3, e2⟩
    · cases e2
    · rw [List.getElem?_set_ne (Ne.symm nl2), List.getElem?_set_ne (Ne.symm nl3)]
      exact v3.new R2 xs e m ys e2
theorem w_par3 {X : Cx} {a b c : Expr} {te ue ve : TE} {t u v : TD} {pos p2 : Pos} {x y z : PySem.Str} (i j l : Nat) {px py pz pt : Pos} {kt k2 : Nat} (hc : X.calm = true) (hN : X.N.Nodup) (ha : XE X a te t) (hb : XE X b ue u) (hd : XE X c ve v) (hi : X.N[i]? = some x := by rfl) (hj : X.N[j]? = some y := by rfl) (hl : X.N[l]? = some z := by rfl)
    (hij : i ≠ j := by decide) (hil : i ≠ l := by decide) (hjl : j ≠ l := by decide)
    (hx : X.env.scope.names.lookup x = some .local := by rfl) (hy : X.env.scope.names.lookup y = some .local := by rfl) (hz : X.env.scope.names.lookup z = some .local := by rfl)
    (hs1 : starEach [a, b, c] X.env = (false, eval a X.env) :: starEach [b, c] X.env := by rfl) (hs2 : starEach [b, c] X.env = (false, eval b X.env) :: starEach [c] X.env := by rfl) (hs3 : starEach [c] X.env = (false, eval c X.env) :: starEach [] X.env := by rfl)
    (hw : swappedStores [.Tuple [.Name x px, .Name y py, .Name z pz] kt pt] (.Tuple [a, b, c] k2 p2) X.env = pure (some [x, y, z]) := by rfl) (hs : swapsWithSole [.Tuple [.Name x px, .Name y py, .Name z pz] kt pt] (.Tuple [a, b, c] k2 p2) pos.line X.env = pure false := by rfl) :
    XS X (.Assign [.Tuple [.Name x px, .Name y py, .Name z pz] kt pt] (.Tuple [a, b, c] k2 p2) pos) (tPar3 i j l (tCons te (tCons ue (tCons ve tNil)))) (dPar3 i j l t u v) :=
  ⟨ps_par3 hc hN hi hj hl hij hil hjl hx hy hz (pa_cons ha.pe (pa_cons hb.pe (pa_cons hd.pe pa_nil hs3) hs2) hs1) hw hs, fun A e => ds_par3 (ha.de A e) (hb.de A e) (hd.de A e)⟩
end DL
/-! DL43: rows that divide rows; greatest common divisors. -/
namespace DL
open PySem PySem.Spec PyProof.Rows L2
def Dvd (g xs : List Rat) : Prop := ∃ q : List Rat, ∀ n, co xs n = mu g (co q) n
theorem Dvd.refl (g : List Rat) : Dvd g g := ⟨[1], fun n => by rw [mu_co_comm]; exact (mu_one_left _ n).symm⟩
theorem Dvd.nil (g : List Rat) : Dvd g [] := ⟨[], fun n => by rw [show co [] = fun _ => (0 : Rat) from funext fun k => co_ge (Nat.zero_le _), mu_zero]⟩
theorem Dvd.trans {g h xs : List Rat} (a : Dvd g h) (b : Dvd h xs) : Dvd g xs := by
  obtain ⟨q, e⟩ := a
  obtain ⟨p, f⟩ := b
  refine ⟨pmul q p, fun n => ?_⟩
  rw [f n, mu_co_comm, show co h = mu g (co q) from funext e, mu_comm, show co (pmul q p) = mu q (co p) from funext fun k => co_pmul q p k, mu_co_comm q]
theorem Dvd.congr {g xs ys : List Rat} (h : Dvd g xs) (e : ∀ n, co ys n = co xs n) : Dvd g ys := by
  obtain ⟨q, f⟩ := h
  exact ⟨q, fun n => by rw [e, f]⟩
theorem Dvd.scale {g xs : List Rat} (h : Dvd g xs) (c : Rat) : Dvd g (pscale c xs) := by
  obtain ⟨q, f⟩ := h
  refine ⟨pscale c q, fun n => ?_⟩
  rw [co_pscale, f, show co (pscale c q) = fun k => c * co q k from funext fun k => co_pscale c q k, mu_smul']
theorem Dvd.unscale {g xs : List Rat} {c : Rat} (hc : c ≠ 0) (h : Dvd g (pscale c xs)) : Dvd g xs := by
  refine (h.scale (1 / c)).congr fun n => ?_
  rw [co_pscale, co_pscale]
  grind
theorem Dvd.left {g xs : List Rat} {c : Rat} (hc : c ≠ 0) (h : Dvd g xs) : Dvd (pscale c g) xs := by
  obtain ⟨q, f⟩ := h
  refine ⟨pscale (1 / c) q, fun n => ?_⟩
  rw [f, show co (pscale (1 / c) q) = fun k => 1 / c * co q k from funext fun k => co_pscale _ q k, mu_smul', mu_pscale]
  grind
/-- from a step of a division -/
theorem Dvd.up {h xs ys Q R : List Rat} (e : ∀ n, co xs n = mu Q (co ys) n + co R n) (a : Dvd h ys) (b : Dvd h R) : Dvd h xs := by
  obtain ⟨q, f⟩ := a
  obtain ⟨p, k⟩ := b
  refine ⟨padd (pmul Q q) p, fun n => ?_⟩
  rw [e n, k n, show co ys = mu h (co q) from funext f, mu_comm, show co (padd (pmul Q q) p) = fun m => mu Q (co q) m + co p m from funext fun m => by rw [co_padd, co_pmul], mu_add]
theorem Dvd.down {h xs ys Q R : List Rat} (e : ∀ n, co xs n = mu Q (co ys) n + co R n) (a : Dvd h xs) (b : Dvd h ys) : Dvd h R := by
  obtain ⟨q, f⟩ := a
  obtain ⟨p, k⟩ := b
  refine ⟨psub q (pmul Q p), fun n => ?_⟩
  have e1 : co R n = co xs n - mu Q (co ys) n := by rw [e n]; grind
  rw [e1, f n, show co ys = mu h (co p) from funext k, mu_comm, show co (psub q (pmul Q p)) = fun m => co q m - mu Q (co p) m from funext fun m => by rw [co_psub, co_pmul], mu_sub]
/-- g is the greatest common divisor -/
structure IsG (xs ys g : List Rat) : Prop where
  l : Dvd g xs
  r : Dvd g ys
  m : ∀ h, Dvd h xs → Dvd h ys → Dvd h g
theorem IsG.base (xs : List Rat) : IsG xs [] xs := ⟨.refl xs, .nil xs, fun _ a _ => a⟩
theorem IsG.step {xs ys Q R g : List Rat} (e : ∀ n, co xs n = mu Q (co ys) n + co R n) (h : IsG ys R g) : IsG xs ys g := ⟨.up e h.l h.r, h.l, fun k a b => h.m k b (.down e a b)⟩
theorem IsG.scaleR {ys R g : List Rat} {c : Rat} (hc : c ≠ 0) (h : IsG ys (pscale c R) g) : IsG ys R g := ⟨h.l, h.r.unscale hc, fun k a b => h.m k a (b.scale c)⟩
theorem IsG.scaleG {xs ys g : List Rat} {c : Rat} (hc : c ≠ 0) (h : IsG xs ys g) : IsG xs ys (pscale c g) := ⟨h.l.left hc, h.r.left hc, fun k a b => (h.m k a b).scale c⟩
theorem Dvd.head {g xs : List Rat} (h : Dvd g xs) (h0 : co xs 0 ≠ 0) : co g 0 ≠ 0 := by
  obtain ⟨q, e⟩ := h
  have e0 := e 0
  intro z
  apply h0
  rw [e0]
  cases g with
  | nil => rfl
  | cons x xs =>
    have : x = 0 := z
    subst this
    show (0 : Rat) * _ + 0 = 0
    grind
theorem Dvd.len {g xs : List Rat} (h : Dvd g xs) (hg : trimd g) (hx : xs ≠ []) (tx : trimd xs) : g.length ≤ xs.length := by
  obtain ⟨q, e⟩ := h
  by_cases hg0 : g = []
  · rw [hg0]; exact Nat.zero_le _
  have e2 : ∀ n, co xs n = mu g (co (trim q)) n := fun n => by rw [e n, show co (trim q) = co q from funext (co_trim q)]
  by_cases hq : trim q = []
  · exfalso
    have := e2 (xs.length - 1)
    rw [hq, show co [] = fun _ => (0 : Rat) from funext fun k => co_ge (Nat.zero_le _), mu_zero] at this
    exact trimd_last hx tx this
  · have lq : 0 < (trim q).length := List.length_pos_iff.mpr hq
    have lg : 0 < g.length := List.length_pos_iff.mpr hg0
    apply Nat.le_of_not_lt
    intro hlt
    have := e2 (g.length - 1 + ((trim q).length - 1))
    rw [mu_last hg0, co_ge (by omega)] at this
    exact (Rat.mul_eq_zero.mp this.symm).elim (trimd_last hg0 hg) (trimd_last hq (trim_trimd q))
/-- only constants divide both -/
theorem Cop.of_dvd {xs ys : List Rat} (h : ∀ g, trimd g → Dvd g xs → Dvd g ys → g.length ≤ 1) : Cop xs ys := fun g q1 q2 hg h1 h2 => h g hg ⟨q1, h1⟩ ⟨q2, h2⟩
theorem Cop.dvd {xs ys : List Rat} (h : Cop xs ys) {g : List Rat} (hg : trimd g) (a : Dvd g xs) (b : Dvd g ys) : g.length ≤ 1 := by
  obtain ⟨q, e⟩ := a
  obtain ⟨p, f⟩ := b
  exact h g q p hg e f
/-- injectivity of a led row -/
theorem mu_inj {g : List Rat} (h0 : co g 0 ≠ 0) {f k : Sq} (e : ∀ n, mu g f n = mu g k n) : ∀ n, f n = k n := by
  have hg : ∃ x xs, g = x :: xs ∧ x ≠ 0 := by
    cases g with
    | nil => exact absurd rfl h0
    | cons x xs => exact ⟨x, xs, rfl, h0⟩
  obtain ⟨x, xs, rfl, hx⟩ := hg
  have go : ∀ n, (∀ m, m < n → f m = k m) → f n = k n := fun n ih => by
    have e1 : x * f n + sh (mu xs f) n = x * k n + sh (mu xs k) n := e n
    have e2 : sh (mu xs f) n = sh (mu xs k) n := sh_local fun i hi => mu_local fun j hj => ih j (by omega)
    rw [e2] at e1
    have e3 : x * (f n - k n) = 0 := by grind
    rcases Rat.mul_eq_zero.mp e3 with h | h
    · exact absurd h hx
    · grind
  intro n
  induction n using Nat.strongRecOn with
  | ind n ih => exact go n ih
/-- after the division by the greatest common divisor nothing is common -/
theorem IsG.cop {xs ys g t u : List Rat} (h : IsG xs ys g) (g0 : co g 0 ≠ 0) (hgn : g ≠ []) (tg : trimd g) (e1 : ∀ n, co xs n = mu g (co t) n) (e2 : ∀ n, co ys n = mu g (co u) n) : Cop t u := by
  refine Cop.of_dvd fun k tk a b => ?_
  have mulD : ∀ {z w : List Rat}, (∀ n, co z n = mu g (co w) n) → Dvd k w → Dvd (pmul g k) z := fun {z w} e d => by
    obtain ⟨q, f⟩ := d
    refine ⟨q, fun n => ?_⟩
    rw [e n, mu_pmul, show co w = mu k (co q) from funext f]
  have d := h.m _ (mulD e1 a) (mulD e2 b)
  by_cases hk : k = []
  · rw [hk]; exact Nat.zero_le _
  have hl := d.len (trim_trimd _) hgn tg
  rw [pmul_row hgn hk tg tk, tab_len] at hl
  have := List.length_pos_iff.mpr hgn
  omega
theorem pmul_dvd {xs ys : List Rat} : Dvd xs (pmul xs ys) := ⟨ys, fun n => co_pmul xs ys n⟩
end DL
/-! DL44: what the lowest form of an answer needs. -/
namespace DL
open PySem PySem.Spec PyProof.Rows L2
structure NmOk (top under : List Rat) (b1 b2 bg f : Nat) : Prop where
  tt : trimd top
  tu : trimd under
  lt : top.length ≤ 60
  lu : under.length ≤ 60
  une : under ≠ []
  one : co under 0 = 1
  r1 : RB b1 (co top)
  r2 : RB b2 (co under)
  he : eOk f top.length under.length b1 b2 = true
  hg : ∀ g, trimd g → co g 0 = 1 → Dvd g top → Dvd g under → RB bg (co g)
  l1 : b1 + 62 * (bg + 1) ≤ 4000
  l2 : b2 + 62 * (bg + 1) ≤ 4000
/-- what its lowest form is -/
structure Nf (top under t u g : List Rat) : Prop where
  tt : trimd t
  tu : trimd u
  tg : trimd g
  g0 : co g 0 = 1
  u0 : co u 0 = 1
  et : ∀ n, co top n = mu g (co t) n
  eu : ∀ n, co under n = mu g (co u) n
  gc : IsG top under g
  nil : top = [] → t = [] ∧ u = [1]
theorem row_one {g : List Rat} (tg : trimd g) (g0 : co g 0 = 1) (hl : g.length ≤ 1) : g = [1] := by
  cases g with
  | nil => exact absurd g0 (by decide +kernel)
  | cons x xs =>
    cases xs with
    | nil =>
      have : x = 1 := g0
      rw [this]
    | cons y ys => exact absurd hl (by show ¬ ys.length + 1 + 1 ≤ 1; omega)
theorem AnsOk.nm {top under : List Rat} (A : AnsOk top under) (h : top ≠ []) : ∃ b1 b2 f, NmOk top under b1 b2 1 f := by
  obtain ⟨hc, b1, b2, f, r1, r2, he, l1, l2⟩ := A.cop h
  refine ⟨b1, b2, f, A.tt, A.tu, A.lt, A.lu, A.une, A.one, r1, r2, he, fun g tg g0 a b => ?_, by omega, by omega⟩
  rw [row_one tg g0 (hc.dvd tg a b)]
  exact rb_one
/-- nothing changes where nothing is common -/
theorem Nf.same {top under t u g : List Rat} (N : Nf top under t u g) (hc : Cop top under) (tt : trimd top) (tu : trimd under) : t = top ∧ u = under := by
  have hg := row_one N.tg N.g0 (hc.dvd N.tg N.gc.l N.gc.r)
  have et := N.et
  have eu := N.eu
  rw [hg] at et eu
  exact ⟨trimd_ext N.tt tt fun n => by rw [et n, mu_one_left], trimd_ext N.tu tu fun n => by rw [eu n, mu_one_left]⟩
/-- a division by a divisor leaves nothing -/
theorem part_exact {xs ys Q R : List Rat} (hd : Dvd ys xs) (hy : trimd ys) (hR : trimd R) (hl : R.length < ys.length) (e : ∀ n, co xs n = mu Q (co ys) n + co R n) : ∀ n, co xs n = mu ys (co Q) n := by
  have d : Dvd ys R := .down e hd (.refl ys)
  have hR0 : R = [] := by
    by_cases h : R = []
    · exact h
    · have := d.len hy h hR
      omega
  intro n
  rw [e n, hR0, co_ge (xs := []) (Nat.zero_le n), mu_co_comm]
  grind
theorem Nf.une {top under t u g : List Rat} (N : Nf top under t u g) : u ≠ [] := fun e => by
  have := N.u0
  rw [e] at this
  exact absurd this (by decide +kernel)
theorem Nf.gne {top under t u g : List Rat} (N : Nf top under t u g) : g ≠ [] := fun e => by
  have := N.g0
  rw [e] at this
  exact absurd this (by decide +kernel)
theorem Nf.cop {top under t u g : List Rat} (N : Nf top under t u g) : Cop t u := N.gc.cop (by rw [N.g0]; decide) N.gne N.tg N.et N.eu
theorem Nf.tne {top under t u g : List Rat} (N : Nf top under t u g) (h : top ≠ []) (ht : trimd top) : t ≠ [] := fun e => by
  have := N.et (top.length - 1)
  rw [e, show co [] = fun _ => (0 : Rat) from funext fun k => co_ge (Nat.zero_le _), mu_zero] at this
  exact trimd_last h ht this
end DL
/-! DL45: calm rows: products of factors, pairs. -/
namespace DL
open PySem PySem.Spec PyProof.Rows L2
def A18 : List Rat := A9 ++ A9.map fun a => -a
def okT (t : Rat) : Prop := t ∈ ([1 / 2, 1 / 3, 2 / 3, 1 / 4, 3 / 4, 1 / 5, 2 / 5, 3 / 5, 4 / 5] : List Rat)
def okC (c : Rat) : Prop := c ∈ ([0, 1 / 2, -1 / 2, 3 / 5, -1, 1 / 4] : List Rat)
/-- a fraction of a size below 1 -/
def okW (v : Int) (x : Rat) : Prop := ∃ a b : Int, x = (a : Rat) / (b : Rat) ∧ 1 ≤ a.natAbs ∧ (a.natAbs : Int) < b ∧ b ≤ v + 1
/-- a goal's number -/
def okGo (x : Rat) : Prop := ∃ a b : Int, x = (a : Rat) / (b : Rat) ∧ (a.natAbs : Int) ≤ b ∧ 1 ≤ b ∧ b ≤ 6
def prw (t c : Rat) : List Rat := [1, -2 * (t * c), t * t]
def okCalm (m : Nat) (u : List Rat) : Prop := (∃ as : List Rat, as.length ≤ m ∧ (∀ a ∈ as, a ∈ A18) ∧ u = prodF as) ∨ (m = 2 ∧ ∃ t c, okT t ∧ okC c ∧ u = prw t c)
def ls (A : List Rat) : Nat → List (List Rat)
  | 0 => [[]]
  | n + 1 => [] :: (ls A n).flatMap fun l => A.map fun a => a :: l
theorem ls_mem {A : List Rat} {n : Nat} {as : List Rat} (hl : as.length ≤ n) (h : ∀ a ∈ as, a ∈ A) : as ∈ ls A n := by
  induction n generalizing as with
  | zero =>
    cases as with
    | nil => exact List.mem_cons_self
    | cons a as => exact absurd hl (by show ¬ as.length + 1 ≤ 0; omega)
  | succ n ih =>
    cases as with
    | nil => exact List.mem_cons_self
    | cons a as =>
      refine List.mem_cons_of_mem _ (List.mem_flatMap.mpr ⟨as, ih (by simpa using hl) fun b hb => h b (List.mem_cons_of_mem _ hb), ?_⟩)
      exact List.mem_map.mpr ⟨a, h a List.mem_cons_self, rfl⟩
def Ts : List Rat := [1 / 2, 1 / 3, 2 / 3, 1 / 4, 3 / 4, 1 / 5, 2 / 5, 3 / 5, 4 / 5]
def Cs : List Rat := [0, 1 / 2, -1 / 2, 3 / 5, -1, 1 / 4]
/-- what the law's product needs of a calm row -/
def calmB (u : List Rat) : Bool := mulB u && (decide (u ≠ []) && (decide (co u (u.length - 1) ≠ 0) && decide (co u 0 = 1)))
theorem calm_f : ((ls A18 2).all fun as => calmB (prodF as)) = true := by decide +kernel
theorem calm_p : (Ts.all fun t => Cs.all fun c => calmB (prw t c)) = true := by decide +kernel
structure CalmB (u : List Rat) : Prop where
  m : mulB u = true
  ne : u ≠ []
  last : co u (u.length - 1) ≠ 0
  one : co u 0 = 1
theorem calmB_of {u : List Rat} (h : calmB u = true) : CalmB u := by
  unfold calmB at h
  simp only [Bool.and_eq_true, decide_eq_true_eq] at h
  exact ⟨h.1, h.2.1, h.2.2.1, h.2.2.2⟩
theorem okCalm.b {m : Nat} {u : List Rat} (hm : m ≤ 2) (h : okCalm m u) : CalmB u := by
  rcases h with ⟨as, h1, h2, rfl⟩ | ⟨_, t, c, ht, hc, rfl⟩
  · exact calmB_of (List.all_eq_true.mp calm_f as (ls_mem (by omega) h2))
  · exact calmB_of (List.all_eq_true.mp (List.all_eq_true.mp calm_p t ht) c hc)
theorem CalmB.t {u : List Rat} (h : CalmB u) : trimd u := trimd_of h.ne h.last
theorem a18_of {z : Rat} (h : okZ (rabs z)) : 1 / z ∈ A18 ∧ sm 8 z ∧ z ≠ 0 := by
  have key : ∀ y, okZ y → 1 / y ∈ A9 ∧ sm 8 y ∧ y ≠ 0 := by
    intro y h
    obtain ⟨u, t, rfl, h1, h2, h3, h4⟩ := h
    have eu : u = 1 ∨ u = 2 ∨ u = 3 := by omega
    have et : t = 0 ∨ t = 1 ∨ t = 2 ∨ t = 3 := by omega
    rcases eu with rfl | rfl | rfl <;> rcases et with rfl | rfl | rfl | rfl <;> refine ⟨?_, ?_, ?_⟩ <;> first | decide +kernel | exact ⟨by decide +kernel, by decide +kernel⟩
  obtain ⟨k1, k2, k3⟩ := key _ h
  rcases rabs_num z with e | e
  · rw [e] at k1 k2 k3
    exact ⟨List.mem_append_left _ k1, k2, k3⟩
  · rw [e] at k1 k2 k3
    refine ⟨List.mem_append_right _ (List.mem_map.mpr ⟨_, k1, by grind⟩), ⟨?_, ?_⟩, by grind⟩
    · have := k2.1
      rwa [Rat.neg_num, Int.natAbs_neg] at this
    · have := k2.2
      rwa [Rat.neg_den] at this
/-- the sign -/
def sgn (x : Rat) : Rat := if 0 < x then 1 else if x < 0 then -1 else 0
/-- the products of numbers and others back to front -/
def dotl (xs ys : List Rat) : List Rat := (List.range ys.length).map fun k => co xs k * co ys (ys.length - 1 - k)
theorem fac18_b {a : Rat} (h : a ∈ A18) : CalmB (fac a) := by
  have : (A18.all fun a => calmB (fac a)) = true := by decide +kernel
  exact calmB_of (List.all_eq_true.mp this a h)
end DL
/-! DL46: the divisors of a product of factors and a pair. -/
namespace DL
open PySem PySem.Spec PyProof.Rows L2
/-- 1, or a pair without real zeros -/
def okP (p : List Rat) : Prop := p = [1] ∨ ∃ t c, t ∈ Ts ∧ c ∈ ([0, 1 / 2, -1 / 2, 3 / 5, 1 / 4] : List Rat) ∧ p = prw t c
theorem pair_facts {t c : Rat} (ht : t ∈ Ts) (hc : c ∈ ([0, 1 / 2, -1 / 2, 3 / 5, 1 / 4] : List Rat)) : 0 < t ∧ t ≤ 4 / 5 ∧ 16 / 25 ≤ 1 - c * c := by
  have h1 : (Ts.all fun t => decide (0 < t) && decide (t ≤ 4 / 5)) = true := by decide +kernel
  have h2 : (([0, 1 / 2, -1 / 2, 3 / 5, 1 / 4] : List Rat).all fun c => decide (16 / 25 ≤ 1 - c * c)) = true := by decide +kernel
  have a := List.all_eq_true.mp h1 t ht
  have b := List.all_eq_true.mp h2 c hc
  rw [Bool.and_eq_true, decide_eq_true_eq, decide_eq_true_eq] at a
  exact ⟨a.1, a.2, of_decide_eq_true b⟩
theorem sq_nn (x : Rat) : 0 ≤ x * x := by
  by_cases h : 0 ≤ x
  · exact Rat.mul_nonneg h h
  · have := Rat.mul_nonneg (show 0 ≤ -x by grind) (show 0 ≤ -x by grind)
    grind
theorem prw_worth (t c z : Rat) : worth (prw t c) z = (1 - t * c * z) * (1 - t * c * z) + (1 - c * c) * ((t * z) * (t * z)) := by
  show ((0 * z + t * t) * z + -2 * (t * c)) * z + 1 = _
  grind
theorem prw_pos {t c : Rat} (ht : t ∈ Ts) (hc : c ∈ ([0, 1 / 2, -1 / 2, 3 / 5, 1 / 4] : List Rat)) (z : Rat) : worth (prw t c) z ≠ 0 := by
  obtain ⟨h1, _, h3⟩ := pair_facts ht hc
  rw [prw_worth]
  intro e
  have a := sq_nn (1 - t * c * z)
  have b := sq_nn (t * z)
  have d := Rat.mul_nonneg (show 0 ≤ 1 - c * c - 16 / 25 by grind) b
  have f : (t * z) * (t * z) = 0 := by grind
  have g : t * z = 0 := (Rat.mul_eq_zero.mp f).elim id id
  have k : t * c * z = 0 := by
    have : t * c * z = c * (t * z) := by grind
    rw [this, g]
    grind
  rw [k, f] at e
  grind
theorem okP.t {p : List Rat} (h : okP p) : trimd p ∧ co p 0 = 1 ∧ p ≠ [] ∧ (p = [1] ∨ p.length = 3) := by
  rcases h with rfl | ⟨t, c, ht, hc, rfl⟩
  · exact ⟨trimd_one, rfl, by simp, .inl rfl⟩
  · obtain ⟨h1, _, _⟩ := pair_facts ht hc
    exact ⟨.inr ⟨t * t, rfl, fun e => (Rat.mul_eq_zero.mp e).elim (by grind) (by grind)⟩, rfl, by simp [prw], .inr rfl⟩
theorem head_mu {g u : List Rat} {z : Rat} (h0 : co g 0 = 1) (e : z = mu g (co u) 0) : z = co u 0 := by
  cases g with
  | nil => exact absurd h0 (by decide +kernel)
  | cons x xs =>
    have hx : x = 1 := h0
    have e2 : z = x * co u 0 + 0 := e
    rw [hx] at e2
    grind
theorem ne_of_head {g : List Rat} (h : co g 0 = 1) : g ≠ [] := fun e => by
  rw [e] at h
  exact absurd h (by decide +kernel)
/-- g u = p: one of both is 1 -/
theorem split_p {p g u : List Rat} (hp : okP p) (tg : trimd g) (tu : trimd u) (g0 : co g 0 = 1) (u0 : co u 0 = 1) (e : ∀ n, co p n = mu g (co u) n) : (g = [1] ∧ u = p) ∨ (g = p ∧ u = [1]) := by
  obtain ⟨tp, p0, pne, hl⟩ := hp.t
  have gne := ne_of_head g0
  have une := ne_of_head u0
  have lg : 0 < g.length := List.length_pos_iff.mpr gne
  have lu : 0 < u.length := List.length_pos_iff.mpr une
  have ep : pmul g u = p := trimd_ext (trim_trimd _) tp fun n => by rw [co_pmul, e n]
  have el : p.length = g.length + u.length - 1 := by rw [← ep, pmul_row gne une tg tu, tab_len]
  by_cases h1 : g.length ≤ 1
  · have := row_one tg g0 h1
    refine .inl ⟨this, trimd_ext tu tp fun n => ?_⟩
    rw [e n, this, mu_one_left]
  by_cases h2 : u.length ≤ 1
  · have := row_one tu u0 h2
    refine .inr ⟨trimd_ext tg tp fun n => ?_, this⟩
    rw [e n, this, mu_co_comm, mu_one_left]
  exfalso
  rcases hl with hl | hl
  · rw [hl] at el
    have : ([1] : List Rat).length = 1 := rfl
    omega
  · rcases hp with rfl | ⟨t, c, ht, hc, rfl⟩
    · exact absurd hl (by decide)
    · have g2 : g.length = 2 := by omega
      obtain ⟨x, y, rfl⟩ : ∃ x y, g = [x, y] := by
        match g, g2 with
        | [x, y], _ => exact ⟨x, y, rfl⟩
      have hx : x = 1 := g0
      have hy : y ≠ 0 := trimd_last (by simp) tg
      have w := worth_mu e (-1 / y)
      have w0 : worth [x, y] (-1 / y) = 0 := by
        show (0 * (-1 / y) + y) * (-1 / y) + x = 0
        rw [hx]
        grind
      rw [w0] at w
      exact prw_pos ht hc (-1 / y) (by rw [w]; grind)
/-- the divisors of a product -/
theorem split {as p g u : List Rat} (hp : okP p) (ha : ∀ a ∈ as, a ≠ 0) (g0 : co g 0 = 1) (u0 : co u 0 = 1) (e : ∀ n, mu (prodF as) (co p) n = mu g (co u) n) :
    ∃ as1 as2 p1 p2 : List Rat, (∀ a ∈ as1, a ∈ as) ∧ (∀ a ∈ as2, a ∈ as) ∧ as1.length + as2.length = as.length ∧ ((p1 = [1] ∧ p2 = p) ∨ (p1 = p ∧ p2 = [1])) ∧ (∀ n, co g n = mu (prodF as1) (co p1) n) ∧ ∀ n, co u n = mu (prodF as2) (co p2) n := by
  induction as using snoc_ind generalizing g u with
  | h0 =>
    have e2 : ∀ n, co p n = mu (trim g) (co (trim u)) n := fun n => by
      rw [show co (trim u) = co u from funext (co_trim u), mu_congr (co_trim g), ← e n]
      exact (mu_one_left _ n).symm
    rcases split_p hp (trim_trimd g) (trim_trimd u) (by rw [co_trim]; exact g0) (by rw [co_trim]; exact u0) e2 with ⟨h1, h2⟩ | ⟨h1, h2⟩
    · exact ⟨[], [], [1], p, (fun a h => by cases h), (fun a h => by cases h), rfl, .inl ⟨rfl, rfl⟩, fun n => by rw [← co_trim g, h1]; exact (mu_one_left _ n).symm, fun n => by rw [← co_trim u, h2]; exact (mu_one_left _ n).symm⟩
    · exact ⟨[], [], p, [1], (fun a h => by cases h), (fun a h => by cases h), rfl, .inr ⟨rfl, rfl⟩, fun n => by rw [← co_trim g, h1]; exact (mu_one_left _ n).symm, fun n => by rw [← co_trim u, h2]; exact (mu_one_left _ n).symm⟩
  | h1 as a ih =>
    have ha0 := ha a (by simp)
    have hb : ∀ b ∈ as, b ≠ 0 := fun b hb => ha b (List.mem_append_left _ hb)
    have e1 : mu (prodF (as ++ [a])) (co p) = mu (fac a) (mu (prodF as) (co p)) := by
      funext n
      rw [prodF_snoc, mu_pmul, mu_comm]
    have w3 : worth (fac a) (1 / a) = 0 := by
      show (0 * (1 / a) + -a) * (1 / a) + 1 = 0
      grind
    have w := worth_mu (xs := pmul (prodF (as ++ [a])) p) (g := g) (q := u) (fun n => by rw [co_pmul]; exact e n) (1 / a)
    rw [worth_pmul, prodF_snoc, worth_pmul, w3] at w
    have w4 : worth g (1 / a) * worth u (1 / a) = 0 := by rw [← w]; grind
    have cancel : ∀ {f k : Sq}, mu (fac a) f = mu (fac a) k → f = k := fun {f k} h => by
      have := congrArg (geo a) h
      rwa [geo_fac, geo_fac] at this
    have sn : ∀ (cs q : List Rat), (fun n => mu (prodF (cs ++ [a])) (co q) n) = mu (fac a) (mu (prodF cs) (co q)) := fun cs q => by
      funext n
      rw [prodF_snoc, mu_pmul, mu_comm]
    rcases Rat.mul_eq_zero.mp w4 with h | h
    · obtain ⟨g', eg⟩ := part_off ha0 h
      have g0' : co g' 0 = 1 := by rw [← g0, ← eg, mu_fac0]
      have e2 : mu (prodF as) (co p) = mu g' (co u) := cancel (by
        rw [← e1, funext e, mu_co_comm, ← eg, mu_comm, mu_co_comm u])
      obtain ⟨as1, as2, p1, p2, i1, i2, i3, i4, i5, i6⟩ := ih hb g0' u0 (fun n => congrFun e2 n)
      refine ⟨as1 ++ [a], as2, p1, p2, fun b h => ?_, fun b h => List.mem_append_left _ (i2 b h), by simp only [List.length_append, List.length_cons, List.length_nil]; omega, i4, fun n => ?_, i6⟩
      · rcases List.mem_append.mp h with h | h
        · exact List.mem_append_left _ (i1 b h)
        · exact List.mem_append_right _ h
      · rw [← eg, show co g' = mu (prodF as1) (co p1) from funext i5]
        exact (congrFun (sn as1 p1) n).symm
    · obtain ⟨u', eu⟩ := part_off ha0 h
      have u0' : co u' 0 = 1 := by rw [← u0, ← eu, mu_fac0]
      have e2 : mu (prodF as) (co p) = mu g (co u') := cancel (by
        rw [← e1, funext e, ← eu, mu_comm])
      obtain ⟨as1, as2, p1, p2, i1, i2, i3, i4, i5, i6⟩ := ih hb g0 u0' (fun n => congrFun e2 n)
      refine ⟨as1, as2 ++ [a], p1, p2, fun b h => List.mem_append_left _ (i1 b h), fun b h => ?_, by simp only [List.length_append, List.length_cons, List.length_nil]; omega, i4, i5, fun n => ?_⟩
      · rcases List.mem_append.mp h with h | h
        · exact List.mem_append_left _ (i2 b h)
        · exact List.mem_append_right _ h
      · rw [← eu, show co u' = mu (prodF as2) (co p2) from funext i6]
        exact (congrFun (sn as2 p2) n).symm
end DL
/-! DL47: the divisors of calm rows, checked one by one. -/
namespace DL
open PySem PySem.Spec PyProof.Rows L2
def A19 : List Rat := [-4 / 5, 1 / 2, 1 / 3, 1 / 4, 1 / 5, 2 / 3, 2 / 5, 3 / 4, 3 / 5, 3 / 7, -(1 / 2), -(1 / 3), -(1 / 4), -(1 / 5), -(2 / 3), -(2 / 5), -(3 / 4), -(3 / 5), -(3 / 7)]
def Ps : List (List Rat) := Ts.flatMap fun t => ([0, 1 / 2, -1 / 2, 3 / 5, 1 / 4] : List Rat).map fun c => prw t c
def nzB (u : List Rat) : Bool := u.all fun c => (c * ((lcd u : Int) : Rat)).den == 1 && decide ((c * ((lcd u : Int) : Rat)).num.natAbs < 2 ^ 11)
def chkW (u : List Rat) : Bool := decide (u.length ≤ 4) && decide (lcd u ≤ 800) && nzB u && decide ((u.map rabs).sum ≤ 6) && bendsOk u.length u
def chkF (a : Rat) : Bool := (ls A19 2).all fun as => chkW (prodF (a :: as))
def chkP (a : Rat) : Bool := Ps.all fun p => chkW (pmul (prodF [a]) p)
theorem chkF_0 : chkW (prodF []) = true := by decide +kernel
theorem chkP_0 : (Ps.all fun p => chkW (pmul (prodF []) p)) = true := by decide +kernel
theorem chkF_1 : chkF (-4 / 5) = true := by decide +kernel
theorem chkF_2 : chkF (1 / 2) = true := by decide +kernel
theorem chkF_3 : chkF (1 / 3) = true := by decide +kernel
theorem chkF_4 : chkF (1 / 4) = true := by decide +kernel
theorem chkF_5 : chkF (1 / 5) = true := by decide +kernel
theorem chkF_6 : chkF (2 / 3) = true := by decide +kernel
theorem chkF_7 : chkF (2 / 5) = true := by decide +kernel
theorem chkF_8 : chkF (3 / 4) = true := by decide +kernel
theorem chkF_9 : chkF (3 / 5) = true := by decide +kernel
theorem chkF_10 : chkF (3 / 7) = true := by decide +kernel
theorem chkF_11 : chkF (-(1 / 2)) = true := by decide +kernel
theorem chkF_12 : chkF (-(1 / 3)) = true := by decide +kernel
theorem chkF_13 : chkF (-(1 / 4)) = true := by decide +kernel
theorem chkF_14 : chkF (-(1 / 5)) = true := by decide +kernel
theorem chkF_15 : chkF (-(2 / 3)) = true := by decide +kernel
theorem chkF_16 : chkF (-(2 / 5)) = true := by decide +kernel
theorem chkF_17 : chkF (-(3 / 4)) = true := by decide +kernel
theorem chkF_18 : chkF (-(3 / 5)) = true := by decide +kernel
theorem chkF_19 : chkF (-(3 / 7)) = true := by decide +kernel
theorem chkP_1 : chkP (-4 / 5) = true := by decide +kernel
theorem chkP_2 : chkP (1 / 2) = true := by decide +kernel
theorem chkP_3 : chkP (1 / 3) = true := by decide +kernel
theorem chkP_4 : chkP (1 / 4) = true := by decide +kernel
theorem chkP_5 : chkP (1 / 5) = true := by decide +kernel
theorem chkP_6 : chkP (2 / 3) = true := by decide +kernel
theorem chkP_7 : chkP (2 / 5) = true := by decide +kernel
theorem chkP_8 : chkP (3 / 4) = true := by decide +kernel
theorem chkP_9 : chkP (3 / 5) = true := by decide +kernel
theorem chkP_10 : chkP (3 / 7) = true := by decide +kernel
theorem chkP_11 : chkP (-(1 / 2)) = true := by decide +kernel
theorem chkP_12 : chkP (-(1 / 3)) = true := by decide +kernel
theorem chkP_13 : chkP (-(1 / 4)) = true := by decide +kernel
theorem chkP_14 : chkP (-(1 / 5)) = true := by decide +kernel
theorem chkP_15 : chkP (-(2 / 3)) = true := by decide +kernel
theorem chkP_16 : chkP (-(2 / 5)) = true := by decide +kernel
theorem chkP_17 : chkP (-(3 / 4)) = true := by decide +kernel
theorem chkP_18 : chkP (-(3 / 5)) = true := by decide +kernel
theorem chkP_19 : chkP (-(3 / 7)) = true := by decide +kernel
theorem a19_ind {P : Rat → Prop} (h1 : P (-4 / 5)) (h2 : P (1 / 2)) (h3 : P (1 / 3)) (h4 : P (1 / 4)) (h5 : P (1 / 5)) (h6 : P (2 / 3)) (h7 : P (2 / 5)) (h8 : P (3 / 4)) (h9 : P (3 / 5)) (h10 : P (3 / 7)) (h11 : P (-(1 / 2))) (h12 : P (-(1 / 3))) (h13 : P (-(1 / 4))) (h14 : P (-(1 / 5))) (h15 : P (-(2 / 3))) (h16 : P (-(2 / 5))) (h17 : P (-(3 / 4))) (h18 : P (-(3 / 5))) (h19 : P (-(3 / 7))) {a : Rat} (h : a ∈ A19) : P a := by
  unfold A19 at h
  simp only [List.mem_cons, List.not_mem_nil, or_false] at h
  rcases h with rfl | rfl | rfl | rfl | rfl | rfl | rfl | rfl | rfl | rfl | rfl | rfl | rfl | rfl | rfl | rfl | rfl | rfl | rfl <;> assumption
structure ChkW (u : List Rat) : Prop where
  l : u.length ≤ 4
  d : lcd u ≤ 800
  n : nzB u = true
  s : (u.map rabs).sum ≤ 6
  b : bendsOk u.length u = true
theorem chkW_of {u : List Rat} (h : chkW u = true) : ChkW u := by
  unfold chkW at h
  simp only [Bool.and_eq_true, decide_eq_true_eq] at h
  obtain ⟨⟨⟨⟨h1, h2⟩, h3⟩, h4⟩, h5⟩ := h
  exact ⟨h1, h2, h3, h4, h5⟩
theorem chkW_f {as : List Rat} (hl : as.length ≤ 3) (h : ∀ a ∈ as, a ∈ A19) : ChkW (prodF as) := by
  cases as with
  | nil => exact chkW_of chkF_0
  | cons a as =>
    have k : chkF a = true := a19_ind (P := fun a => chkF a = true) chkF_1 chkF_2 chkF_3 chkF_4 chkF_5 chkF_6 chkF_7 chkF_8 chkF_9 chkF_10 chkF_11 chkF_12 chkF_13 chkF_14 chkF_15 chkF_16 chkF_17 chkF_18 chkF_19 (h a List.mem_cons_self)
    have hl2 : as.length + 1 ≤ 3 := hl
    exact chkW_of (List.all_eq_true.mp k as (ls_mem (n := 2) (by omega) fun b hb => h b (List.mem_cons_of_mem _ hb)))
theorem ps_mem {p : List Rat} (h : okP p) : p = [1] ∨ p ∈ Ps := by
  rcases h with rfl | ⟨t, c, ht, hc, rfl⟩
  · exact .inl rfl
  · exact .inr (List.mem_flatMap.mpr ⟨t, ht, List.mem_map.mpr ⟨c, hc, rfl⟩⟩)
theorem chkW_p {as p : List Rat} (hl : as.length ≤ 1) (h : ∀ a ∈ as, a ∈ A19) (hp : p ∈ Ps) : ChkW (pmul (prodF as) p) := by
  cases as with
  | nil => exact chkW_of (List.all_eq_true.mp chkP_0 p hp)
  | cons a as =>
    have e : as = [] := List.eq_nil_of_length_eq_zero (by have : as.length + 1 ≤ 1 := hl; omega)
    subst e
    have k : chkP a = true := a19_ind (P := fun a => chkP a = true) chkP_1 chkP_2 chkP_3 chkP_4 chkP_5 chkP_6 chkP_7 chkP_8 chkP_9 chkP_10 chkP_11 chkP_12 chkP_13 chkP_14 chkP_15 chkP_16 chkP_17 chkP_18 chkP_19 (h a List.mem_cons_self)
    exact chkW_of (List.all_eq_true.mp k p hp)
end DL
/-! DL48: 1 over a product of factors and a pair: sizes, tails. -/
namespace DL
open PySem PySem.Spec PyProof.Rows L2
/-! ### a pair -/
def pp (t c : Rat) : Nat → Rat × Rat
  | 0 => (1, 2 * (t * c))
  | n + 1 => ((pp t c n).2, 2 * (t * c) * (pp t c n).2 - t * t * (pp t c n).1)
def pinv (t c : Rat) : Sq := fun n => (pp t c n).1
theorem pinv_succ (t c : Rat) (n : Nat) : pinv t c (n + 1) = (pp t c n).2 := rfl
theorem pinv_rec (t c : Rat) (n : Nat) : pinv t c (n + 2) = 2 * (t * c) * pinv t c (n + 1) - t * t * pinv t c n := rfl
theorem mu_prw (t c : Rat) : mu (prw t c) (pinv t c) = dl := by
  funext n
  match n with
  | 0 => show 1 * 1 + 0 = (1 : Rat); grind
  | 1 => show 1 * (2 * (t * c)) + (-2 * (t * c) * 1 + 0) = (0 : Rat); grind
  | n + 2 =>
    have tail : ∀ m, sh (mu ([] : List Rat) (pinv t c)) m = 0 := fun m => by cases m <;> rfl
    show 1 * pinv t c (n + 2) + (-2 * (t * c) * pinv t c (n + 1) + (t * t * pinv t c n + sh (mu [] (pinv t c)) n)) = 0
    rw [pinv_rec, tail]
    grind
/-- the invariant -/
theorem pinv_inv (t c : Rat) (n : Nat) : pinv t c (n + 1) * pinv t c (n + 1) - 2 * (t * c) * (pinv t c (n + 1) * pinv t c n) + t * t * (pinv t c n * pinv t c n) = (t ^ (n + 1)) * (t ^ (n + 1)) := by
  induction n with
  | zero =>
    show (2 * (t * c)) * (2 * (t * c)) - 2 * (t * c) * ((2 * (t * c)) * 1) + t * t * (1 * 1) = _
    rw [Rat.pow_succ, Rat.pow_zero]
    grind
  | succ n ih =>
    rw [pinv_rec, Rat.pow_succ t (n + 1)]
    have : t ^ (n + 1) * t * (t ^ (n + 1) * t) = t * t * (t ^ (n + 1) * t ^ (n + 1)) := by grind
    rw [this, ← ih]
    grind
theorem pow_nn {t : Rat} (h : 0 ≤ t) (n : Nat) : 0 ≤ t ^ n := Rat.pow_nonneg h
theorem pow_mono' {s t : Rat} (h : 0 ≤ s) (hst : s ≤ t) (n : Nat) : s ^ n ≤ t ^ n := by
  induction n with
  | zero => rw [Rat.pow_zero, Rat.pow_zero]; grind
  | succ n ih =>
    rw [Rat.pow_succ, Rat.pow_succ]
    have a := Rat.mul_nonneg (show 0 ≤ t ^ n - s ^ n by grind) h
    have b := Rat.mul_nonneg (pow_nn (show 0 ≤ t by grind) n) (show 0 ≤ t - s by grind)
    grind
theorem root_le {x y : Rat} (hy : 0 ≤ y) (h : x * x ≤ y * y) : rabs x ≤ y := by
  apply Rat.not_lt.mp
  intro hlt
  have h0 := rabs_nn x
  have a := Rat.mul_pos (show 0 < rabs x - y by grind) (show 0 < rabs x + y by grind)
  have e : rabs x * rabs x = x * x := by
    rcases rabs_num x with e | e <;> rw [e] <;> grind
  grind
theorem pinv_le {t c : Rat} (ht : t ∈ Ts) (hc : c ∈ ([0, 1 / 2, -1 / 2, 3 / 5, 1 / 4] : List Rat)) (n : Nat) : rabs (pinv t c n) ≤ 5 / 4 * (4 / 5) ^ n := by
  obtain ⟨h1, h2, h3⟩ := pair_facts ht hc
  have hi := pinv_inv t c n
  have e : pinv t c (n + 1) * pinv t c (n + 1) - 2 * (t * c) * (pinv t c (n + 1) * pinv t c n) + t * t * (pinv t c n * pinv t c n)
      = (pinv t c (n + 1) - t * c * pinv t c n) * (pinv t c (n + 1) - t * c * pinv t c n) + (1 - c * c) * (t * t * (pinv t c n * pinv t c n)) := by grind
  rw [e] at hi
  have s1 := sq_nn (pinv t c (n + 1) - t * c * pinv t c n)
  have s2 := sq_nn (t * pinv t c n)
  have k := Rat.mul_nonneg (show 0 ≤ 1 - c * c - 16 / 25 by grind) s2
  have hp : t ^ (n + 1) = t ^ n * t := Rat.pow_succ t n
  rw [hp] at hi
  have tt : 0 < t * t := Rat.mul_pos h1 h1
  have key : 16 / 25 * (pinv t c n * pinv t c n) ≤ t ^ n * t ^ n := by
    apply Rat.not_lt.mp
    intro hlt
    have := Rat.mul_pos tt (show 0 < 16 / 25 * (pinv t c n * pinv t c n) - t ^ n * t ^ n by grind)
    grind
  have pm := pow_mono' (show 0 ≤ t by grind) h2 n
  have p0 := pow_nn (show (0 : Rat) ≤ t by grind) n
  have q0 := pow_nn (show (0 : Rat) ≤ 4 / 5 by decide +kernel) n
  refine root_le (by grind) ?_
  have a := Rat.mul_nonneg (show 0 ≤ (4 / 5 : Rat) ^ n - t ^ n by grind) p0
  have b := Rat.mul_nonneg (show 0 ≤ (4 / 5 : Rat) ^ n - t ^ n by grind) q0
  grind
/-! ### with factors -/
def finv (as : List Rat) (P : Sq) : Sq := as.foldl (fun g a => geo a g) P
theorem finv_snoc (as : List Rat) (a : Rat) (P : Sq) : finv (as ++ [a]) P = geo a (finv as P) := by
  unfold finv
  rw [List.foldl_append]
  rfl
theorem mu_finv (as : List Rat) (P : Sq) : mu (prodF as) (finv as P) = P := by
  induction as using snoc_ind with
  | h0 => funext n; exact mu_one_left P n
  | h1 as a ih =>
    funext n
    rw [prodF_snoc, mu_pmul, finv_snoc, fac_geo, ih]
theorem mu_und {as p : List Rat} {P : Sq} (h : mu p P = dl) (n : Nat) : mu (pmul (prodF as) p) (finv as P) n = dl n := by
  rw [mu_pmul, mu_comm, mu_finv, h]
def BW : Nat → Sq
  | 0 => dl
  | j + 1 => geo (4 / 5) (BW j)
theorem BW_nn : ∀ j n, 0 ≤ BW j n
  | 0 => dl_nn
  | j + 1 => geo_nn (by decide +kernel) (BW_nn j)
theorem BW_up (j n : Nat) : BW j n ≤ BW (j + 1) n := by
  cases n with
  | zero => show _ ≤ BW j 0; grind
  | succ n =>
    show _ ≤ 4 / 5 * geo (4 / 5) (BW j) n + BW j (n + 1)
    have := geo_nn (a := 4 / 5) (by decide +kernel) (BW_nn j) n
    grind
theorem BW_le {i j : Nat} (h : i ≤ j) (n : Nat) : BW i n ≤ BW j n := by
  induction h with
  | refl => grind
  | step _ ih =>
    rename_i m _
    have := BW_up m n
    grind
theorem BW1 (n : Nat) : BW 1 n = (4 / 5) ^ n := by
  induction n with
  | zero => rw [Rat.pow_zero]; rfl
  | succ n ih =>
    show 4 / 5 * BW 1 n + dl (n + 1) = _
    rw [ih, Rat.pow_succ]
    show _ + (0 : Rat) = _
    grind
theorem BW2 (n : Nat) : BW 2 n = (((n : Int) : Rat) + 1) * (4 / 5) ^ n := by
  induction n with
  | zero => show dl 0 = _; rw [Rat.pow_zero]; decide +kernel
  | succ n ih =>
    show 4 / 5 * BW 2 n + BW 1 (n + 1) = _
    rw [ih, BW1, Rat.pow_succ, natr_succ]
    grind
theorem BW3 (n : Nat) : BW 3 n * 2 = (((n : Int) : Rat) + 1) * (((n : Int) : Rat) + 2) * (4 / 5) ^ n := by
  induction n with
  | zero => show dl 0 * 2 = _; rw [Rat.pow_zero]; decide +kernel
  | succ n ih =>
    show (4 / 5 * BW 3 n + BW 2 (n + 1)) * 2 = _
    rw [BW2, Rat.pow_succ, natr_succ]
    grind
theorem geo_abs {a r : Rat} {g h : Sq} (ha : rabs a ≤ r) (hgh : ∀ n, rabs (g n) ≤ h n) : ∀ n, rabs (geo a g n) ≤ geo r h n
  | 0 => hgh 0
  | n + 1 => by
    show rabs (a * geo a g n + g (n + 1)) ≤ r * geo r h n + h (n + 1)
    have h1 := geo_abs ha hgh n
    have h2 := rabs_add (a * geo a g n) (g (n + 1))
    rw [rabs_mul] at h2
    have h3 := hgh (n + 1)
    have h4 := Rat.mul_nonneg (rabs_nn a) (show 0 ≤ geo r h n - rabs (geo a g n) by grind)
    have h5 : 0 ≤ geo r h n := by have := rabs_nn (geo a g n); grind
    have h6 := Rat.mul_nonneg (show 0 ≤ r - rabs a by grind) h5
    grind
theorem geo_smul (r k : Rat) (g : Sq) (n : Nat) : geo r (fun m => k * g m) n = k * geo r g n := by
  induction n with
  | zero => rfl
  | succ n ih =>
    show r * geo r (fun m => k * g m) n + k * g (n + 1) = k * (r * geo r g n + g (n + 1))
    rw [ih]
    grind
theorem finv_abs {as : List Rat} {P : Sq} {j : Nat} {k : Rat} (ha : ∀ a ∈ as, rabs a ≤ 4 / 5) (hP : ∀ n, rabs (P n) ≤ k * BW j n) : ∀ n, rabs (finv as P n) ≤ k * BW (j + as.length) n := by
  induction as using snoc_ind with
  | h0 => exact hP
  | h1 as a ih =>
    intro n
    rw [finv_snoc, List.length_append]
    have := geo_abs (ha a (by simp)) (ih fun b hb => ha b (List.mem_append_left _ hb)) n
    rw [geo_smul] at this
    exact this
theorem geo_tot5 {g : Sq} (hg : ∀ n, 0 ≤ g n) (n : Nat) : tot (geo (4 / 5) g) n ≤ 5 * tot g n := by
  induction n with
  | zero => show (0 : Rat) ≤ 5 * 0; grind
  | succ n ih =>
    rw [geo_tot]
    have h2 := tot_le (f := g) hg (Nat.le_succ n)
    grind
theorem BW_tot : ∀ j n, tot (BW j) n ≤ 5 ^ j
  | 0, n => by
    rw [Rat.pow_zero]
    have h1 := tot_le (f := dl) dl_nn (show n ≤ n + 1 by omega)
    have h2 : tot dl (n + 1) = tot dl 1 := tot_beyond (f := dl) (n := 1) (fun k hk => if_neg (by omega)) (by omega)
    have e : tot dl 1 = 1 := by decide +kernel
    rw [h2, e] at h1
    exact h1
  | j + 1, n => by
    show tot (geo (4 / 5) (BW j)) n ≤ _
    rw [Rat.pow_succ]
    have e1 := geo_tot5 (BW_nn j) n
    have e2 := BW_tot j n
    grind
def tinyW : Rat := 36 / 10000000000
theorem BW_tiny {n : Nat} (h : 128 ≤ n) (h2 : n < 132) : BW 3 n ≤ tinyW ∧ BW 2 n ≤ 1 / 10000000000 := by
  have e : n = 128 ∨ n = 129 ∨ n = 130 ∨ n = 131 := by omega
  have key : ∀ m : Nat, (((m : Int) : Rat) + 1) * (((m : Int) : Rat) + 2) * (4 / 5) ^ m ≤ tinyW * 2 → BW 3 m ≤ tinyW := fun m hm => by
    rw [← BW3] at hm
    grind
  rcases e with rfl | rfl | rfl | rfl <;> exact ⟨key _ (by decide +kernel), by rw [BW2]; decide +kernel⟩
/-- whole numbers over powers -/
theorem intX {u : List Rat} {X : Sq} {D : Nat} (u0 : co u 0 = 1) (hu : ∀ k, ∃ z : Int, co u k * ((D : Int) : Rat) = (z : Rat)) (h : ∀ n, mu u X n = dl n) : ∀ n, ∃ z : Int, X n * (((D ^ n : Nat) : Int) : Rat) = (z : Rat) := by
  intro n
  induction n using Nat.strongRecOn with
  | ind n ih =>
    -- the partial sums without the first term
    have part : ∀ i, ∃ z : Int, (pc u (tab (n + 1) X) (i + 1) n - X n) * (((D ^ n : Nat) : Int) : Rat) = (z : Rat) := by
      intro i
      induction i with
      | zero =>
        refine ⟨0, ?_⟩
        have e : pc u (tab (n + 1) X) 1 n = X n := by
          show 0 + (if 0 ≤ n then co u 0 * co (tab (n + 1) X) (n - 0) else 0) = X n
          rw [if_pos (Nat.zero_le n), Nat.sub_zero, tab_co (by omega), u0]
          grind
        rw [e]
        show (X n - X n) * _ = 0
        grind
      | succ i ihi =>
        obtain ⟨z, hz⟩ := ihi
        by_cases hi : i + 1 ≤ n
        · obtain ⟨y, hy⟩ := ih (n - (i + 1)) (by omega)
          obtain ⟨v, hv⟩ := hu (i + 1)
          refine ⟨z + v * y * ((D ^ i : Nat) : Int), ?_⟩
          have e : pc u (tab (n + 1) X) (i + 1 + 1) n = pc u (tab (n + 1) X) (i + 1) n + co u (i + 1) * X (n - (i + 1)) := by
            show pc u (tab (n + 1) X) (i + 1) n + (if i + 1 ≤ n then co u (i + 1) * co (tab (n + 1) X) (n - (i + 1)) else 0) = _
            rw [if_pos hi, tab_co (by omega)]
          have ep : D ^ n = D ^ (n - (i + 1)) * (D ^ i * D) := by
            rw [← Nat.pow_succ, ← Nat.pow_add]
            congr 1
            omega
          rw [e, Rat.intCast_add, Rat.intCast_mul, Rat.intCast_mul, ← hz, ← hv, ← hy, ep]
          simp only [Int.natCast_mul, Rat.intCast_mul]
          grind
        · refine ⟨z, ?_⟩
          rw [← hz, show pc u (tab (n + 1) X) (i + 1 + 1) n = pc u (tab (n + 1) X) (i + 1) n + (if i + 1 ≤ n then co u (i + 1) * co (tab (n + 1) X) (n - (i + 1)) else 0) from rfl, if_neg hi]
          grind
    have e := h n
    rw [mu_cv] at e
    by_cases hl : u.length = 0
    · have : u = [] := List.eq_nil_of_length_eq_zero hl
      rw [this] at u0
      exact absurd u0 (by decide +kernel)
    · obtain ⟨z, hz⟩ := part (u.length - 1)
      rw [show u.length - 1 + 1 = u.length by omega, e] at hz
      have hd : ∃ y : Int, dl n * (((D ^ n : Nat) : Int) : Rat) = (y : Rat) := by
        unfold dl
        split
        · exact ⟨((D ^ n : Nat) : Int), by grind⟩
        · exact ⟨0, by show (0 : Rat) * _ = 0; grind⟩
      obtain ⟨y, hy⟩ := hd
      exact ⟨y - z, by rw [Rat.intCast_sub, ← hy, ← hz]; grind⟩
end DL
/-! DL49: first numbers of any answer; bounds of the worst, sizes by exponents. -/
namespace DL
open PySem PySem.Spec PyProof.Rows L2
theorem mulp {a b i j : Nat} (h : a < 2 ^ i) (k : b < 2 ^ j) : a * b < 2 ^ (i + j) := by
  rw [Nat.pow_add]
  exact Nat.mul_lt_mul'' h k
theorem upp {a i j : Nat} (h : a < 2 ^ i) (hij : i ≤ j) : a < 2 ^ j := Nat.lt_of_lt_of_le h (Nat.pow_le_pow_right (by decide) hij)
theorem addp {a b i : Nat} (h : a < 2 ^ i) (k : b < 2 ^ i) : a + b < 2 ^ (i + 1) := by
  rw [Nat.pow_succ]
  omega
theorem FB.scale {D M E : Nat} {x : Rat} (h : FB D M x) : FB (E * D) (E * M) x := by
  obtain ⟨z, e, hz⟩ := h
  refine ⟨(E : Int) * z, ?_, ?_⟩
  · rw [Int.natCast_mul, Rat.intCast_mul, Rat.intCast_mul, ← e]
    grind
  · rw [Int.natAbs_mul, Int.natAbs_natCast]
    exact Nat.mul_le_mul_left E hz
theorem FB.scaleR {D M E : Nat} {x : Rat} (h : FB D M x) : FB (D * E) (M * E) x := by
  rw [Nat.mul_comm D, Nat.mul_comm M]
  exact h.scale
section
variable {top under : List Rat} {y : Sq}
theorem y0G (hne : under ≠ []) (h1 : co under 0 = 1) (hy : ∀ n, mu under y n = co top n) {xs : List Rat} {n : Nat} (hx : ∀ k, k < n → co xs k = y k) : ∀ j, j ≤ n → rec_ top under xs n j = co top n - (pc under (tab (n + 1) y) (j + 1) n - y n)
  | 0, _ => by
    show co top n = co top n - ((0 + if 0 ≤ n then co under 0 * co (tab (n + 1) y) (n - 0) else 0) - y n)
    rw [if_pos (Nat.zero_le n), Nat.sub_zero, tab_co (Nat.lt_succ_self n), h1]
    grind
  | j + 1, hj => by
    show rec_ top under xs n j - co under (j + 1) * co xs (n - (j + 1)) = co top n - ((pc under (tab (n + 1) y) (j + 1) n + if j + 1 ≤ n then co under (j + 1) * co (tab (n + 1) y) (n - (j + 1)) else 0) - y n)
    rw [y0G hne h1 hy hx j (by omega), if_pos hj, tab_co (by omega), hx _ (by omega)]
    grind
theorem nxtG (hne : under ≠ []) (h1 : co under 0 = 1) (hy : ∀ n, mu under y n = co top n) {xs : List Rat} {n : Nat} (hx : ∀ k, k < n → co xs k = y k) : nxt top under xs n = y n := by
  have hl : 0 < under.length := List.length_pos_iff.mpr hne
  unfold nxt
  rw [y0G hne h1 hy hx _ (Nat.min_le_left _ _)]
  have e1 : mu under y n = pc under (tab (n + 1) y) under.length n := mu_cv under y n
  have e2 : pc under (tab (n + 1) y) under.length n = pc under (tab (n + 1) y) (min n (under.length - 1) + 1) n := pc_stop (by omega) fun i a b c => by omega
  rw [← e2, ← e1, hy n]
  grind
theorem serG (hne : under ≠ []) (h1 : co under 0 = 1) (hy : ∀ n, mu under y n = co top n) : ∀ n k, co (ser top under n) k = if k < n then y k else 0
  | 0, k => by
    rw [if_neg (by omega)]
    exact co_ge (Nat.zero_le _)
  | n + 1, k => by
    have ih := serG hne h1 hy n
    show co (ser top under n ++ [nxt top under (ser top under n) n]) k = _
    rw [nxtG hne h1 hy fun k hk => by rw [ih, if_pos hk]]
    have hl := ser_len top under n
    by_cases h : k < n
    · rw [if_pos (by omega), ← (show co (ser top under n) k = y k by rw [ih, if_pos h])]
      exact co_lt (by rw [List.getElem?_append_left (by omega)]; exact co_some (by omega))
    · by_cases h2 : k = n
      · rw [if_pos (by omega)]
        exact co_lt (by rw [List.getElem?_append_right (by omega), hl, h2, Nat.sub_self]; rfl)
      · rw [if_neg (by omega)]
        exact co_ge (by rw [List.length_append, hl]; show n + 1 ≤ k; omega)
theorem serOkG {N Dt Mt Du Mu Dy My : Nat} (hne : under ≠ []) (h1 : co under 0 = 1) (hy : ∀ n, mu under y n = co top n) (hl : under.length ≤ 4) (ft : ∀ k, FB Dt Mt (co top k)) (fu : ∀ k, FB Du Mu (co under k)) (fy : ∀ k, k < N → FB Dy My (y k))
    (p1 : 0 < Dt) (p2 : 0 < Du) (p3 : 0 < Dy) (b1 : Dt < 2 ^ 400) (b2 : Mt < 2 ^ 400) (b3 : Du < 2 ^ 13) (b4 : Mu < 2 ^ 13) (b5 : Dy < 2 ^ 1400) (b6 : My < 2 ^ 1400) : serOk top under N := by
  have fs : ∀ n, n ≤ N → ∀ k, FB Dy My (co (ser top under n) k) := fun n hn k => by
    rw [serG hne h1 hy]
    split
    · exact fy k (by omega)
    · exact FB.zero' _ _
  have c1 : Du * Dy < 2 ^ 1413 := mulp b3 b5
  have c2 : Mu * My < 2 ^ 1413 := mulp b4 b6
  have p4 : 0 < Du * Dy := Nat.mul_pos p2 p3
  refine ⟨fun i => (fu i).sm p2 (upp b3 (by decide)) (upp b4 (by decide)), fun n hn j => (fs n (by omega) j).sm p3 (upp b5 (by decide)) (upp b6 (by decide)), fun n hn j hj => ?_, fun n hn j hj => ((fu j).mul (fs n (by omega) (n - j))).sm p4 (upp c1 (by decide)) (upp c2 (by decide))⟩
  rw [y0G hne h1 hy (fun k hk => by rw [serG hne h1 hy, if_pos hk]) j hj]
  have ht : ∀ k, FB Dy My (co (tab (n + 1) y) k) := fun k => by
    by_cases h : k < n + 1
    · rw [tab_co h]
      exact fy k (by omega)
    · rw [tab_zero (by omega)]
      exact FB.zero' _ _
  have h2 : FB (Du * Dy) (4 * (Mu * My)) (pc under (tab (n + 1) y) (j + 1) n) := (FB.pc fu ht _ _).mono (Nat.mul_le_mul_right _ hl)
  have h3 : FB (Du * Dy) (Du * My) (y n) := (fy n hn).scale
  have h4 : FB (Dt * (Du * Dy)) (Mt * (Du * Dy)) (co top n) := (ft n).scaleR
  have h5 : FB (Dt * (Du * Dy)) (Dt * (4 * (Mu * My) + Du * My)) (pc under (tab (n + 1) y) (j + 1) n - y n) := (h2.sub h3).scale
  have d1 : Dt * (Du * Dy) < 2 ^ 1813 := mulp b1 c1
  have d2 : Mt * (Du * Dy) < 2 ^ 1813 := mulp b2 c1
  have d3 : 4 * (Mu * My) < 2 ^ 1416 := by
    have := mulp (show 4 < 2 ^ 3 by decide) c2
    exact this
  have d4 : Du * My < 2 ^ 1416 := upp (mulp b3 b6) (by decide)
  have d5 : Dt * (4 * (Mu * My) + Du * My) < 2 ^ (400 + 1417) := mulp b1 (addp d3 d4)
  refine (h4.sub h5).sm (Nat.mul_pos p1 p4) (upp d1 (by decide)) ?_
  exact upp (addp (upp d2 (by decide) : _ < 2 ^ 1817) d5) (by decide)
end
/-! ### bounds of the worst -/
structure Kw (top under : List Rat) (xi : Sq) : Prop where
  inv : ∀ n, mu under xi n = dl n
  ne : under ≠ []
  one : co under 0 = 1
  tu : trimd under
  tt : trimd top
  lu : under.length ≤ 4
  lt : top.length ≤ 6
  ft : ∃ D M : Nat, (0 < D ∧ D < 2 ^ 40 ∧ M < 2 ^ 40) ∧ ∀ k, FB D M (co top k)
  fu : ∃ D M : Nat, (0 < D ∧ D < 2 ^ 13 ∧ M < 2 ^ 13) ∧ ∀ k, FB D M (co under k)
  fx : ∃ D M : Nat, (0 < D ∧ D < 2 ^ 1300 ∧ M < 2 ^ 1300) ∧ ∀ k, k < 128 → FB D M (xi k)
  su : (under.map rabs).sum ≤ 6
  sx : ∀ n, tot (fun k => rabs (xi k)) n ≤ 160
  tn : ∃ S T : Rat, (top.map rabs).sum ≤ S ∧ (∀ k, 128 ≤ k → k < 132 → rabs (xi k) ≤ T) ∧ 0 ≤ T ∧ 24 * T ≤ 1 / 100 ∧ S * T ≤ 1 / 500000
section
variable {top under : List Rat} {xi : Sq}
theorem Kw.hy (K : Kw top under xi) (n : Nat) : mu under xi n = co [1] n := by rw [K.inv, co_one_dl]
theorem Kw.ris (K : Kw top under xi) (n k : Nat) : co (rwn under n) k = if k < n then xi k else 0 := by
  unfold rwn
  rw [co_trim, serG K.ne K.one K.hy]
theorem fb_one (k : Nat) : FB 1 1 (co [1] k) := by
  rw [co_one_dl]
  unfold dl
  split
  · exact FB.one 1
  · exact FB.zero' _ _
theorem Kw.serK (K : Kw top under xi) : serOk [1] under 128 := by
  obtain ⟨Du, Mu, ⟨u1, u2, u3⟩, fu⟩ := K.fu
  obtain ⟨Dx, Mx, ⟨x1, x2, x3⟩, fx⟩ := K.fx
  exact serOkG K.ne K.one K.hy K.lu fb_one fu fx (by decide) u1 x1 (by decide) (by decide) u2 u3 (upp x2 (by decide)) (upp x3 (by decide))
theorem mulOkW {D E M N : Nat} {xs ys : List Rat} (lx : xs.length ≤ 20) (ly : ys.length ≤ 400) (hx : ∀ k, FB D M (co xs k)) (hy : ∀ k, FB E N (co ys k)) (d1 : 0 < D) (d2 : 0 < E) (h1 : D < 2 ^ 1300) (h2 : M < 2 ^ 1300) (h3 : E < 2 ^ 1300) (h4 : N < 2 ^ 1300) : MulOk xs ys := by
  have c1 : D * E < 2 ^ 2600 := mulp h1 h3
  have c2 : M * N < 2 ^ 2600 := mulp h2 h4
  have c3 : 20 * (M * N) < 2 ^ 2605 := mulp (show 20 < 2 ^ 5 by decide) c2
  refine ⟨by omega, ly, fun i => (hx i).sm d1 (upp h1 (by decide)) (upp h2 (by decide)), fun i => (hy i).sm d2 (upp h3 (by decide)) (upp h4 (by decide)), fun i j => ((hx i).mul (hy j)).sm (Nat.mul_pos d1 d2) (upp c1 (by decide)) (upp c2 (by decide)), fun i k => ?_⟩
  exact ((FB.pc hx hy i k).mono (Nat.mul_le_mul_right _ lx)).sm (Nat.mul_pos d1 d2) (upp c1 (by decide)) (upp c3 (by decide))
theorem Kw.bok (K : Kw top under xi) {n : Nat} (hn : n ≤ 128) : BOk top under (rwn under n) := by
  obtain ⟨Dt, Mt, ⟨t1, t2, t3⟩, ft⟩ := K.ft
  obtain ⟨Du, Mu, ⟨u1, u2, u3⟩, fu⟩ := K.fu
  obtain ⟨Dx, Mx, ⟨x1, x2, x3⟩, fx⟩ := K.fx
  have hl := rwn_len under n
  have hx : ∀ k, FB Dx Mx (co (rwn under n) k) := fun k => by
    rw [K.ris]
    split
    · exact fx k (by omega)
    · exact FB.zero' _ _
  have l4 := K.lu
  have l6 := K.lt
  have le := lenE l4 (show (rwn under n).length ≤ 128 by omega)
  have lp := pmul_len' top (rwn under n)
  have fe : ∀ k, FB (Du * Dx) (Du * Dx + 4 * (Mu * Mx)) (co (psub [1] (pmul under (rwn under n))) k) := fun k => by
    rw [co_psub]
    refine FB.sub ?_ ?_
    · rw [co_one_dl]
      unfold dl
      split
      · exact FB.one _
      · exact FB.zero' _ _
    · rw [co_pmul, ← cv_mu]
      exact (FB.pc fu hx _ _).mono (Nat.mul_le_mul_right _ l4)
  have fp : ∀ k, FB (Dt * Dx) (6 * (Mt * Mx)) (co (pmul top (rwn under n)) k) := fun k => by
    rw [co_pmul, ← cv_mu]
    exact (FB.pc ft hx _ _).mono (Nat.mul_le_mul_right _ l6)
  have a1 : Du * Dx < 2 ^ 1313 := mulp u2 x2
  have a2 : 4 * (Mu * Mx) < 2 ^ (3 + 1313) := mulp (by decide) (mulp u3 x3)
  have a3 : Du * Dx + 4 * (Mu * Mx) < 2 ^ 1317 := addp (upp a1 (by decide)) a2
  have a4 : 140 * (Du * Dx + 4 * (Mu * Mx)) < 2 ^ (8 + 1317) := mulp (by decide) a3
  have b1 : Dt * Dx < 2 ^ 1340 := mulp t2 x2
  have b2 : 6 * (Mt * Mx) < 2 ^ (3 + 1340) := mulp (by decide) (mulp t3 x3)
  have b3 : 140 * (6 * (Mt * Mx)) < 2 ^ (8 + 1343) := mulp (by decide) b2
  have p1 : 0 < Du * Dx := Nat.mul_pos u1 x1
  have p2 : 0 < Dt * Dx := Nat.mul_pos t1 x1
  obtain ⟨_, ss⟩ := FB.sumOk (n := 140) (b := 1500) (abs_co_FB fe) (by rw [List.length_map]; omega) (by decide) p1 (upp a1 (by decide)) (upp a4 (by decide))
  obtain ⟨s1, _⟩ := FB.sumOk (n := 140) (b := 4000) (abs_co_FB fe) (by rw [List.length_map]; omega) (by decide) p1 (upp a1 (by decide)) (upp a4 (by decide))
  obtain ⟨_, su⟩ := FB.sumOk (n := 140) (b := 1500) (abs_co_FB fp) (by rw [List.length_map]; omega) (by decide) p2 (upp b1 (by decide)) (upp b3 (by decide))
  obtain ⟨s2, _⟩ := FB.sumOk (n := 140) (b := 4000) (abs_co_FB fp) (by rw [List.length_map]; omega) (by decide) p2 (upp b1 (by decide)) (upp b3 (by decide))
  refine ⟨mulOkW (by omega) (by omega) fu hx u1 x1 (upp u2 (by decide)) (upp u3 (by decide)) x2 x3, mulOkW (by omega) (by omega) ft hx t1 x1 (upp t2 (by decide)) (upp t3 (by decide)) x2 x3, fun i => ?_, s1, s2, ss, su⟩
  rw [co_pmul, ← cv_mu]
  exact ((FB.pc fu hx _ _).mono (Nat.mul_le_mul_right _ l4)).sm p1 (upp a1 (by decide)) (upp a2 (by decide))
theorem Kw.res (K : Kw top under xi) (n k : Nat) : co (psub [1] (pmul under (rwn under n))) k = mu under (fun j => if j < n then 0 else xi j) k := by
  rw [co_psub, co_pmul, co_one_dl, ← K.inv k, ← mu_sub]
  refine mu_local fun j _ => ?_
  rw [K.ris]
  split <;> grind
theorem Kw.near (K : Kw top under xi) : DL.near top under (rwn under 128) 50 := by
  obtain ⟨S, T, hS, hT, T0, h1, h2⟩ := K.tn
  have s0 := share_nn under (rwn under 128)
  have u0 := upper_nn top (rwn under 128)
  -- the share
  have s1 : share under (rwn under 128) ≤ 24 * T := by
    unfold share
    rw [abs_tot _ (lenE K.lu (rwn_len under 128)), tot_congr fun k _ => by rw [K.res]]
    have a1 := tot_mu_le under (fun j => if j < 128 then 0 else xi j) 132
    have a2 : tot (fun k => rabs (if k < 128 then 0 else xi k)) 132 ≤ 4 * T := by
      have h0 : tot (fun k => rabs (if k < 128 then 0 else xi k)) 128 = 0 := by
        rw [tot_congr (g := fun _ => 0) fun k hk => by rw [if_pos hk]; decide +kernel]
        exact tot_beyond (f := fun _ => (0 : Rat)) (n := 0) (fun k _ => rfl) (Nat.zero_le _)
      show tot (fun k => rabs (if k < 128 then 0 else xi k)) 128 + rabs (xi 128) + rabs (xi 129) + rabs (xi 130) + rabs (xi 131) ≤ _
      rw [h0]
      have g1 := hT 128 (by decide) (by decide)
      have g2 := hT 129 (by decide) (by decide)
      have g3 := hT 130 (by decide) (by decide)
      have g4 := hT 131 (by decide) (by decide)
      grind
    have a3 := K.su
    have a4 : 0 ≤ tot (fun k => rabs (if k < 128 then 0 else xi k)) 132 := tot_nn fun k => rabs_nn _
    have a5 := Rat.mul_nonneg (show 0 ≤ 6 - (under.map rabs).sum by grind) a4
    grind
  -- the upper sum
  have u1 : upper top (rwn under 128) ≤ S * 160 := by
    unfold upper
    rw [abs_tot _ (Nat.le_refl _), tot_congr fun k _ => by rw [co_pmul]]
    generalize (pmul top (rwn under 128)).length = N
    have a1 := tot_mu_le top (co (rwn under 128)) N
    have a2 : tot (fun k => rabs (co (rwn under 128) k)) N ≤ tot (fun k => rabs (xi k)) N := tot_mono fun k _ => by
      rw [K.ris]
      split
      · grind
      · exact (show rabs 0 = 0 by decide +kernel) ▸ rabs_nn _
    have a3 := K.sx N
    have a5 := abs_sum_nn top
    have a6 : 0 ≤ tot (fun k => rabs (co (rwn under 128) k)) N := tot_nn fun k => rabs_nn _
    have a7 := Rat.mul_nonneg (show 0 ≤ S - (top.map rabs).sum by grind) a6
    have a8 := Rat.mul_nonneg (show 0 ≤ S by grind) (show 0 ≤ 160 - tot (fun k => rabs (co (rwn under 128) k)) N by grind)
    grind
  refine ⟨by grind, fun h => ?_⟩
  unfold hiB loB at h
  generalize upper top (rwn under 128) = U at *
  generalize share under (rwn under 128) = s at *
  have hs1 : s ≤ 1 / 100 := by grind
  have e1 : 0 < (1 - s) * (1 + s) := Rat.mul_pos (by grind) (by grind)
  have e2 : s * s ≤ 1 / 100 := by
    have := Rat.mul_nonneg s0 (show 0 ≤ 1 / 100 - s by grind)
    grind
  have e3 : 9 / 10 ≤ (1 - s) * (1 + s) := by grind
  rw [gap_eq (by grind) (by grind), Rat.lt_div_iff e1] at h
  have e4 : s * U ≤ 24 * T * (S * 160) := by
    have a1 := Rat.mul_nonneg s0 (show 0 ≤ S * 160 - U by grind)
    have a2 := Rat.mul_nonneg (show 0 ≤ 24 * T - s by grind) (show 0 ≤ S * 160 by grind)
    grind
  have e5 : 24 * T * (S * 160) ≤ 24 * 160 * (1 / 500000) := by grind
  have e6 : (1 : Rat) / (((50 : Int)) : Rat) = 1 / 50 := by decide +kernel
  rw [e6] at h
  grind
theorem Kw.bd (K : Kw top under xi) : BdOk top under 50 := ⟨K.serK, fun _ hn => K.bok hn, K.near⟩
/-- no partial sum of sizes is beyond the upper bound -/
theorem Kw.hi (K : Kw top under xi) {n : Nat} (hs : share under (rwn under n) < 1) (N : Nat) : tot (fun k => rabs (mu top xi k)) N ≤ hiB top under (rwn under n) := by
  have e : ∀ k, mu top xi k = mu (psub [1] (pmul under (rwn under n))) (mu top xi) k + mu top (co (rwn under n)) k := fun k => by
    have a1 : mu (psub [1] (pmul under (rwn under n))) (mu top xi) k = mu top xi k - mu (pmul under (rwn under n)) (mu top xi) k := by
      rw [mu_tab, show co (psub [1] (pmul under (rwn under n))) = fun j => co [1] j - co (pmul under (rwn under n)) j from funext fun j => co_psub _ _ j, mu_sub, ← mu_tab, ← mu_tab, mu_one_left]
    have a2 : mu (pmul under (rwn under n)) (mu top xi) k = mu top (co (rwn under n)) k := by
      rw [mu_pmul, mu_comm, mu_comm under top, show mu under xi = dl from funext K.inv, mu_dl, mu_co_comm]
    rw [a1, a2]
    grind
  have h1 : tot (fun k => rabs (mu top xi k)) N ≤ tot (fun k => rabs (mu (psub [1] (pmul under (rwn under n))) (mu top xi) k) + rabs (mu top (co (rwn under n)) k)) N := tot_mono fun k _ => by
    have := rabs_add (mu (psub [1] (pmul under (rwn under n))) (mu top xi) k) (mu top (co (rwn under n)) k)
    rw [← e k] at this
    exact this
  rw [tot_add] at h1
  have h2 := tot_mu_le (psub [1] (pmul under (rwn under n))) (mu top xi) N
  have h3 : tot (fun k => rabs (mu top (co (rwn under n)) k)) N ≤ upper top (rwn under n) := by
    unfold upper
    rw [abs_tot (pmul top (rwn under n)) (n := (pmul top (rwn under n)).length + N) (by omega), tot_congr (n := (pmul top (rwn under n)).length + N) fun k _ => by rw [co_pmul]]
    exact tot_le (fun k => rabs_nn _) (by omega)
  have h4 : ((psub [1] (pmul under (rwn under n))).map rabs).sum = share under (rwn under n) := rfl
  rw [h4] at h2
  unfold hiB
  rw [le_div_i (by grind)]
  grind
end
end DL
/-! DL50: calm rows' divisors: what they are, 1 over them. -/
namespace DL
open PySem PySem.Spec PyProof.Rows L2
def pj (p : List Rat) : Nat := if p = [1] then 0 else 1
/-- a product of at most j zeros, a pair for one -/
structure Sub (j : Nat) (u : List Rat) (as p : List Rat) : Prop where
  la : as.length ≤ 3
  ma : ∀ a ∈ as, a ∈ A19
  op : okP p
  lp : p = [1] ∨ as.length ≤ 1
  j : as.length + pj p ≤ j
  t : trimd u
  e : ∀ n, co u n = mu (prodF as) (co p) n
theorem a19_facts {a : Rat} (h : a ∈ A19) : a ≠ 0 ∧ rabs a ≤ 4 / 5 := by
  have h1 : (A19.all fun a => decide (a ≠ 0) && decide (rabs a ≤ 4 / 5)) = true := by decide +kernel
  have := List.all_eq_true.mp h1 a h
  rw [Bool.and_eq_true, decide_eq_true_eq, decide_eq_true_eq] at this
  exact this
theorem prodF_trimd (as : List Rat) : trimd (prodF as) := by
  induction as using snoc_ind with
  | h0 => exact trimd_one
  | h1 as a _ => rw [prodF_snoc]; exact trim_trimd _
theorem Sub.chk {j : Nat} {u as p : List Rat} (h : Sub j u as p) : ChkW u := by
  rcases ps_mem h.op with e | e
  · have : u = prodF as := trimd_ext h.t (prodF_trimd as) fun n => by rw [h.e n, e, co_one_dl, mu_dl]
    rw [this]
    exact chkW_f h.la h.ma
  · have : u = pmul (prodF as) p := trimd_ext h.t (trim_trimd _) fun n => by rw [h.e n, co_pmul]
    rw [this]
    rcases h.lp with e2 | e2
    · rw [e2] at e
      exact absurd e (by decide +kernel)
    · exact chkW_p e2 h.ma e
theorem Sub.mono {i j : Nat} {u as p : List Rat} (h : Sub i u as p) (hij : i ≤ j) : Sub j u as p := ⟨h.la, h.ma, h.op, h.lp, by have := h.j; omega, h.t, h.e⟩
theorem five_pow {j : Nat} (h : j ≤ 3) : (5 : Rat) ^ j ≤ 125 := by
  match j, h with
  | 0, _ => decide +kernel
  | 1, _ => decide +kernel
  | 2, _ => decide +kernel
  | 3, _ => decide +kernel
/-- 1 over it -/
theorem Sub.inv {j : Nat} {u as p : List Rat} (h : Sub j u as p) : ∃ X : Sq, (∀ n, mu u X n = dl n) ∧ ∀ n, rabs (X n) ≤ 5 / 4 * BW j n := by
  have ha : ∀ a ∈ as, rabs a ≤ 4 / 5 := fun a k => (a19_facts (h.ma a k)).2
  have go : ∀ (P : Sq) (i : Nat), mu p P = dl → (∀ n, rabs (P n) ≤ 5 / 4 * BW i n) → i + as.length ≤ j → ∃ X : Sq, (∀ n, mu u X n = dl n) ∧ ∀ n, rabs (X n) ≤ 5 / 4 * BW j n := by
    intro P i hP hb hi
    refine ⟨finv as P, fun n => ?_, fun n => ?_⟩
    · rw [mu_congr (ys := pmul (prodF as) p) (fun m => by rw [h.e m, co_pmul]), mu_und hP]
    · have a1 := finv_abs ha hb n
      have a2 := BW_le hi n
      grind
  have hj := h.j
  rcases h.op with e | ⟨t, c, ht, hc, e⟩
  · refine go dl 0 (by rw [e]; funext n; exact mu_one_left dl n) (fun n => ?_) (by unfold pj at hj; rw [if_pos e] at hj; omega)
    rw [rabs_of_nn (dl_nn n)]
    show dl n ≤ 5 / 4 * dl n
    have := dl_nn n
    grind
  · refine go (pinv t c) 1 (by rw [e]; exact mu_prw t c) (fun n => by rw [BW1]; exact pinv_le ht hc n) ?_
    have : p ≠ [1] := fun z => by rw [z] at e; exact absurd (congrArg List.length e) (by show ¬ 1 = 3; decide)
    unfold pj at hj
    rw [if_neg this] at hj
    omega
theorem sub_fu {u : List Rat} (C : ChkW u) : (0 < lcd u ∧ lcd u < 2 ^ 11) ∧ ∀ k, FB (lcd u) (2 ^ 11 - 1) (co u k) := by
  refine ⟨⟨lcd_pos u, by have := C.d; omega⟩, fun k => ?_⟩
  by_cases hk : k < u.length
  · have := List.all_eq_true.mp C.n _ (co_mem hk)
    rw [Bool.and_eq_true, beq_iff_eq, decide_eq_true_eq] at this
    exact ⟨_, int_of_den this.1, by omega⟩
  · rw [co_ge (by omega)]
    exact FB.zero' _ _
theorem sub_rb {u : List Rat} (C : ChkW u) : RB 11 (co u) := by
  obtain ⟨⟨h1, h2⟩, h3⟩ := sub_fu C
  exact FB.rb h3 h1 h2 (by decide)
/-- the numbers of 1 over it, over a power -/
theorem sub_fx {j : Nat} {u as p : List Rat} (h : Sub j u as p) (hj : j ≤ 3) (u0 : co u 0 = 1) {X : Sq} (hX : ∀ n, mu u X n = dl n) (hb : ∀ n, rabs (X n) ≤ 5 / 4 * BW j n) :
    (∀ n, tot (fun k => rabs (X k)) n ≤ 160) ∧ (∀ k, rabs (X k) ≤ 160) ∧ ∀ N k, k ≤ N → FB (lcd u ^ N) (160 * lcd u ^ N) (X k) := by
  have t1 : ∀ n, tot (fun k => rabs (X k)) n ≤ 160 := fun n => by
    have a1 := tot_mono (f := fun k => rabs (X k)) (g := fun k => 5 / 4 * BW j k) (n := n) fun k _ => hb k
    rw [tot_smul] at a1
    have a2 := BW_tot j n
    have a3 := five_pow hj
    grind
  have t2 : ∀ k, rabs (X k) ≤ 160 := fun k => by
    have e1 := t1 (k + 1)
    have e2 := tot_nn (f := fun k => rabs (X k)) (n := k) fun k => rabs_nn _
    have e3 : tot (fun k => rabs (X k)) (k + 1) = tot (fun k => rabs (X k)) k + rabs (X k) := rfl
    grind
  refine ⟨t1, t2, fun N k hk => ?_⟩
  obtain ⟨z, hz⟩ := intX (D := lcd u) u0 (fun k => ⟨_, (numz_co u k).symm⟩) hX k
  have e : X k * (((lcd u ^ N : Nat) : Int) : Rat) = ((z * ((lcd u ^ (N - k) : Nat) : Int) : Int) : Rat) := by
    rw [Rat.intCast_mul, ← hz, show lcd u ^ N = lcd u ^ k * lcd u ^ (N - k) by rw [← Nat.pow_add]; congr 1; omega, Int.natCast_mul, Rat.intCast_mul]
    grind
  refine ⟨_, e, ?_⟩
  have hD : (0 : Rat) ≤ (((lcd u ^ N : Nat) : Int) : Rat) := by
    have : ((0 : Int) : Rat) ≤ (((lcd u ^ N : Nat) : Int) : Rat) := Rat.intCast_le_intCast.mpr (Int.natCast_nonneg _)
    exact this
  have b1 : X k ≤ 160 ∧ -160 ≤ X k := by
    have := t2 k
    unfold rabs at this
    split at this <;> grind
  have p1 := Rat.mul_nonneg (show 0 ≤ X k + 160 by grind) hD
  have p2 := Rat.mul_nonneg (show 0 ≤ 160 - X k by grind) hD
  have e160 : ((160 : Int) : Rat) = 160 := rfl
  have em : ((-160 : Int) : Rat) = -160 := by decide +kernel
  have q1 : ((-160 * ((lcd u ^ N : Nat) : Int) : Int) : Rat) ≤ ((z * ((lcd u ^ (N - k) : Nat) : Int) : Int) : Rat) := by
    rw [← e, Rat.intCast_mul, em]
    grind
  have q2 : ((z * ((lcd u ^ (N - k) : Nat) : Int) : Int) : Rat) ≤ ((160 * ((lcd u ^ N : Nat) : Int) : Int) : Rat) := by
    rw [← e, Rat.intCast_mul, e160]
    grind
  have q3 := Rat.intCast_le_intCast.mp q1
  have q4 := Rat.intCast_le_intCast.mp q2
  omega
/-- the divisors of such a product -/
theorem Sub.split {j : Nat} {w as p g u : List Rat} (h : Sub j w as p) (tg : trimd g) (tu : trimd u) (g0 : co g 0 = 1) (u0 : co u 0 = 1) (e : ∀ n, co w n = mu g (co u) n) :
    (∃ as1 p1, Sub j g as1 p1) ∧ (∃ as2 p2, Sub j u as2 p2) ∧ (g = [1] ∨ ∃ as2 p2, Sub (j - 1) u as2 p2) := by
  obtain ⟨as1, as2, p1, p2, i1, i2, i3, i4, i5, i6⟩ := DL.split h.op (fun a k => (a19_facts (h.ma a k)).1) g0 u0 (fun n => by rw [← h.e n]; exact e n)
  have hj := h.j
  have hp1 : pj [1] = 0 := if_pos rfl
  have la := h.la
  have lp : p = [1] ∨ as1.length ≤ 1 ∧ as2.length ≤ 1 := h.lp.imp id fun _ => by omega
  have m1 : ∀ a ∈ as1, a ∈ A19 := fun a k => h.ma a (i1 a k)
  have m2 : ∀ a ∈ as2, a ∈ A19 := fun a k => h.ma a (i2 a k)
  have one : okP [1] := .inl rfl
  have g1 : as1 = [] → p1 = [1] → g = [1] := fun a b => trimd_ext tg trimd_one fun n => by rw [i5 n, a, b]; exact mu_one_left _ n
  rcases i4 with ⟨rfl, rfl⟩ | ⟨rfl, rfl⟩
  · have S2 : Sub j u as2 p2 := ⟨by omega, m2, h.op, lp.imp id fun k => k.2, by omega, tu, i6⟩
    refine ⟨⟨as1, [1], by omega, m1, one, .inl rfl, by omega, tg, i5⟩, ⟨as2, p2, S2⟩, ?_⟩
    by_cases hz : as1 = []
    · exact .inl (g1 hz rfl)
    · have := List.length_pos_iff.mpr hz
      exact .inr ⟨as2, p2, by omega, m2, h.op, lp.imp id fun k => k.2, by omega, tu, i6⟩
  · have S2 : Sub j u as2 [1] := ⟨by omega, m2, one, .inl rfl, by omega, tu, i6⟩
    refine ⟨⟨as1, p1, by omega, m1, h.op, lp.imp id fun k => k.1, by omega, tg, i5⟩, ⟨as2, [1], S2⟩, ?_⟩
    by_cases hz : as1 = [] ∧ p1 = [1]
    · exact .inl (g1 hz.1 hz.2)
    · refine .inr ⟨as2, [1], by omega, m2, one, .inl rfl, ?_, tu, i6⟩
      by_cases h1 : as1 = []
      · have : pj p1 = 1 := if_neg fun z => hz ⟨h1, z⟩
        omega
      · have := List.length_pos_iff.mpr h1
        omega
end DL
/-! DL51: the drawn answers in lowest terms; their products with goals. -/
namespace DL
open PySem PySem.Spec PyProof.Rows L2
/-- a product of two calm rows -/
theorem und_sub {u1 u2 : List Rat} (h1 : okCalm 1 u1) (h2 : okCalm 2 u2) : ∃ as p, Sub 3 (pmul u1 u2) as p := by
  have a18 : ∀ a ∈ A18, a ∈ A19 := fun a h => by
    have k : (A18.all fun a => A19.contains a) = true := by decide +kernel
    have := List.all_eq_true.mp k a h
    exact List.contains_iff_mem.mp this
  have at_ : ∀ t ∈ Ts, -t ∈ A19 ∧ prw t (-1) = prodF [-t, -t] := fun t h => by
    have k : (Ts.all fun t => A19.contains (-t) && decide (prw t (-1) = prodF [-t, -t])) = true := by decide +kernel
    have := List.all_eq_true.mp k t h
    rw [Bool.and_eq_true, decide_eq_true_eq] at this
    exact ⟨List.contains_iff_mem.mp this.1, this.2⟩
  have app : ∀ (as bs : List Rat) (f : Sq) (n : Nat), mu (prodF (as ++ bs)) f n = mu (prodF as) (mu (prodF bs) f) n := by
    intro as bs
    induction bs using snoc_ind with
    | h0 =>
      intro f n
      rw [List.append_nil]
      refine mu_local fun k _ => (mu_one_left f k).symm
    | h1 bs b ih =>
      intro f n
      rw [← List.append_assoc, prodF_snoc, mu_pmul, ih, prodF_snoc]
      exact mu_local fun k _ => (mu_pmul _ _ f k).symm
  have mk : ∀ (as1 : List Rat), as1.length ≤ 1 → (∀ a ∈ as1, a ∈ A19) → u1 = prodF as1 → ∀ as2 p : List Rat, as2.length ≤ 2 → (∀ a ∈ as2, a ∈ A19) → okP p → (p = [1] ∨ as2 = []) → (∀ n, co u2 n = mu (prodF as2) (co p) n) → ∃ as p, Sub 3 (pmul u1 u2) as p := by
    intro as1 l1 m1 e1 as2 p l2 m2 hp hl e2
    refine ⟨as1 ++ as2, p, by rw [List.length_append]; omega, fun a h => (List.mem_append.mp h).elim (m1 a) (m2 a), hp, ?_, ?_, trim_trimd _, fun n => ?_⟩
    · rcases hl with h | h
      · exact .inl h
      · rw [h, List.append_nil]
        exact .inr l1
    · rw [List.length_append]
      have : pj p ≤ 1 := by unfold pj; split <;> omega
      rcases hl with h | h
      · have : pj p = 0 := if_pos h
        omega
      · rw [h]
        show as1.length + 0 + pj p ≤ 3
        omega
    · rw [co_pmul, e1, app]
      exact mu_local fun k _ => e2 k
  rcases h1 with ⟨as1, l1, m1, rfl⟩ | ⟨h, _⟩
  · have m1' : ∀ a ∈ as1, a ∈ A19 := fun a h => a18 a (m1 a h)
    rcases h2 with ⟨as2, l2, m2, rfl⟩ | ⟨_, t, c, ht, hc, rfl⟩
    · exact mk as1 l1 m1' rfl as2 [1] l2 (fun a h => a18 a (m2 a h)) (.inl rfl) (.inl rfl) fun n => by rw [co_one_dl, mu_dl]
    · obtain ⟨k1, k2⟩ := at_ t ht
      by_cases hm : c = -1
      · subst hm
        refine mk as1 l1 m1' rfl [-t, -t] [1] (by show 2 ≤ 2; decide) (fun a h => ?_) (.inl rfl) (.inl rfl) fun n => by rw [k2, co_one_dl, mu_dl]
        simp only [List.mem_cons, List.not_mem_nil, or_false] at h
        rcases h with rfl | rfl <;> exact k1
      · refine mk as1 l1 m1' rfl [] (prw t c) (by decide) (fun a h => by cases h) (.inr ⟨t, c, ht, ?_, rfl⟩) (.inr rfl) fun n => (mu_one_left _ n).symm
        unfold okC at hc
        simp only [List.mem_cons, List.not_mem_nil, or_false] at hc ⊢
        rcases hc with h | h | h | h | h | h <;> simp_all
  · omega
theorem head_one {g u : List Rat} {z : Rat} (g0 : co g 0 = 1) (hz : z = 1) (e : z = mu g (co u) 0) : co u 0 = 1 := by rw [← head_mu g0 e, hz]
/-- the answer of the law before it is brought to lowest terms -/
theorem first_nm {top w as p : List Rat} (T : Tp top) (S : Sub 3 w as p) (w0 : co w 0 = 1) : NmOk top w 11 11 11 9 := by
  have C := S.chk
  refine ⟨T.tt, S.t, by have := T.lt; omega, by have := C.l; omega, ne_of_head w0, w0, FB.rb T.ft (by decide) (by decide) (by decide), sub_rb C, ?_, fun g tg g0 a b => ?_, by decide, by decide⟩
  · have h1 : ((List.range 7).all fun n => (List.range 5).all fun m => eOk 9 n m 11 11) = true := by decide +kernel
    exact List.all_eq_true.mp (List.all_eq_true.mp h1 top.length (List.mem_range.mpr (by have := T.lt; omega))) w.length (List.mem_range.mpr (by have := C.l; omega))
  · obtain ⟨q, e⟩ := b
    have q0 := head_one g0 w0 (e 0)
    obtain ⟨⟨as1, p1, S1⟩, _⟩ := S.split tg (trim_trimd q) g0 (by rw [co_trim]; exact q0) (fun n => by rw [show co (trim q) = co q from funext (co_trim q)]; exact e n)
    exact sub_rb S1.chk
/-- what is known of it in lowest terms -/
structure An (t u : List Rat) (X : Sq) : Prop where
  kw : Kw t u X
  sub : ∃ as p, Sub 3 u as p
  bnd : ∀ k, rabs (X k) ≤ 160
  fx : ∀ N k, k ≤ N → FB (lcd u ^ N) (160 * lcd u ^ N) (X k)
  lt : t.length ≤ 3
  ft : ∃ b D M : Nat, (0 < D ∧ D < 2 ^ b ∧ M < 2 ^ b) ∧ (∀ k, FB D M (co t k)) ∧ ((b = 12 ∧ u.length ≤ 4) ∨ (b = 40 ∧ u.length ≤ 3))
  cop : Cop t u
  tne : t ≠ []
theorem sum_le3 {xs : List Rat} (T : Tp xs) (hl : xs.length ≤ 3) : (xs.map rabs).sum ≤ 150 := by
  rw [abs_tot xs hl]
  show (0 : Rat) + rabs (co xs 0) + rabs (co xs 1) + rabs (co xs 2) ≤ 150
  have g0 := fb_abs (T.ft 0)
  have g1 := fb_abs (T.ft 1)
  have g2 := fb_abs (T.ft 2)
  grind
theorem FB_mu {D E M N n : Nat} {xs : List Rat} {f : Sq} (hx : ∀ k, FB D M (co xs k)) (hf : ∀ k, k ≤ n → FB E N (f k)) {k : Nat} (hk : k ≤ n) : FB (D * E) (xs.length * (M * N)) (mu xs f k) := by
  rw [mu_cv]
  refine FB.pc hx (fun j => ?_) _ _
  by_cases h : j < k + 1
  · rw [tab_co h]
    exact hf j (by omega)
  · rw [tab_zero (by omega)]
    exact FB.zero' _ _
theorem lcd_pow {u : List Rat} (C : ChkW u) (N : Nat) : 0 < lcd u ^ N ∧ lcd u ^ N ≤ 800 ^ N := ⟨Nat.pow_pos (lcd_pos u), Nat.pow_le_pow_left C.d N⟩
theorem an_of {top w as p t u g : List Rat} (T : Tp top) (hl : top.length ≤ 3) (tne : top ≠ []) (S : Sub 3 w as p) (w0 : co w 0 = 1) (N : Nf top w t u g) : ∃ X, An t u X := by
  obtain ⟨⟨as1, p1, S1⟩, ⟨as2, p2, S2⟩, hg⟩ := S.split N.tg N.tu N.g0 N.u0 N.eu
  have C2 := S2.chk
  have C1 := S1.chk
  have une := N.une
  have tl : t.length ≤ top.length := (show Dvd t top from ⟨g, fun n => by rw [N.et n, mu_co_comm]⟩).len N.tt tne T.tt
  obtain ⟨⟨fu1, fu2⟩, fu3⟩ := sub_fu C2
  have t0 := N.tne tne T.tt
  have p800 : (800 : Nat) ^ 128 < 2 ^ 1240 := by decide
  have q800 : 160 * (800 : Nat) ^ 128 < 2 ^ 1250 := by decide
  have ep := (lcd_pow C2 128).2
  have ep0 := (lcd_pow C2 128).1
  -- the tail and the upper row, by whether anything was common
  by_cases hg1 : g = [1]
  · have hg := hg1
    obtain ⟨X, hX, hb⟩ := S2.inv
    obtain ⟨x1, x2, x3⟩ := sub_fx S2 (by decide) N.u0 hX hb
    have et : t = top := trimd_ext N.tt T.tt fun n => by rw [N.et n, hg, mu_one_left]
    have ft : ∀ k, FB 30 1500 (co t k) := by rw [et]; exact T.ft
    refine ⟨X, ⟨hX, une, N.u0, N.tu, N.tt, C2.l, by omega, ⟨30, 1500, ⟨by decide, by decide, by decide⟩, ft⟩, ⟨lcd u, 2 ^ 11 - 1, ⟨fu1, upp fu2 (by decide), by decide⟩, fu3⟩, ⟨lcd u ^ 128, 160 * lcd u ^ 128, ⟨ep0, by omega, by omega⟩, fun k hk => x3 128 k (by omega)⟩, C2.s, x1, ⟨150, 5 / 4 * tinyW, by rw [et]; exact sum_le3 T hl, fun k h1 h2 => ?_, by decide +kernel, by decide +kernel, by decide +kernel⟩⟩, ⟨as2, p2, S2⟩, x2, x3, by omega, ⟨12, 30, 1500, ⟨by decide, by decide, by decide⟩, ft, .inl ⟨rfl, C2.l⟩⟩, N.cop, t0⟩
    have a1 := hb k
    have a2 := (BW_tiny h1 h2).1
    grind
  · obtain ⟨as3, p3, S3⟩ := hg.resolve_left hg1
    have S3' : Sub 2 u as3 p3 := S3
    obtain ⟨X, hX, hb⟩ := S3'.inv
    obtain ⟨x1, x2, x3⟩ := sub_fx S3' (by decide) N.u0 hX hb
    obtain ⟨Y, hY, hc⟩ := S1.inv
    obtain ⟨y1, y2, y3⟩ := sub_fx S1 (by decide) N.g0 hY hc
    have e : ∀ n, co t n = mu top Y n := mu_inj (g := g) (by rw [N.g0]; decide) fun n => by
      rw [← N.et n, mu_comm, show mu g Y = dl from funext hY, mu_dl]
    have ft : ∀ k, FB (30 * lcd g ^ 2) (3 * (1500 * (160 * lcd g ^ 2))) (co t k) := fun k => by
      by_cases hk : k ≤ 2
      · rw [e k]
        exact (FB_mu (n := 2) T.ft (fun j hj => y3 2 j hj) hk).mono (Nat.mul_le_mul_right _ hl)
      · rw [co_ge (by omega)]
        exact FB.zero' _ _
    have pg := (lcd_pow C1 2).2
    have pg0 := (lcd_pow C1 2).1
    have st : (t.map rabs).sum ≤ 1360 := by
      rw [abs_tot t (show t.length ≤ 3 by omega), tot_congr fun k _ => by rw [e k]]
      have a1 := tot_mu_le top Y 3
      have a2 := tot_mono (f := fun k => rabs (Y k)) (g := fun k => 5 / 4 * BW 3 k) (n := 3) fun k _ => hc k
      rw [tot_smul] at a2
      have a3 : tot (BW 3) 3 ≤ 725 / 100 := by decide +kernel
      have a4 := sum_le3 T hl
      have a5 : 0 ≤ tot (fun k => rabs (Y k)) 3 := tot_nn fun k => rabs_nn _
      have a6 := Rat.mul_nonneg (show 0 ≤ 150 - (top.map rabs).sum by grind) a5
      grind
    have ul : u.length ≤ 3 := by
      have ew : pmul g u = w := trimd_ext (trim_trimd _) S.t fun n => by rw [co_pmul, N.eu n]
      have el : w.length = g.length + u.length - 1 := by rw [← ew, pmul_row N.gne une N.tg N.tu, tab_len]
      have l4 := S.chk.l
      have l2 : 2 ≤ g.length := by
        apply Nat.le_of_not_lt
        intro h
        exact hg1 (row_one N.tg N.g0 (by omega))
      omega
    refine ⟨X, ⟨hX, une, N.u0, N.tu, N.tt, C2.l, by omega, ⟨_, _, ⟨by omega, ?_, ?_⟩, ft⟩, ⟨lcd u, 2 ^ 11 - 1, ⟨fu1, upp fu2 (by decide), by decide⟩, fu3⟩, ⟨lcd u ^ 128, 160 * lcd u ^ 128, ⟨ep0, by omega, by omega⟩, fun k hk => x3 128 k (by omega)⟩, C2.s, x1, ⟨1360, 5 / 4 * (1 / 10000000000), st, fun k h1 h2 => ?_, by decide +kernel, by decide +kernel, by decide +kernel⟩⟩, ⟨as2, p2, S2⟩, x2, x3, by omega, ⟨40, _, _, ⟨by omega, ?_, ?_⟩, ft, .inr ⟨rfl, ul⟩⟩, N.cop, t0⟩
    · omega
    · omega
    · have a1 := hb k
      have a2 := (BW_tiny h1 h2).2
      grind
    · omega
    · omega
end DL
/-! DL52: answers times goals. -/
namespace DL
open PySem PySem.Spec PyProof.Rows L2
theorem eok_all1 : ((List.range 21).all fun n => (List.range 5).all fun m => eOk 9 n m 21 11) = true := by decide +kernel
theorem eok_all2 : ((List.range 21).all fun n => (List.range 4).all fun m => eOk 9 n m 250 11) = true := by decide +kernel
theorem eok_all3 : ((List.range 21).all fun n => eOk 9 n 1 6 1) = true := by decide +kernel
theorem eok_all4 : ((List.range 4).all fun n => (List.range 5).all fun m => eOk 9 n m 40 11) = true := by decide +kernel
theorem eok1 {n m : Nat} (hn : n ≤ 20) (hm : m ≤ 4) : eOk 9 n m 21 11 = true := List.all_eq_true.mp (List.all_eq_true.mp eok_all1 n (List.mem_range.mpr (by omega))) m (List.mem_range.mpr (by omega))
theorem eok2 {n m : Nat} (hn : n ≤ 20) (hm : m ≤ 3) : eOk 9 n m 250 11 = true := List.all_eq_true.mp (List.all_eq_true.mp eok_all2 n (List.mem_range.mpr (by omega))) m (List.mem_range.mpr (by omega))
/-- a goal as an answer -/
structure Go (s : List Rat) : Prop where
  t : trimd s
  l : s.length ≤ 16
  f : ∀ k, FB 60 60 (co s k)
  b : ∀ k, rabs (co s k) ≤ 1
theorem Go.ans {s : List Rat} (G : Go s) : AnsOk s [1] := by
  refine ⟨G.t, trimd_one, by have := G.l; omega, by decide, by simp, rfl, fun _ => rfl, fun _ => ⟨cop_prodF (as := []) (fun a h => by cases h), 6, 1, 9, FB.rb G.f (by decide) (by decide) (by decide), rb_one, List.all_eq_true.mp eok_all3 s.length (List.mem_range.mpr (by have := G.l; omega)), by decide, by decide⟩⟩
section
variable {t u s : List Rat} {X : Sq}
theorem An.ans (A : An t u X) : AnsOk t u := by
  obtain ⟨D, M, ⟨h1, h2, h3⟩, hf⟩ := A.kw.ft
  obtain ⟨as, p, S⟩ := A.sub
  have C := S.chk
  have l3 := A.lt
  exact ⟨A.kw.tt, A.kw.tu, by omega, by have := C.l; omega, A.kw.ne, A.kw.one, fun e => absurd e A.tne, fun _ => ⟨A.cop, 40, 11, 9, FB.rb hf h1 h2 h3, sub_rb C, List.all_eq_true.mp (List.all_eq_true.mp eok_all4 t.length (List.mem_range.mpr (by omega))) u.length (List.mem_range.mpr (by have := C.l; omega)), by decide, by decide⟩⟩
theorem pmul_unit (hu : trimd u) : pmul u [1] = u := trimd_ext (trim_trimd _) hu fun n => by rw [co_pmul, mu_co_comm, mu_one_left]
theorem unit_pmul (hu : trimd u) : pmul [1] u = u := trimd_ext (trim_trimd _) hu fun n => by rw [co_pmul, mu_one_left]
theorem pmul_sym (xs ys : List Rat) : pmul xs ys = pmul ys xs := trimd_ext (trim_trimd _) (trim_trimd _) fun n => by rw [co_pmul, co_pmul, mu_co_comm]
theorem An.mul (A : An t u X) (G : Go s) : MulOk t s ∧ MulOk u [1] ∧ MulOk s t ∧ MulOk [1] u := by
  obtain ⟨D, M, ⟨h1, h2, h3⟩, hf⟩ := A.kw.ft
  obtain ⟨E, N, ⟨k1, k2, k3⟩, hu⟩ := A.kw.fu
  have l3 := A.lt
  have l4 := A.kw.lu
  have lg := G.l
  exact ⟨mulOkW (by omega) (by omega) hf G.f h1 (by decide) (upp h2 (by decide)) (upp h3 (by decide)) (by decide) (by decide),
    mulOkW (by omega) (by decide) hu fb_one k1 (by decide) (upp k2 (by decide)) (upp k3 (by decide)) (by decide) (by decide),
    mulOkW (by omega) (by omega) G.f hf (by decide) h1 (by decide) (by decide) (upp h2 (by decide)) (upp h3 (by decide)),
    mulOkW (by decide) (by omega) fb_one hu (by decide) k1 (by decide) (by decide) (upp k2 (by decide)) (upp k3 (by decide))⟩
/-- the product's row: its size -/
theorem An.prod (A : An t u X) (G : Go s) : ∃ b D M : Nat, (0 < D ∧ D < 2 ^ (b + 6) ∧ M < 2 ^ (b + 9)) ∧ (∀ k, FB D M (co (pmul t s) k)) ∧ ((b = 12 ∧ u.length ≤ 4) ∨ (b = 40 ∧ u.length ≤ 3)) := by
  obtain ⟨b, D, M, ⟨h1, h2, h3⟩, hf, hb⟩ := A.ft
  have l3 := A.lt
  refine ⟨b, D * 60, 6 * (M * 60), ⟨by omega, mulp h2 (by decide), ?_⟩, fun k => ?_, hb⟩
  · have := mulp (show 6 < 2 ^ 3 by decide) (mulp h3 (show 60 < 2 ^ 6 by decide))
    refine upp this (by omega)
  · rw [co_pmul, ← cv_mu]
    exact (FB.pc hf G.f _ _).mono (Nat.mul_le_mul_right _ (by omega))
theorem prod_len (A : An t u X) (G : Go s) : (pmul t s).length ≤ 19 := by
  have := pmul_len' t s
  have := A.lt
  have := G.l
  omega
theorem An.hg (A : An t u X) {g xs : List Rat} (tg : trimd g) (g0 : co g 0 = 1) (b : Dvd g u) : ∃ q as p as2 p2, (∀ n, co u n = mu g (co q) n) ∧ trimd q ∧ co q 0 = 1 ∧ Sub 3 g as p ∧ Sub 3 q as2 p2 := by
  obtain ⟨as, p, S⟩ := A.sub
  obtain ⟨q, e⟩ := b
  have q0 := head_one g0 A.kw.one (e 0)
  have e2 : ∀ n, co u n = mu g (co (trim q)) n := fun n => by rw [show co (trim q) = co q from funext (co_trim q)]; exact e n
  obtain ⟨⟨as1, p1, S1⟩, ⟨as2, p2, S2⟩, _⟩ := S.split tg (trim_trimd q) g0 (by rw [co_trim]; exact q0) e2
  exact ⟨trim q, as1, p1, as2, p2, e2, trim_trimd q, by rw [co_trim]; exact q0, S1, S2⟩
theorem An.nm (A : An t u X) (G : Go s) : ∃ b1, NmOk (pmul t s) (pmul u [1]) b1 11 11 9 := by
  obtain ⟨b, D, M, ⟨h1, h2, h3⟩, hf, hb⟩ := A.prod G
  obtain ⟨as, p, S⟩ := A.sub
  have C := S.chk
  have lp := prod_len A G
  rw [pmul_unit A.kw.tu]
  refine ⟨b + 9, trim_trimd _, A.kw.tu, by omega, by have := C.l; omega, A.kw.ne, A.kw.one, FB.rb hf h1 (upp h2 (by omega)) h3, sub_rb C, ?_, fun g tg g0 _ d => ?_, by rcases hb with ⟨rfl, _⟩ | ⟨rfl, _⟩ <;> decide, by decide⟩
  · rcases hb with ⟨rfl, l⟩ | ⟨rfl, l⟩
    · exact eok1 (by omega) l
    · have h := eok2 (n := (pmul t s).length) (m := u.length) (by omega) l
      -- smaller sizes hold as well
      have k : ((List.range 21).all fun n => (List.range 4).all fun m => eOk 9 n m 49 11) = true := by decide +kernel
      exact List.all_eq_true.mp (List.all_eq_true.mp k (pmul t s).length (List.mem_range.mpr (by omega))) u.length (List.mem_range.mpr (by omega))
  · obtain ⟨q, as, p, _, _, _, _, _, S1, _⟩ := A.hg (xs := t) tg g0 d
    exact sub_rb S1.chk
/-- the product in lowest terms -/
structure Pd (t u s : List Rat) (X : Sq) (x y : List Rat) : Prop where
  ans : AnsOk x y
  sok : ∀ N, N ≤ 20 → serOk x y N
  num : ∀ N k, co (ser x y N) k = if k < N then mu s (mu t X) k else 0
theorem mu_under {xs g y : List Rat} (e : ∀ n, co xs n = mu g (co y) n) (f : Sq) (n : Nat) : mu xs f n = mu g (mu y f) n := by
  rw [mu_congr (ys := pmul g y) (fun m => by rw [co_pmul, e m]), mu_pmul]
theorem An.pd (A : An t u X) (G : Go s) {x y g : List Rat} (N : Nf (pmul t s) (pmul u [1]) x y g) : Pd t u s X x y := by
  have ne1 := N.une
  rw [pmul_unit A.kw.tu] at N
  obtain ⟨b, D, M, ⟨h1, h2, h3⟩, hf, hb⟩ := A.prod G
  have lp := prod_len A G
  obtain ⟨as0, p0, S0⟩ := A.sub
  obtain ⟨⟨as1, p1, S1⟩, ⟨as2, p2, S2⟩, _⟩ := S0.split N.tg N.tu N.g0 N.u0 N.eu
  have C1 := S1.chk
  have C2 := S2.chk
  obtain ⟨Y, hY, hc⟩ := S1.inv
  obtain ⟨y1, y2, y3⟩ := sub_fx S1 (by decide) N.g0 hY hc
  have hD49 : D < 2 ^ 49 ∧ M < 2 ^ 49 := by rcases hb with ⟨rfl, _⟩ | ⟨rfl, _⟩ <;> exact ⟨upp h2 (by decide), upp h3 (by decide)⟩
  have xl : x.length ≤ 19 := by
    by_cases hP : pmul t s = []
    · rw [(N.nil hP).1]
      exact Nat.zero_le _
    · have := (show Dvd x (pmul t s) from ⟨g, fun n => by rw [N.et n, mu_co_comm]⟩).len N.tt hP (trim_trimd _)
      omega
  have e : ∀ n, co x n = mu (pmul t s) Y n := mu_inj (g := g) (by rw [N.g0]; decide) fun n => by
    rw [← N.et n, mu_comm, show mu g Y = dl from funext hY, mu_dl]
  have p19 := lcd_pow C1 19
  have q19 : (800 : Nat) ^ 19 < 2 ^ 184 := by decide
  have fx : ∀ k, FB (D * lcd g ^ 19) (19 * (M * (160 * lcd g ^ 19))) (co x k) := fun k => by
    by_cases hk : k ≤ 19
    · rw [e k]
      exact (FB_mu (n := 19) hf (fun j hj => y3 19 j hj) hk).mono (Nat.mul_le_mul_right _ lp)
    · rw [co_ge (by omega)]
      exact FB.zero' _ _
  have d1 : D * lcd g ^ 19 < 2 ^ 233 := mulp hD49.1 (show lcd g ^ 19 < 2 ^ 184 by omega)
  have d2 : 19 * (M * (160 * lcd g ^ 19)) < 2 ^ (5 + (49 + (8 + 184))) := mulp (by decide) (mulp hD49.2 (mulp (by decide) (show lcd g ^ 19 < 2 ^ 184 by omega)))
  have d0 : 0 < D * lcd g ^ 19 := Nat.mul_pos h1 p19.1
  have hy : ∀ n, mu y (mu s (mu t X)) n = co x n := mu_inj (g := g) (by rw [N.g0]; decide) fun n => by
    rw [← N.et n, ← mu_under N.eu, mu_comm, mu_comm u t, show mu u X = dl from funext A.kw.inv, mu_dl, co_pmul, mu_co_comm]
  have s0 := serG (top := x) ne1 N.u0 hy
  obtain ⟨⟨fu1, fu2⟩, fu3⟩ := sub_fu C2
  refine ⟨?_, fun n hn => ?_, s0⟩
  · refine ⟨N.tt, N.tu, by omega, by have := C2.l; omega, ne1, N.u0, fun hx => ?_, fun hx => ⟨N.cop, ?_⟩⟩
    · have hP : pmul t s = [] := by
        by_cases hP : pmul t s = []
        · exact hP
        · exact absurd hx (N.tne hP (trim_trimd _))
      exact (N.nil hP).2
    · by_cases hg1 : g = [1]
      · have ex : x = pmul t s := trimd_ext N.tt (trim_trimd _) fun n => by rw [N.et n, hg1, mu_one_left]
        have ey : y = u := trimd_ext N.tu A.kw.tu fun n => by rw [N.eu n, hg1, mu_one_left]
        refine ⟨b + 9, 11, 9, by rw [ex]; exact FB.rb hf h1 (upp h2 (by omega)) h3, sub_rb C2, ?_, by rcases hb with ⟨rfl, _⟩ | ⟨rfl, _⟩ <;> decide, by decide⟩
        rw [ey]
        rcases hb with ⟨rfl, l⟩ | ⟨rfl, l⟩
        · exact eok1 (by omega) l
        · have k : ((List.range 21).all fun n => (List.range 4).all fun m => eOk 9 n m 49 11) = true := by decide +kernel
          exact List.all_eq_true.mp (List.all_eq_true.mp k x.length (List.mem_range.mpr (by omega))) u.length (List.mem_range.mpr (by omega))
      · have yl : y.length ≤ 3 := by
          have ew : pmul g y = u := trimd_ext (trim_trimd _) A.kw.tu fun n => by rw [co_pmul, N.eu n]
          have el : u.length = g.length + y.length - 1 := by rw [← ew, pmul_row N.gne ne1 N.tg N.tu, tab_len]
          have l4 := A.kw.lu
          have l2 : 2 ≤ g.length := by
            apply Nat.le_of_not_lt
            intro h
            exact hg1 (row_one N.tg N.g0 (by omega))
          omega
        exact ⟨250, 11, 9, FB.rb fx d0 (upp d1 (by decide)) (upp d2 (by decide)), sub_rb C2, eok2 (by omega) yl, by decide, by decide⟩
  · have p20 := lcd_pow S0.chk 20
    have q20 : (800 : Nat) ^ 20 < 2 ^ 194 := by decide
    refine serOkG (N := n) (Dy := D * lcd u ^ 20) (My := 19 * (M * (160 * lcd u ^ 20))) ne1 N.u0 hy C2.l fx fu3 (fun k hk => ?_) d0 fu1 (Nat.mul_pos h1 p20.1) (upp d1 (by decide)) (upp d2 (by decide)) (upp fu2 (by decide)) (by decide) ?_ ?_
    · have e3 : mu s (mu t X) k = mu (pmul t s) X k := by rw [mu_comm, mu_pmul]
      rw [e3]
      exact (FB_mu (n := 20) hf (fun j hj => A.fx 20 j hj) (by omega)).mono (Nat.mul_le_mul_right _ lp)
    · exact upp (mulp hD49.1 (show lcd u ^ 20 < 2 ^ 194 by omega)) (by decide)
    · exact upp (mulp (show 19 < 2 ^ 5 by decide) (mulp hD49.2 (mulp (show 160 < 2 ^ 8 by decide) (show lcd u ^ 20 < 2 ^ 194 by omega)))) (by decide)
/-- the answer's own numbers -/
theorem An.sok (A : An t u X) {N : Nat} (hN : N ≤ 20) : serOk t u N ∧ ∀ k, co (DL.ser t u N) k = if k < N then mu t X k else 0 := by
  obtain ⟨D, M, ⟨h1, h2, h3⟩, hf⟩ := A.kw.ft
  obtain ⟨E, F, ⟨k1, k2, k3⟩, hu⟩ := A.kw.fu
  obtain ⟨as, p, S⟩ := A.sub
  have hy : ∀ n, mu u (mu t X) n = co t n := fun n => by rw [mu_comm, show mu u X = dl from funext A.kw.inv, mu_dl]
  have p20 := lcd_pow S.chk 20
  have q20 : (800 : Nat) ^ 20 < 2 ^ 194 := by decide
  have l3 := A.lt
  refine ⟨serOkG (Dy := D * lcd u ^ 20) (My := 3 * (M * (160 * lcd u ^ 20))) A.kw.ne A.kw.one hy A.kw.lu hf hu (fun k hk => (FB_mu (n := 20) hf (fun j hj => A.fx 20 j hj) (by omega)).mono (Nat.mul_le_mul_right _ l3)) h1 k1 (Nat.mul_pos h1 p20.1) (upp h2 (by decide)) (upp h3 (by decide)) k2 k3 ?_ ?_, serG A.kw.ne A.kw.one hy N⟩
  · exact upp (mulp h2 (show lcd u ^ 20 < 2 ^ 194 by omega)) (by decide)
  · exact upp (mulp (show 3 < 2 ^ 2 by decide) (mulp h3 (mulp (show 160 < 2 ^ 8 by decide) (show lcd u ^ 20 < 2 ^ 194 by omega)))) (by decide)
/-- sizes of the answer's numbers -/
theorem An.fb (A : An t u X) : ∃ D M : Nat, (0 < D ∧ D < 2 ^ 240 ∧ M < 2 ^ 246) ∧ ∀ k, k ≤ 20 → FB D M (mu t X k) := by
  obtain ⟨D, M, ⟨h1, h2, h3⟩, hf⟩ := A.kw.ft
  obtain ⟨as, p, S⟩ := A.sub
  have p20 := lcd_pow S.chk 20
  have q20 : (800 : Nat) ^ 20 < 2 ^ 194 := by decide
  have l3 := A.lt
  refine ⟨D * lcd u ^ 20, 3 * (M * (160 * lcd u ^ 20)), ⟨Nat.mul_pos h1 p20.1, upp (mulp h2 (show lcd u ^ 20 < 2 ^ 194 by omega)) (by decide), upp (mulp (show 3 < 2 ^ 2 by decide) (mulp h3 (mulp (show 160 < 2 ^ 8 by decide) (show lcd u ^ 20 < 2 ^ 194 by omega)))) (by decide)⟩, fun k hk => ?_⟩
  exact (FB_mu (n := 20) hf (fun j hj => A.fx 20 j hj) hk).mono (Nat.mul_le_mul_right _ l3)
end
end DL
/-! DL53: goals, sums of products, texts. -/
namespace DL
open PySem PySem.Spec PyProof.Rows L2
/-- a goal's numbers -/
structure GoL (s : List Rat) : Prop where
  l : s.length ≤ 16
  f : ∀ k, FB 60 60 (co s k)
  b : ∀ k, rabs (co s k) ≤ 1
theorem GoL.go {s : List Rat} (h : GoL s) : Go (trim s) := by
  have := trim_length s
  exact ⟨trim_trimd s, by have := h.l; omega, fun k => by rw [co_trim]; exact h.f k, fun k => by rw [co_trim]; exact h.b k⟩
theorem GoL.of {s : List Rat} (hl : s.length ≤ 16) (h : ∀ x ∈ s, FB 60 60 x ∧ rabs x ≤ 1) : GoL s := by
  have key : ∀ k, FB 60 60 (co s k) ∧ rabs (co s k) ≤ 1 := fun k => by
    by_cases hk : k < s.length
    · exact h _ (co_mem hk)
    · rw [co_ge (by omega)]
      exact ⟨FB.zero' _ _, by decide +kernel⟩
  exact ⟨hl, fun k => (key k).1, fun k => (key k).2⟩
theorem sgn_go (x : Rat) : FB 60 60 (sgn x) ∧ rabs (sgn x) ≤ 1 := by
  have one : FB 60 60 (1 : Rat) := FB.one 60
  unfold sgn
  split
  · exact ⟨one, by decide +kernel⟩
  · split
    · exact ⟨one.neg, by decide +kernel⟩
    · exact ⟨FB.zero' _ _, by decide +kernel⟩
theorem okGo_go {x : Rat} (h : okGo x) : FB 60 60 x ∧ rabs x ≤ 1 := by
  obtain ⟨a, b, rfl, h1, h2, h3⟩ := h
  have hb : (0 : Rat) < (b : Rat) := by
    have : ((0 : Int) : Rat) < (b : Rat) := Rat.intCast_lt_intCast.mpr (by omega)
    exact this
  have hb0 : (b : Rat) ≠ 0 := by grind
  constructor
  · have mk : ∀ c : Int, b * c = 60 → 0 ≤ c → FB 60 60 ((a : Rat) / (b : Rat)) := fun c e hc => by
      refine ⟨a * c, ?_, ?_⟩
      · rw [show ((60 : Nat) : Int) = b * c from e.symm, Rat.intCast_mul, Rat.intCast_mul]
        grind
      · rw [Int.natAbs_mul]
        have e2 : (a.natAbs * c.natAbs : Nat) ≤ b.natAbs * c.natAbs := Nat.mul_le_mul_right _ (by omega)
        rw [← Int.natAbs_mul b c, e] at e2
        exact e2
    have : b = 1 ∨ b = 2 ∨ b = 3 ∨ b = 4 ∨ b = 5 ∨ b = 6 := by omega
    rcases this with rfl | rfl | rfl | rfl | rfl | rfl
    · exact mk 60 (by decide) (by decide)
    · exact mk 30 (by decide) (by decide)
    · exact mk 20 (by decide) (by decide)
    · exact mk 15 (by decide) (by decide)
    · exact mk 12 (by decide) (by decide)
    · exact mk 10 (by decide) (by decide)
  · have u1 : (a : Rat) ≤ (b : Rat) := Rat.intCast_le_intCast.mpr (by omega)
    have u2 : ((-b : Int) : Rat) ≤ (a : Rat) := Rat.intCast_le_intCast.mpr (by omega)
    rw [Rat.intCast_neg] at u2
    have v1 : (a : Rat) / (b : Rat) ≤ 1 := by rw [div_le_i hb]; grind
    have v2 : -1 ≤ (a : Rat) / (b : Rat) := by rw [le_div_i hb]; grind
    unfold rabs
    split <;> grind
theorem mu_le_tot {g : List Rat} (h : ∀ i, rabs (co g i) ≤ 1) (f : Sq) (n : Nat) : rabs (mu g f n) ≤ tot (fun k => rabs (f k)) (n + 1) := by
  have go : ∀ (g : List Rat), (∀ i, rabs (co g i) ≤ 1) → ∀ n, rabs (mu g f n) ≤ tot (fun k => rabs (f k)) (n + 1) := by
    intro g
    induction g with
    | nil =>
      intro _ n
      show rabs 0 ≤ _
      have := tot_nn (f := fun k => rabs (f k)) (n := n + 1) fun k => rabs_nn _
      have e : rabs 0 = 0 := by decide +kernel
      grind
    | cons x xs ih =>
      intro h n
      have hx : rabs x ≤ 1 := h 0
      have k1 := rabs_mul x (f n)
      have k2 := Rat.mul_nonneg (show 0 ≤ 1 - rabs x by grind) (rabs_nn (f n))
      have k3 := rabs_add (x * f n) (sh (mu xs f) n)
      show rabs (x * f n + sh (mu xs f) n) ≤ tot (fun k => rabs (f k)) n + rabs (f n)
      have k4 : rabs (sh (mu xs f) n) ≤ tot (fun k => rabs (f k)) n := by
        cases n with
        | zero => exact (by decide +kernel : rabs 0 ≤ 0)
        | succ n => exact ih (fun i => h (i + 1)) n
      grind
  exact go g h n
theorem pc_sum (xs ys : List Rat) (n : Nat) : ∀ i, i ≤ n + 1 → ((List.range i).map fun k => co xs k * co ys (n - k)).sum = pc xs ys i n
  | 0, _ => rfl
  | i + 1, h => by
    rw [List.range_succ, List.map_append, List.sum_append, pc_sum xs ys n i (by omega)]
    show pc xs ys i n + (co xs i * co ys (n - i) + 0) = pc xs ys i n + (if i ≤ n then co xs i * co ys (n - i) else 0)
    rw [if_pos (by omega)]
    grind
theorem dot_sum {xs ys : List Rat} {a : Sq} {m : Nat} (hm : 1 ≤ m) (hy : ys.length = m) (hx : ∀ k, k < m → co xs k = a k) : (dotl xs ys).sum = mu ys a (m - 1) := by
  unfold dotl
  rw [hy, mu_tab, show m - 1 + 1 = m by omega, mu_cv, tab_len]
  have e1 : ((List.range m).map fun k => co xs k * co ys (m - 1 - k)) = (List.range m).map fun k => co (tab m a) k * co (tab m (co ys)) (m - 1 - k) := List.map_congr_left fun k hk => by
    have := List.mem_range.mp hk
    rw [tab_co this, hx k this, tab_co (by omega)]
  rw [e1, pc_sum _ _ (m - 1) m (by omega)]
  rw [show m - 1 + 1 = m by omega]
theorem sgn_mul (x : Rat) : x * sgn x = rabs x := by
  unfold sgn rabs
  by_cases h : 0 < x
  · rw [if_pos h, if_neg (by grind)]
    grind
  · rw [if_neg h]
    by_cases h2 : x < 0
    · rw [if_pos h2, if_pos h2]
      grind
    · rw [if_neg h2, if_neg h2]
      grind
theorem dot_signs (xs : List Rat) : dotl xs (xs.reverse.map sgn) = xs.map rabs := by
  apply List.ext_getElem?
  intro i
  unfold dotl
  by_cases h : i < xs.length
  · rw [List.getElem?_map, List.getElem?_range (by simpa using h), List.getElem?_map, co_some h]
    show some (co xs i * co (xs.reverse.map sgn) ((xs.reverse.map sgn).length - 1 - i)) = some (rabs (co xs i))
    congr 1
    have hl : (xs.reverse.map sgn).length = xs.length := by simp
    have e : co (xs.reverse.map sgn) ((xs.reverse.map sgn).length - 1 - i) = sgn (co xs i) := by
      rw [hl]
      refine co_lt ?_
      rw [List.getElem?_map, List.getElem?_reverse (by omega), show xs.length - 1 - (xs.length - 1 - i) = i by omega, co_some h]
      rfl
    rw [e, sgn_mul]
  · rw [List.getElem?_eq_none (by simp; omega), List.getElem?_eq_none (by simp; omega)]
theorem mu_late (xs : List Rat) (f : Sq) (n : Nat) : ∀ gap, mu (List.replicate gap 0 ++ xs) f (n + gap) = mu xs f n
  | 0 => rfl
  | gap + 1 => by
    show 0 * f (n + gap + 1) + mu (List.replicate gap 0 ++ xs) f (n + gap) = _
    rw [mu_late xs f n gap]
    grind
/-! ### texts -/
theorem int_leaf2 {a : Int} (h : a.natAbs < 2 ^ 1000) : PyData.leavesShort 1010 (.int a) = true ∧ PyData.weight (.int a) ≤ 1001 ∧ PyData.showable (.int a) = true := by
  have hl := log_lt (by decide) h
  refine ⟨?_, ?_, ?_⟩
  · simp only [PyData.leavesShort, decide_eq_true_eq]
    have := int_text_length_le (by decide) hl
    show (Str.ofString (toString a)).length ≤ 1010
    rw [PySem.ofString_length]
    omega
  · show (if a == 0 then 0 else a.natAbs.log2 + 1) ≤ 1001
    split <;> omega
  · simp only [PyData.showable, decide_eq_true_eq]
    omega
theorem rep1 {x : Rat} (h : sm 1000 x) : repOk (.tuple [fr x]) := by
  obtain ⟨a1, a2, a3⟩ := int_leaf2 h.1
  obtain ⟨b1, b2, b3⟩ := int_leaf2 h.d
  have d1 : PyData.leavesShort 1010 (.tuple [fr x]) = true := by
    unfold fr
    simp only [PyData.leavesShort, PyData.leavesShortAll] at a1 b1 ⊢
    rw [a1, b1]
    rfl
  have d2 : PyData.weight (.tuple [fr x]) ≤ 2010 := by
    unfold fr
    simp only [PyData.weight, PyData.weightAll] at a2 b2 ⊢
    omega
  refine ⟨?_, rfl, ?_, ?_⟩
  · unfold fr
    simp only [PyData.showable, PyData.showableAll] at a3 b3 ⊢
    rw [a3, b3]
    rfl
  · have : PyData.depth (.tuple [fr x]) = 2 := rfl
    omega
  · have h := PyData.shown_le 1010 (by decide) _ d1
    have e : (1010 + 2) * PyData.weight (.tuple [fr x]) ≤ 1012 * 2010 := Nat.mul_le_mul (by decide) d2
    have e2 : 1012 * 2010 + 1010 ≤ sizeLine := by decide
    omega
theorem okS_1 (x : Rat) : okS (PyData.shown (.tuple [fr x])) := by
  have e : PyData.shown (.tuple [fr x]) = tupleText [PyData.shown (fr x)] := by simp only [PyData.shown, PyData.shownAll]
  rw [e]
  refine okS_tuple fun t ht => ?_
  rw [List.mem_singleton.mp ht]
  exact okS_fr x
theorem fRepr_t {xs : List PyData} {Q : Rv → Prop} : fRepr [.d (.tuple xs)] Q = (repOk (.tuple xs) ∧ Q (.d (.str (PyData.tuple xs).shown))) := rfl
/-- the last number's slice -/
theorem cut_last {xs : List Rat} (h : xs ≠ []) : cutD (xs.map fr) (some (-1)) none = [fr (co xs (xs.length - 1))] := by
  have hl : 0 < xs.length := List.length_pos_iff.mpr h
  show ((xs.map fr).drop (if (-1 : Int) < 0 then ((-1 : Int) + ((xs.map fr).length : Int)).toNat else min (-1 : Int).toNat (xs.map fr).length)).take ((xs.map fr).length - _) = _
  rw [if_pos (by decide), List.length_map]
  rw [show ((-1 : Int) + (xs.length : Int)).toNat = xs.length - 1 by omega]
  have e : (xs.map fr).drop (xs.length - 1) = [fr (co xs (xs.length - 1))] := by
    rw [← List.map_drop, List.drop_eq_getElem_cons (by omega), List.drop_eq_nil_of_le (by omega)]
    have := co_lt (List.getElem?_eq_getElem (show xs.length - 1 < xs.length by omega))
    rw [this]
    rfl
  rw [e]
  have e2 : HT.sIx xs.length 0 (some (-1)) = xs.length - 1 := by
    show (if (-1 : Int) < 0 then ((-1 : Int) + (xs.length : Int)).toNat else min (-1 : Int).toNat xs.length) = _
    rw [if_pos (by decide)]
    omega
  rw [e2, show xs.length - (xs.length - 1) = 1 by omega]
  rfl
end DL
/-! DL54: bounds of the worst, wider; the row that is told is one alone. -/
namespace DL
open PySem PySem.Spec PyProof.Rows L2
structure BOk2 (top under x : List Rat) : Prop where
  mu_ : MulOk under x
  mt : MulOk top x
  e : ∀ i, sm 4000 (co (pmul under x) i)
  s1 : sumOk 4000 ((psub [1] (pmul under x)).map rabs)
  s2 : sumOk 4000 ((pmul top x).map rabs)
  ss : sm 1980 (share under x)
  su : sm 1980 (upper top x)
/-- the search ends at the latest with 2 ^ J numbers -/
structure BdOk2 (top under : List Rat) (many : Int) (J : Nat) : Prop where
  J8 : J ≤ 8
  ser : serOk [1] under (2 ^ J)
  b : ∀ n, n ≤ 2 ^ J → BOk2 top under (rwn under n)
  near : near top under (rwn under (2 ^ J)) many
/-- the first power of two with near bounds -/
def isJ (top under : List Rat) (many : Int) (j : Nat) : Prop := near top under (rwn under (2 ^ j)) many ∧ ∀ i, i < j → ¬ near top under (rwn under (2 ^ i)) many
theorem isJ.one {top under : List Rat} {many : Int} {i j : Nat} (hi : isJ top under many i) (hj : isJ top under many j) : i = j := by
  by_cases h : i < j
  · exact absurd hi.1 (hj.2 i h)
  · by_cases h2 : j < i
    · exact absurd hj.1 (hi.2 j h2)
    · omega
end DL
/-! DL55: rows that the law multiplies. -/
namespace DL
open PySem PySem.Spec PyProof.Rows L2
structure MulZ (xs : List Rat) : Prop where
  ne : xs ≠ []
  t : trimd xs
  l : xs.length ≤ 200
  s : ∀ x ∈ xs, sm 1000 x
  d : ∀ i, lcd (xs.take i) < 2 ^ 1000
theorem lcd_dvd_of {xs : List Rat} {D : Nat} (h : ∀ x ∈ xs, x.den ∣ D) : lcd xs ∣ D := by
  have go : ∀ (xs : List Rat) (a : Nat), a ∣ D → (∀ x ∈ xs, x.den ∣ D) → xs.foldl (fun a x => Nat.lcm a x.den) a ∣ D := by
    intro xs
    induction xs with
    | nil => intro a h _; exact h
    | cons x xs ih => intro a h1 h2; exact ih _ (Nat.lcm_dvd h1 (h2 x List.mem_cons_self)) fun y hy => h2 y (List.mem_cons_of_mem _ hy)
  exact go xs 1 (Nat.one_dvd D) h
theorem den_dvd_of {x : Rat} {D : Nat} {z : Int} (h : x * ((D : Int) : Rat) = (z : Rat)) : x.den ∣ D := by
  have e := num_is x
  have hd : (((x.den : Nat) : Int) : Rat) ≠ 0 := rat_ne (by have := x.den_nz; omega)
  have e2 : ((x.num * (D : Int) : Int) : Rat) = ((z * (x.den : Int) : Int) : Rat) := by
    rw [Rat.intCast_mul, Rat.intCast_mul, e, ← h]
    grind
  have e3 : x.num * (D : Int) = z * (x.den : Int) := Rat.intCast_inj.mp e2
  have e4 : (x.den : Int) ∣ x.num * (D : Int) := ⟨z, by rw [e3, Int.mul_comm]⟩
  have e5 : x.den ∣ x.num.natAbs * D := by
    have := Int.natAbs_dvd_natAbs.mpr e4
    rw [Int.natAbs_mul, Int.natAbs_natCast, Int.natAbs_natCast] at this
    exact this
  exact (Nat.Coprime.dvd_of_dvd_mul_left (Nat.Coprime.symm x.reduced) e5)
theorem MulZ.of {xs : List Rat} {D M : Nat} (ne : xs ≠ []) (t : trimd xs) (l : xs.length ≤ 200) (h : ∀ x ∈ xs, FB D M x) (hD : 0 < D) (h1 : D < 2 ^ 1000) (h2 : M < 2 ^ 1000) : MulZ xs := by
  refine ⟨ne, t, l, fun x hx => (h x hx).sm hD h1 h2, fun i => ?_⟩
  have d : lcd (xs.take i) ∣ D := lcd_dvd_of fun x hx => by
    obtain ⟨z, e, _⟩ := h x (List.mem_of_mem_take hx)
    exact den_dvd_of e
  exact Nat.lt_of_le_of_lt (Nat.le_of_dvd hD d) h1
/-- what the law's own bounds by 24 numbers need -/
structure OwnOk (top under : List Rat) : Prop where
  ne : under ≠ []
  tne : top ≠ []
  lu : under.length ≤ 100
  lt : top.length ≤ 100
  ser : serOk [1] under 24
  mu_ : MulZ under
  mt : MulZ top
  mh : MulZ (rwn under 24)
  e : ∀ x ∈ pmul under (rwn under 24), sm 4000 x
  s1 : sumOk 4000 ((psub [1] (pmul under (rwn under 24))).map rabs)
  s2 : sumOk 4000 ((pmul top (rwn under 24)).map rabs)
  ss : sm 1980 (share under (rwn under 24))
  su : sm 1980 (upper top (rwn under 24))
end DL
/-! DL56: divisors with their factors counted. -/
namespace DL
open PySem PySem.Spec PyProof.Rows L2
/-- the divisors of a product -/
theorem splitP {as p g u : List Rat} (hp : okP p) (ha : ∀ a ∈ as, a ≠ 0) (g0 : co g 0 = 1) (u0 : co u 0 = 1) (e : ∀ n, mu (prodF as) (co p) n = mu g (co u) n) :
    ∃ as1 as2 p1 p2 : List Rat, (as1 ++ as2).Perm as ∧ ((p1 = [1] ∧ p2 = p) ∨ (p1 = p ∧ p2 = [1])) ∧ (∀ n, co g n = mu (prodF as1) (co p1) n) ∧ ∀ n, co u n = mu (prodF as2) (co p2) n := by
  induction as using snoc_ind generalizing g u with
  | h0 =>
    have e2 : ∀ n, co p n = mu (trim g) (co (trim u)) n := fun n => by
      rw [show co (trim u) = co u from funext (co_trim u), mu_congr (co_trim g), ← e n]
      exact (mu_one_left _ n).symm
    rcases split_p hp (trim_trimd g) (trim_trimd u) (by rw [co_trim]; exact g0) (by rw [co_trim]; exact u0) e2 with ⟨h1, h2⟩ | ⟨h1, h2⟩
    · exact ⟨[], [], [1], p, List.Perm.refl _, .inl ⟨rfl, rfl⟩, fun n => by rw [← co_trim g, h1]; exact (mu_one_left _ n).symm, fun n => by rw [← co_trim u, h2]; exact (mu_one_left _ n).symm⟩
    · exact ⟨[], [], p, [1], List.Perm.refl _, .inr ⟨rfl, rfl⟩, fun n => by rw [← co_trim g, h1]; exact (mu_one_left _ n).symm, fun n => by rw [← co_trim u, h2]; exact (mu_one_left _ n).symm⟩
  | h1 as a ih =>
    have ha0 := ha a (by simp)
    have hb : ∀ b ∈ as, b ≠ 0 := fun b hb => ha b (List.mem_append_left _ hb)
    have e1 : mu (prodF (as ++ [a])) (co p) = mu (fac a) (mu (prodF as) (co p)) := by
      funext n
      rw [prodF_snoc, mu_pmul, mu_comm]
    have w3 : worth (fac a) (1 / a) = 0 := by
      show (0 * (1 / a) + -a) * (1 / a) + 1 = 0
      grind
    have w := worth_mu (xs := pmul (prodF (as ++ [a])) p) (g := g) (q := u) (fun n => by rw [co_pmul]; exact e n) (1 / a)
    rw [worth_pmul, prodF_snoc, worth_pmul, w3] at w
    have w4 : worth g (1 / a) * worth u (1 / a) = 0 := by rw [← w]; grind
    have cancel : ∀ {f k : Sq}, mu (fac a) f = mu (fac a) k → f = k := fun {f k} h => by
      have := congrArg (geo a) h
      rwa [geo_fac, geo_fac] at this
    have sn : ∀ (cs q : List Rat), (fun n => mu (prodF (cs ++ [a])) (co q) n) = mu (fac a) (mu (prodF cs) (co q)) := fun cs q => by
      funext n
      rw [prodF_snoc, mu_pmul, mu_comm]
    rcases Rat.mul_eq_zero.mp w4 with h | h
    · obtain ⟨g', eg⟩ := part_off ha0 h
      have g0' : co g' 0 = 1 := by rw [← g0, ← eg, mu_fac0]
      have e2 : mu (prodF as) (co p) = mu g' (co u) := cancel (by
        rw [← e1, funext e, mu_co_comm, ← eg, mu_comm, mu_co_comm u])
      obtain ⟨as1, as2, p1, p2, i1, i4, i5, i6⟩ := ih hb g0' u0 (fun n => congrFun e2 n)
      refine ⟨as1 ++ [a], as2, p1, p2, ?_, i4, fun n => ?_, i6⟩
      · rw [List.append_assoc]
        exact (List.Perm.append_left as1 List.perm_append_comm).trans (by rw [← List.append_assoc]; exact i1.append_right [a])
      · rw [← eg, show co g' = mu (prodF as1) (co p1) from funext i5]
        exact (congrFun (sn as1 p1) n).symm
    · obtain ⟨u', eu⟩ := part_off ha0 h
      have u0' : co u' 0 = 1 := by rw [← u0, ← eu, mu_fac0]
      have e2 : mu (prodF as) (co p) = mu g (co u') := cancel (by
        rw [← e1, funext e, ← eu, mu_comm])
      obtain ⟨as1, as2, p1, p2, i1, i4, i5, i6⟩ := ih hb g0 u0' (fun n => congrFun e2 n)
      refine ⟨as1, as2 ++ [a], p1, p2, ?_, i4, i5, fun n => ?_⟩
      · rw [← List.append_assoc]
        exact i1.append_right [a]
      · rw [← eu, show co u' = mu (prodF as2) (co p2) from funext i6]
        exact (congrFun (sn as2 p2) n).symm
end DL
/-! DL57: tails at any rate; bounds of the worst for widths to 10 ^ 6. -/
namespace DL
open PySem PySem.Spec PyProof.Rows L2
def BR (r : Rat) : Nat → Sq
  | 0 => dl
  | j + 1 => geo r (BR r j)
section
variable {r : Rat}
theorem BR_nn (hr : 0 ≤ r) : ∀ j n, 0 ≤ BR r j n
  | 0 => dl_nn
  | j + 1 => geo_nn hr (BR_nn hr j)
theorem BR_up (hr : 0 ≤ r) (j n : Nat) : BR r j n ≤ BR r (j + 1) n := by
  cases n with
  | zero => show _ ≤ BR r j 0; grind
  | succ n =>
    show _ ≤ r * geo r (BR r j) n + BR r j (n + 1)
    have h1 := geo_nn (a := r) hr (BR_nn hr j) n
    have h2 := Rat.mul_nonneg hr h1
    grind
theorem BR_le (hr : 0 ≤ r) {i j : Nat} (h : i ≤ j) (n : Nat) : BR r i n ≤ BR r j n := by
  induction h with
  | refl => grind
  | step _ ih =>
    rename_i m _
    have := BR_up hr m n
    grind
theorem BR1 (n : Nat) : BR r 1 n = r ^ n := by
  induction n with
  | zero => rw [Rat.pow_zero]; rfl
  | succ n ih =>
    show r * BR r 1 n + dl (n + 1) = _
    rw [ih, Rat.pow_succ]
    show _ + (0 : Rat) = _
    grind
theorem BR2 (n : Nat) : BR r 2 n = (((n : Int) : Rat) + 1) * r ^ n := by
  induction n with
  | zero => show dl 0 = _; rw [Rat.pow_zero]; decide +kernel
  | succ n ih =>
    show r * BR r 2 n + BR r 1 (n + 1) = _
    rw [ih, BR1, Rat.pow_succ, natr_succ]
    grind
theorem BR3 (n : Nat) : BR r 3 n * 2 = (((n : Int) : Rat) + 1) * (((n : Int) : Rat) + 2) * r ^ n := by
  induction n with
  | zero => show dl 0 * 2 = _; rw [Rat.pow_zero]; decide +kernel
  | succ n ih =>
    show (r * BR r 3 n + BR r 2 (n + 1)) * 2 = _
    rw [BR2, Rat.pow_succ, natr_succ]
    grind
theorem finv_absR {as : List Rat} {P : Sq} {j : Nat} {k : Rat} (ha : ∀ a ∈ as, rabs a ≤ r) (hP : ∀ n, rabs (P n) ≤ k * BR r j n) : ∀ n, rabs (finv as P n) ≤ k * BR r (j + as.length) n := by
  induction as using snoc_ind with
  | h0 => exact hP
  | h1 as a ih =>
    intro n
    rw [finv_snoc, List.length_append]
    have := geo_abs (ha a (by simp)) (ih fun b hb => ha b (List.mem_append_left _ hb)) n
    rw [geo_smul] at this
    exact this
/-- the sum of all, where q (1 - r) = 1 -/
theorem BR_tot {q : Rat} (hr : 0 ≤ r) (hq : 1 ≤ q) (e : q * r + 1 = q) : ∀ j n, tot (BR r j) n ≤ q ^ j
  | 0, n => by
    rw [Rat.pow_zero]
    have h1 := tot_le (f := dl) dl_nn (show n ≤ n + 1 by omega)
    have h2 : tot dl (n + 1) = tot dl 1 := tot_beyond (f := dl) (n := 1) (fun k hk => if_neg (by omega)) (by omega)
    have e : tot dl 1 = 1 := by decide +kernel
    rw [h2, e] at h1
    exact h1
  | j + 1, n => by
    show tot (geo r (BR r j)) n ≤ _
    have key : ∀ n, tot (geo r (BR r j)) n ≤ q * tot (BR r j) n := by
      intro n
      induction n with
      | zero => show (0 : Rat) ≤ q * 0; grind
      | succ n ih =>
        rw [geo_tot]
        have h2 := tot_le (f := BR r j) (BR_nn hr j) (Nat.le_succ n)
        have h3 := Rat.mul_nonneg hr (show 0 ≤ q * tot (BR r j) n - tot (geo r (BR r j)) n by grind)
        have h4 := Rat.mul_nonneg (show 0 ≤ q * r by have := Rat.mul_nonneg (show 0 ≤ q by grind) hr; exact this) (show 0 ≤ tot (BR r j) (n + 1) - tot (BR r j) n by grind)
        have h5 : q * tot (BR r j) (n + 1) = q * r * tot (BR r j) (n + 1) + tot (BR r j) (n + 1) := by
          have : (q * r + 1) * tot (BR r j) (n + 1) = q * tot (BR r j) (n + 1) := by rw [e]
          grind
        grind
    rw [Rat.pow_succ]
    have e1 := key n
    have e2 := BR_tot hr hq e j n
    have e3 := Rat.mul_nonneg (show 0 ≤ q by grind) (show 0 ≤ q ^ j - tot (BR r j) n by grind)
    grind
end
/-- a pair, at its own rate -/
theorem pinv_leR {t c r : Rat} (ht : t ∈ Ts) (hc : c ∈ ([0, 1 / 2, -1 / 2, 3 / 5, 1 / 4] : List Rat)) (hr : t ≤ r) (n : Nat) : rabs (pinv t c n) ≤ 5 / 4 * r ^ n := by
  obtain ⟨h1, h2, h3⟩ := pair_facts ht hc
  have hi := pinv_inv t c n
  have e : pinv t c (n + 1) * pinv t c (n + 1) - 2 * (t * c) * (pinv t c (n + 1) * pinv t c n) + t * t * (pinv t c n * pinv t c n)
      = (pinv t c (n + 1) - t * c * pinv t c n) * (pinv t c (n + 1) - t * c * pinv t c n) + (1 - c * c) * (t * t * (pinv t c n * pinv t c n)) := by grind
  rw [e] at hi
  have s1 := sq_nn (pinv t c (n + 1) - t * c * pinv t c n)
  have s2 := sq_nn (t * pinv t c n)
  have k := Rat.mul_nonneg (show 0 ≤ 1 - c * c - 16 / 25 by grind) s2
  have hp : t ^ (n + 1) = t ^ n * t := Rat.pow_succ t n
  rw [hp] at hi
  have tt : 0 < t * t := Rat.mul_pos h1 h1
  have key : 16 / 25 * (pinv t c n * pinv t c n) ≤ t ^ n * t ^ n := by
    apply Rat.not_lt.mp
    intro hlt
    have := Rat.mul_pos tt (show 0 < 16 / 25 * (pinv t c n * pinv t c n) - t ^ n * t ^ n by grind)
    grind
  have pm := pow_mono' (show 0 ≤ t by grind) hr n
  have p0 := pow_nn (show (0 : Rat) ≤ t by grind) n
  have q0 := pow_nn (show (0 : Rat) ≤ r by grind) n
  refine root_le (by grind) ?_
  have a := Rat.mul_nonneg (show 0 ≤ r ^ n - t ^ n by grind) p0
  have b := Rat.mul_nonneg (show 0 ≤ r ^ n - t ^ n by grind) q0
  grind
/-- the tails: 128 numbers at the rate 3/4, 256 at 4/5 -/
theorem BR_tail3 {n : Nat} (h : 128 ≤ n) (h2 : n < 132) : BR (3 / 4) 3 n ≤ tiny ∧ BR (3 / 4) 2 n ≤ 14 / 1000000000000000 := by
  have e : n = 128 ∨ n = 129 ∨ n = 130 ∨ n = 131 := by omega
  have key : ∀ m : Nat, (((m : Int) : Rat) + 1) * (((m : Int) : Rat) + 2) * (3 / 4) ^ m ≤ tiny * 2 → BR (3 / 4) 3 m ≤ tiny := fun m hm => by
    rw [← BR3] at hm
    grind
  rcases e with rfl | rfl | rfl | rfl <;> exact ⟨key _ (by decide +kernel), by rw [BR2]; decide +kernel⟩
theorem BR_tail4 {n : Nat} (h : 256 ≤ n) (h2 : n < 260) : BR (4 / 5) 3 n ≤ 1 / 100000000000000000000 := by
  have e : n = 256 ∨ n = 257 ∨ n = 258 ∨ n = 259 := by omega
  have key : ∀ m : Nat, (((m : Int) : Rat) + 1) * (((m : Int) : Rat) + 2) * (4 / 5) ^ m ≤ 1 / 100000000000000000000 * 2 → BR (4 / 5) 3 m ≤ 1 / 100000000000000000000 := fun m hm => by
    rw [← BR3] at hm
    grind
  rcases e with rfl | rfl | rfl | rfl <;> exact key _ (by decide +kernel)
end DL
/-! DL58: bounds of the worst, widths to 10 ^ 6, both sides. -/
namespace DL
open PySem PySem.Spec PyProof.Rows L2
/-! ### bounds of the worst -/
structure Kq (top under : List Rat) (xi : Sq) (many : Int) (J : Nat) : Prop where
  inv : ∀ n, mu under xi n = dl n
  ne : under ≠ []
  one : co under 0 = 1
  tu : trimd under
  tt : trimd top
  lu : under.length ≤ 4
  lt : top.length ≤ 6
  J8 : J ≤ 8
  sz : ∃ a b Dt Mt Du Mu Dx Mx : Nat, (a + b + 12 ≤ 1980 ∧ a + 24 ≤ 1980 ∧ b ≤ 400) ∧ (0 < Dt ∧ Dt < 2 ^ b ∧ Mt < 2 ^ b) ∧ (0 < Du ∧ Du < 2 ^ 11 ∧ Mu < 2 ^ 11) ∧ (0 < Dx ∧ Dx < 2 ^ a ∧ Mx < 2 ^ a) ∧ (∀ k, FB Dt Mt (co top k)) ∧ (∀ k, FB Du Mu (co under k)) ∧ ∀ k, k < 2 ^ J → FB Dx Mx (xi k)
  su : (under.map rabs).sum ≤ 6
  tn : ∃ S T Z : Rat, (top.map rabs).sum ≤ S ∧ (∀ n, tot (fun k => rabs (xi k)) n ≤ Z) ∧ (∀ k, 2 ^ J ≤ k → k < 2 ^ J + 4 → rabs (xi k) ≤ T) ∧ 0 ≤ T ∧ 24 * T ≤ 1 / 100 ∧ S * Z * (24 * T) * 2 ≤ 9 / 10 * (1 / (many : Rat))
section
variable {top under : List Rat} {xi : Sq} {many : Int} {J : Nat}
theorem Kq.hy (K : Kq top under xi many J) (n : Nat) : mu under xi n = co [1] n := by rw [K.inv, co_one_dl]
theorem Kq.ris (K : Kq top under xi many J) (n k : Nat) : co (rwn under n) k = if k < n then xi k else 0 := by
  unfold rwn
  rw [co_trim, serG K.ne K.one K.hy]
theorem serOkQ {a N Du Mu Dy My : Nat} {y : Sq} (ha : a + 24 ≤ 1980) (hne : under ≠ []) (h1 : co under 0 = 1) (hy : ∀ n, mu under y n = co [1] n) (hl : under.length ≤ 4) (fu : ∀ k, FB Du Mu (co under k)) (fy : ∀ k, k < N → FB Dy My (y k))
    (p2 : 0 < Du) (p3 : 0 < Dy) (b3 : Du < 2 ^ 11) (b4 : Mu < 2 ^ 11) (b5 : Dy < 2 ^ a) (b6 : My < 2 ^ a) : serOk [1] under N := by
  have fs : ∀ n, n ≤ N → ∀ k, FB Dy My (co (ser [1] under n) k) := fun n hn k => by
    rw [serG hne h1 hy]
    split
    · exact fy k (by omega)
    · exact FB.zero' _ _
  have c1 : Du * Dy < 2 ^ (11 + a) := mulp b3 b5
  have c2 : Mu * My < 2 ^ (11 + a) := mulp b4 b6
  have p4 : 0 < Du * Dy := Nat.mul_pos p2 p3
  refine ⟨fun i => (fu i).sm p2 (upp b3 (by decide)) (upp b4 (by decide)), fun n hn j => (fs n (by omega) j).sm p3 (upp b5 (by omega)) (upp b6 (by omega)), fun n hn j hj => ?_, fun n hn j hj => ((fu j).mul (fs n (by omega) (n - j))).sm p4 (upp c1 (by omega)) (upp c2 (by omega))⟩
  rw [y0G hne h1 hy (fun k hk => by rw [serG hne h1 hy, if_pos hk]) j hj]
  have ht : ∀ k, FB Dy My (co (tab (n + 1) y) k) := fun k => by
    by_cases h : k < n + 1
    · rw [tab_co h]
      exact fy k (by omega)
    · rw [tab_zero (by omega)]
      exact FB.zero' _ _
  have h2 : FB (Du * Dy) (4 * (Mu * My)) (pc under (tab (n + 1) y) (j + 1) n) := (FB.pc fu ht _ _).mono (Nat.mul_le_mul_right _ hl)
  have h3 : FB (Du * Dy) (Du * My) (y n) := (fy n hn).scale
  have h4 : FB (Du * Dy) (Du * Dy) (co [1] n) := by
    rw [co_one_dl]
    unfold dl
    split
    · exact FB.one _
    · exact FB.zero' _ _
  have d3 : 4 * (Mu * My) < 2 ^ (3 + (11 + a)) := mulp (by decide) c2
  have d4 : Du * My < 2 ^ (3 + (11 + a)) := upp (mulp b3 b6) (by omega)
  have d5 : Du * Dy < 2 ^ (3 + (11 + a) + 1) := upp c1 (by omega)
  exact (h4.sub (h2.sub h3)).sm p4 (upp c1 (by omega)) (upp (addp d5 (addp d3 d4)) (by omega))
theorem Kq.serK (K : Kq top under xi many J) : serOk [1] under (2 ^ J) := by
  obtain ⟨a, b, Dt, Mt, Du, Mu, Dx, Mx, ⟨z1, z2, z3⟩, ⟨t1, t2, t3⟩, ⟨u1, u2, u3⟩, ⟨x1, x2, x3⟩, ft, fu, fx⟩ := K.sz
  exact serOkQ z2 K.ne K.one K.hy K.lu fu fx u1 x1 u2 u3 x2 x3
theorem mulOkQ {a b D E M N : Nat} {xs ys : List Rat} (lx : xs.length ≤ 20) (ly : ys.length ≤ 400) (hx : ∀ k, FB D M (co xs k)) (hy : ∀ k, FB E N (co ys k)) (d1 : 0 < D) (d2 : 0 < E) (h1 : D < 2 ^ a) (h2 : M < 2 ^ a) (h3 : E < 2 ^ b) (h4 : N < 2 ^ b) (hab : a + b + 6 ≤ 4000) : MulOk xs ys := by
  have c1 : D * E < 2 ^ (a + b) := mulp h1 h3
  have c2 : M * N < 2 ^ (a + b) := mulp h2 h4
  have c3 : 20 * (M * N) < 2 ^ (5 + (a + b)) := mulp (show 20 < 2 ^ 5 by decide) c2
  refine ⟨by omega, ly, fun i => (hx i).sm d1 (upp h1 (by omega)) (upp h2 (by omega)), fun i => (hy i).sm d2 (upp h3 (by omega)) (upp h4 (by omega)), fun i j => ((hx i).mul (hy j)).sm (Nat.mul_pos d1 d2) (upp c1 (by omega)) (upp c2 (by omega)), fun i k => ?_⟩
  exact ((FB.pc hx hy i k).mono (Nat.mul_le_mul_right _ lx)).sm (Nat.mul_pos d1 d2) (upp c1 (by omega)) (upp c3 (by omega))
theorem lenQ (hl : under.length ≤ 4) {x : List Rat} {n : Nat} (hx : x.length ≤ n) (hn : 1 ≤ n) : (psub [1] (pmul under x)).length ≤ n + 4 := by
  have h1 := psub_len' [1] (pmul under x)
  have h2 := pmul_len' under x
  have h3 : max [(1 : Rat)].length (pmul under x).length ≤ n + 4 := by show max 1 _ ≤ _; omega
  omega
theorem Kq.bok (K : Kq top under xi many J) {n : Nat} (hn : n ≤ 2 ^ J) : BOk2 top under (rwn under n) := by
  obtain ⟨a, b, Dt, Mt, Du, Mu, Dx, Mx, ⟨z1, z2, z3⟩, ⟨t1, t2, t3⟩, ⟨u1, u2, u3⟩, ⟨x1, x2, x3⟩, ft, fu, fx⟩ := K.sz
  have hJ : 2 ^ J ≤ 256 := Nat.pow_le_pow_right (by decide) K.J8
  have hl := rwn_len under n
  have hx : ∀ k, FB Dx Mx (co (rwn under n) k) := fun k => by
    rw [K.ris]
    split
    · exact fx k (by omega)
    · exact FB.zero' _ _
  have l4 := K.lu
  have l6 := K.lt
  have le := lenQ (under := under) l4 (show (rwn under n).length ≤ 256 by omega) (by decide)
  have lp := pmul_len' top (rwn under n)
  have fe : ∀ k, FB (Du * Dx) (Du * Dx + 4 * (Mu * Mx)) (co (psub [1] (pmul under (rwn under n))) k) := fun k => by
    rw [co_psub]
    refine FB.sub ?_ ?_
    · rw [co_one_dl]
      unfold dl
      split
      · exact FB.one _
      · exact FB.zero' _ _
    · rw [co_pmul, ← cv_mu]
      exact (FB.pc fu hx _ _).mono (Nat.mul_le_mul_right _ l4)
  have fp : ∀ k, FB (Dt * Dx) (6 * (Mt * Mx)) (co (pmul top (rwn under n)) k) := fun k => by
    rw [co_pmul, ← cv_mu]
    exact (FB.pc ft hx _ _).mono (Nat.mul_le_mul_right _ l6)
  have a1 : Du * Dx < 2 ^ (11 + a) := mulp u2 x2
  have a2 : 4 * (Mu * Mx) < 2 ^ (3 + (11 + a)) := mulp (by decide) (mulp u3 x3)
  have a3 : Du * Dx + 4 * (Mu * Mx) < 2 ^ (3 + (11 + a) + 1) := addp (upp a1 (by omega)) a2
  have a4 : 264 * (Du * Dx + 4 * (Mu * Mx)) < 2 ^ (9 + (3 + (11 + a) + 1)) := mulp (by decide) a3
  have b1 : Dt * Dx < 2 ^ (b + a) := mulp t2 x2
  have b2 : 6 * (Mt * Mx) < 2 ^ (3 + (b + a)) := mulp (by decide) (mulp t3 x3)
  have b3 : 264 * (6 * (Mt * Mx)) < 2 ^ (9 + (3 + (b + a))) := mulp (by decide) b2
  have p1 : 0 < Du * Dx := Nat.mul_pos u1 x1
  have p2 : 0 < Dt * Dx := Nat.mul_pos t1 x1
  obtain ⟨_, ss⟩ := FB.sumOk (n := 264) (b := 1980) (abs_co_FB fe) (by rw [List.length_map]; omega) (by decide) p1 (upp a1 (by omega)) (upp a4 (by omega))
  obtain ⟨s1, _⟩ := FB.sumOk (n := 264) (b := 4000) (abs_co_FB fe) (by rw [List.length_map]; omega) (by decide) p1 (upp a1 (by omega)) (upp a4 (by omega))
  obtain ⟨_, su⟩ := FB.sumOk (n := 264) (b := 1980) (abs_co_FB fp) (by rw [List.length_map]; omega) (by decide) p2 (upp b1 (by omega)) (upp b3 (by omega))
  obtain ⟨s2, _⟩ := FB.sumOk (n := 264) (b := 4000) (abs_co_FB fp) (by rw [List.length_map]; omega) (by decide) p2 (upp b1 (by omega)) (upp b3 (by omega))
  refine ⟨mulOkQ (by omega) (by omega) fu hx u1 x1 u2 u3 x2 x3 (by omega), mulOkQ (by omega) (by omega) ft hx t1 x1 t2 t3 x2 x3 (by omega), fun i => ?_, s1, s2, ss, su⟩
  rw [co_pmul, ← cv_mu]
  exact ((FB.pc fu hx _ _).mono (Nat.mul_le_mul_right _ l4)).sm p1 (upp a1 (by omega)) (upp a2 (by omega))
theorem Kq.res (K : Kq top under xi many J) (n k : Nat) : co (psub [1] (pmul under (rwn under n))) k = mu under (fun j => if j < n then 0 else xi j) k := by
  rw [co_psub, co_pmul, co_one_dl, ← K.inv k, ← mu_sub]
  refine mu_local fun j _ => ?_
  rw [K.ris]
  split <;> grind
theorem Kq.near (K : Kq top under xi many J) (hm : 1 ≤ many) : DL.near top under (rwn under (2 ^ J)) many := by
  obtain ⟨S, T, Z, hS, a3Z, hT, T0, h1, h2⟩ := K.tn
  have hJ1 : 1 ≤ 2 ^ J := Nat.pow_pos (by decide)
  have s0 := share_nn under (rwn under (2 ^ J))
  have u0 := upper_nn top (rwn under (2 ^ J))
  -- the share
  have s1 : share under (rwn under (2 ^ J)) ≤ 24 * T := by
    unfold share
    rw [abs_tot _ (lenQ K.lu (rwn_len under (2 ^ J)) hJ1), tot_congr fun k _ => by rw [K.res]]
    have a1 := tot_mu_le under (fun j => if j < 2 ^ J then 0 else xi j) (2 ^ J + 4)
    have a2 : tot (fun k => rabs (if k < 2 ^ J then 0 else xi k)) (2 ^ J + 4) ≤ 4 * T := by
      have h0 : tot (fun k => rabs (if k < 2 ^ J then 0 else xi k)) (2 ^ J) = 0 := by
        rw [tot_congr (g := fun _ => 0) fun k hk => by rw [if_pos hk]; decide +kernel]
        exact tot_beyond (f := fun _ => (0 : Rat)) (n := 0) (fun k _ => rfl) (Nat.zero_le _)
      show tot (fun k => rabs (if k < 2 ^ J then 0 else xi k)) (2 ^ J + 4) ≤ _
      have st : ∀ m, tot (fun k => rabs (if k < 2 ^ J then 0 else xi k)) (m + 1) = tot (fun k => rabs (if k < 2 ^ J then 0 else xi k)) m + rabs (if m < 2 ^ J then 0 else xi m) := fun _ => rfl
      have g1 := hT (2 ^ J) (by omega) (by omega)
      have g2 := hT (2 ^ J + 1) (by omega) (by omega)
      have g3 := hT (2 ^ J + 2) (by omega) (by omega)
      have g4 := hT (2 ^ J + 3) (by omega) (by omega)
      rw [show 2 ^ J + 4 = 2 ^ J + 1 + 1 + 1 + 1 by omega, st, st, st, st, h0, if_neg (by omega), if_neg (by omega), if_neg (by omega), if_neg (by omega)]
      grind
    have a3 := K.su
    have a4 : 0 ≤ tot (fun k => rabs (if k < 2 ^ J then 0 else xi k)) (2 ^ J + 4) := tot_nn fun k => rabs_nn _
    have a5 := Rat.mul_nonneg (show 0 ≤ 6 - (under.map rabs).sum by grind) a4
    grind
  -- the upper sum
  have u1 : upper top (rwn under (2 ^ J)) ≤ S * Z := by
    unfold upper
    rw [abs_tot _ (Nat.le_refl _), tot_congr fun k _ => by rw [co_pmul]]
    generalize (pmul top (rwn under (2 ^ J))).length = N
    have a1 := tot_mu_le top (co (rwn under (2 ^ J))) N
    have a2 : tot (fun k => rabs (co (rwn under (2 ^ J)) k)) N ≤ tot (fun k => rabs (xi k)) N := tot_mono fun k _ => by
      rw [K.ris]
      split
      · grind
      · exact (show rabs 0 = 0 by decide +kernel) ▸ rabs_nn _
    have a3 := a3Z N
    have a5 := abs_sum_nn top
    have a6 : 0 ≤ tot (fun k => rabs (co (rwn under (2 ^ J)) k)) N := tot_nn fun k => rabs_nn _
    have a7 := Rat.mul_nonneg (show 0 ≤ S - (top.map rabs).sum by grind) a6
    have a8 := Rat.mul_nonneg (show 0 ≤ S by grind) (show 0 ≤ Z - tot (fun k => rabs (co (rwn under (2 ^ J)) k)) N by grind)
    grind
  refine ⟨by grind, fun h => ?_⟩
  unfold hiB loB at h
  generalize upper top (rwn under (2 ^ J)) = U at *
  generalize share under (rwn under (2 ^ J)) = s at *
  have hs1 : s ≤ 1 / 100 := by grind
  have e1 : 0 < (1 - s) * (1 + s) := Rat.mul_pos (by grind) (by grind)
  have e2 : s * s ≤ 1 / 100 := by
    have := Rat.mul_nonneg s0 (show 0 ≤ 1 / 100 - s by grind)
    grind
  have e3 : 9 / 10 ≤ (1 - s) * (1 + s) := by grind
  rw [gap_eq (by grind) (by grind), Rat.lt_div_iff e1] at h
  have e4 : s * U ≤ 24 * T * (S * Z) := by
    have a1 := Rat.mul_nonneg s0 (show 0 ≤ S * Z - U by grind)
    have a2 := Rat.mul_nonneg (show 0 ≤ 24 * T - s by grind) (show 0 ≤ S * Z by grind)
    grind
  have e6 : (0 : Rat) < (many : Rat) := by
    have : ((0 : Int) : Rat) < (many : Rat) := Rat.intCast_lt_intCast.mpr (by omega)
    exact this
  have e7 : 0 ≤ 1 / (many : Rat) := by rw [le_div_i e6]; grind
  have e8 := Rat.mul_nonneg (show 0 ≤ (1 - s) * (1 + s) - 9 / 10 by grind) e7
  grind
theorem Kq.bd (K : Kq top under xi many J) (hm : 1 ≤ many) : BdOk2 top under many J := ⟨K.J8, K.serK, fun _ hn => K.bok hn, K.near hm⟩
/-- no partial sum of sizes is beyond the upper bound -/
theorem Kq.hi (K : Kq top under xi many J) {n : Nat} (hs : share under (rwn under n) < 1) (N : Nat) : tot (fun k => rabs (mu top xi k)) N ≤ hiB top under (rwn under n) := by
  have e : ∀ k, mu top xi k = mu (psub [1] (pmul under (rwn under n))) (mu top xi) k + mu top (co (rwn under n)) k := fun k => by
    have a1 : mu (psub [1] (pmul under (rwn under n))) (mu top xi) k = mu top xi k - mu (pmul under (rwn under n)) (mu top xi) k := by
      rw [mu_tab, show co (psub [1] (pmul under (rwn under n))) = fun j => co [1] j - co (pmul under (rwn under n)) j from funext fun j => co_psub _ _ j, mu_sub, ← mu_tab, ← mu_tab, mu_one_left]
    have a2 : mu (pmul under (rwn under n)) (mu top xi) k = mu top (co (rwn under n)) k := by
      rw [mu_pmul, mu_comm, mu_comm under top, show mu under xi = dl from funext K.inv, mu_dl, mu_co_comm]
    rw [a1, a2]
    grind
  have h1 : tot (fun k => rabs (mu top xi k)) N ≤ tot (fun k => rabs (mu (psub [1] (pmul under (rwn under n))) (mu top xi) k) + rabs (mu top (co (rwn under n)) k)) N := tot_mono fun k _ => by
    have := rabs_add (mu (psub [1] (pmul under (rwn under n))) (mu top xi) k) (mu top (co (rwn under n)) k)
    rw [← e k] at this
    exact this
  rw [tot_add] at h1
  have h2 := tot_mu_le (psub [1] (pmul under (rwn under n))) (mu top xi) N
  have h3 : tot (fun k => rabs (mu top (co (rwn under n)) k)) N ≤ upper top (rwn under n) := by
    unfold upper
    rw [abs_tot (pmul top (rwn under n)) (n := (pmul top (rwn under n)).length + N) (by omega), tot_congr (n := (pmul top (rwn under n)).length + N) fun k _ => by rw [co_pmul]]
    exact tot_le (fun k => rabs_nn _) (by omega)
  have h4 : ((psub [1] (pmul under (rwn under n))).map rabs).sum = share under (rwn under n) := rfl
  rw [h4] at h2
  unfold hiB
  rw [le_div_i (by grind)]
  grind
/-- nor is the lower bound beyond the partial sums -/
theorem Kq.lo (K : Kq top under xi many J) (n : Nat) {N : Nat} (hN : (pmul top (rwn under n)).length ≤ N) : loB top under (rwn under n) ≤ tot (fun k => rabs (mu top xi k)) N := by
  have e : ∀ k, mu top (co (rwn under n)) k = mu top xi k + (-1) * mu (psub [1] (pmul under (rwn under n))) (mu top xi) k := fun k => by
    have a1 : mu (psub [1] (pmul under (rwn under n))) (mu top xi) k = mu top xi k - mu (pmul under (rwn under n)) (mu top xi) k := by
      rw [mu_tab, show co (psub [1] (pmul under (rwn under n))) = fun j => co [1] j - co (pmul under (rwn under n)) j from funext fun j => co_psub _ _ j, mu_sub, ← mu_tab, ← mu_tab, mu_one_left]
    have a2 : mu (pmul under (rwn under n)) (mu top xi) k = mu top (co (rwn under n)) k := by
      rw [mu_pmul, mu_comm, mu_comm under top, show mu under xi = dl from funext K.inv, mu_dl, mu_co_comm]
    rw [a1, a2]
    grind
  have h1 : upper top (rwn under n) ≤ tot (fun k => rabs (mu top xi k) + rabs (mu (psub [1] (pmul under (rwn under n))) (mu top xi) k)) N := by
    unfold upper
    rw [abs_tot (pmul top (rwn under n)) hN, tot_congr fun k _ => by rw [co_pmul]]
    refine tot_mono fun k _ => ?_
    rw [e k]
    have := rabs_add (mu top xi k) ((-1) * mu (psub [1] (pmul under (rwn under n))) (mu top xi) k)
    have e2 : rabs ((-1) * mu (psub [1] (pmul under (rwn under n))) (mu top xi) k) = rabs (mu (psub [1] (pmul under (rwn under n))) (mu top xi) k) := by
      rw [show (-1 : Rat) * mu (psub [1] (pmul under (rwn under n))) (mu top xi) k = -(mu (psub [1] (pmul under (rwn under n))) (mu top xi) k) by grind, rabs_neg]
    rw [e2] at this
    exact this
  rw [tot_add] at h1
  have h2 := tot_mu_le (psub [1] (pmul under (rwn under n))) (mu top xi) N
  have h4 : ((psub [1] (pmul under (rwn under n))).map rabs).sum = share under (rwn under n) := rfl
  rw [h4] at h2
  have s0 := share_nn under (rwn under n)
  unfold loB
  rw [div_le_i (by grind)]
  grind
end
end DL
/-! DL59: calm rows' divisors with their rates. -/
namespace DL
open PySem PySem.Spec PyProof.Rows L2
def L45 (a : Rat) : List (List Rat) := (ls [a, -4 / 5] 3).filter fun l => decide (l.count a ≤ 1) && decide (l.count (-4 / 5) ≤ 2)
def Cs5 : List Rat := [0, 1 / 2, -1 / 2, 3 / 5, 1 / 4]
/-- the shapes of a product, with its rate -/
inductive Gz : Rat → List Rat → List Rat → Prop
  | a {as : List Rat} (hl : as.length ≤ 3) (h : ∀ x ∈ as, x ∈ A18) : Gz (3 / 4) as [1]
  | b {as : List Rat} {t c : Rat} (hl : as.length ≤ 1) (h : ∀ x ∈ as, x ∈ A18) (ht : t ∈ Ts) (h34 : t ≤ 3 / 4) (hc : c ∈ Cs5) : Gz (3 / 4) as (prw t c)
  | c {as : List Rat} {x : Rat} (hx : x ∈ A18) (h : as ∈ L45 x) : Gz (4 / 5) as [1]
  | d {as : List Rat} {c : Rat} (hl : as.length ≤ 1) (h : ∀ x ∈ as, x ∈ A18) (hc : c ∈ Cs5) : Gz (4 / 5) as (prw (4 / 5) c)
theorem a18_19 {a : Rat} (h : a ∈ A18) : a ∈ A19 ∧ rabs a ≤ 3 / 4 := by
  have k : (A18.all fun a => A19.contains a && decide (rabs a ≤ 3 / 4)) = true := by decide +kernel
  have := List.all_eq_true.mp k a h
  rw [Bool.and_eq_true, decide_eq_true_eq] at this
  exact ⟨List.contains_iff_mem.mp this.1, this.2⟩
theorem l45_facts {x : Rat} (hx : x ∈ A18) {as : List Rat} (h : as ∈ L45 x) : as.length ≤ 3 ∧ (∀ a ∈ as, a ∈ A19 ∧ rabs a ≤ 4 / 5) ∧ lcd (prodF as) ≤ 175 := by
  have k : (A18.all fun x => (L45 x).all fun as => decide (as.length ≤ 3) && (as.all fun a => A19.contains a && decide (rabs a ≤ 4 / 5)) && decide (lcd (prodF as) ≤ 175)) = true := by decide +kernel
  have := List.all_eq_true.mp (List.all_eq_true.mp k x hx) as h
  rw [Bool.and_eq_true, Bool.and_eq_true, decide_eq_true_eq, decide_eq_true_eq] at this
  refine ⟨this.1.1, fun a ha => ?_, this.2⟩
  have z := List.all_eq_true.mp this.1.2 a ha
  rw [Bool.and_eq_true, decide_eq_true_eq] at z
  exact ⟨List.contains_iff_mem.mp z.1, z.2⟩
theorem l45_mem {x : Rat} {as : List Rat} (hl : as.length ≤ 3) (hm : ∀ a ∈ as, a = x ∨ a = -4 / 5) (h1 : as.count x ≤ 1) (h2 : as.count (-4 / 5) ≤ 2) : as ∈ L45 x := by
  refine List.mem_filter.mpr ⟨ls_mem hl fun a ha => ?_, ?_⟩
  · rcases hm a ha with h | h
    · rw [h]; exact List.mem_cons_self
    · rw [h]; exact List.mem_cons_of_mem _ List.mem_cons_self
  · rw [Bool.and_eq_true, decide_eq_true_eq, decide_eq_true_eq]
    exact ⟨h1, h2⟩
theorem l45_of {x : Rat} {as : List Rat} (h : as ∈ L45 x) : as.length ≤ 3 ∧ (∀ a ∈ as, a = x ∨ a = -4 / 5) ∧ as.count x ≤ 1 ∧ as.count (-4 / 5) ≤ 2 := by
  obtain ⟨h1, h2⟩ := List.mem_filter.mp h
  rw [Bool.and_eq_true, decide_eq_true_eq, decide_eq_true_eq] at h2
  have key : ∀ n, ∀ l : List Rat, l ∈ ls [x, -4 / 5] n → l.length ≤ n ∧ ∀ a ∈ l, a = x ∨ a = -4 / 5 := by
    intro n
    induction n with
    | zero =>
      intro l hl
      rw [List.mem_singleton.mp hl]
      exact ⟨Nat.le_refl 0, fun a ha => by cases ha⟩
    | succ n ih =>
      intro l hl
      rcases List.mem_cons.mp hl with rfl | hl
      · exact ⟨Nat.zero_le _, fun a ha => by cases ha⟩
      · obtain ⟨l', h1, h2⟩ := List.mem_flatMap.mp hl
        obtain ⟨b, hb, rfl⟩ := List.mem_map.mp h2
        obtain ⟨i1, i2⟩ := ih l' h1
        refine ⟨by show l'.length + 1 ≤ n + 1; omega, fun a ha => ?_⟩
        rcases List.mem_cons.mp ha with rfl | ha
        · simp only [List.mem_cons, List.not_mem_nil, or_false] at hb
          exact hb
        · exact i2 a ha
  obtain ⟨k1, k2⟩ := key 3 as h1
  exact ⟨k1, k2, h2.1, h2.2⟩
/-- the divisors keep a shape -/
theorem Gz.sub {r : Rat} {as p as1 as2 p1 p2 : List Rat} (h : Gz r as p) (hp : (as1 ++ as2).Perm as) (hs : (p1 = [1] ∧ p2 = p) ∨ (p1 = p ∧ p2 = [1])) : (∃ r1, Gz r1 as1 p1) ∧ ∃ r2, Gz r2 as2 p2 := by
  have hlen : as1.length + as2.length = as.length := by rw [← hp.length_eq, List.length_append]
  have m1 : ∀ a ∈ as1, a ∈ as := fun a h => hp.mem_iff.mp (List.mem_append_left _ h)
  have m2 : ∀ a ∈ as2, a ∈ as := fun a h => hp.mem_iff.mp (List.mem_append_right _ h)
  cases h with
  | a hl h =>
    have e : p1 = [1] ∧ p2 = [1] := by rcases hs with ⟨a, b⟩ | ⟨a, b⟩ <;> exact ⟨a, b⟩
    rw [e.1, e.2]
    exact ⟨⟨_, .a (by omega) fun x k => h x (m1 x k)⟩, _, .a (by omega) fun x k => h x (m2 x k)⟩
  | b hl h ht h34 hc =>
    rcases hs with ⟨a, b⟩ | ⟨a, b⟩ <;> rw [a, b]
    · exact ⟨⟨_, .a (by omega) fun x k => h x (m1 x k)⟩, _, .b (by omega) (fun x k => h x (m2 x k)) ht h34 hc⟩
    · exact ⟨⟨_, .b (by omega) (fun x k => h x (m1 x k)) ht h34 hc⟩, _, .a (by omega) fun x k => h x (m2 x k)⟩
  | @c _ x hx h =>
    obtain ⟨k1, k2, k3, k4⟩ := l45_of h
    have e : p1 = [1] ∧ p2 = [1] := by rcases hs with ⟨a, b⟩ | ⟨a, b⟩ <;> exact ⟨a, b⟩
    rw [e.1, e.2]
    have cnt : ∀ z : Rat, as1.count z + as2.count z = as.count z := fun z => by rw [← hp.count_eq, List.count_append]
    have c1 := cnt x
    have c2 := cnt (-4 / 5)
    exact ⟨⟨_, .c hx (l45_mem (by omega) (fun a ha => k2 a (m1 a ha)) (by omega) (by omega))⟩, _, .c hx (l45_mem (by omega) (fun a ha => k2 a (m2 a ha)) (by omega) (by omega))⟩
  | d hl h hc =>
    rcases hs with ⟨a, b⟩ | ⟨a, b⟩ <;> rw [a, b]
    · exact ⟨⟨_, .a (by omega) fun x k => h x (m1 x k)⟩, _, .d (by omega) (fun x k => h x (m2 x k)) hc⟩
    · exact ⟨⟨_, .d (by omega) (fun x k => h x (m1 x k)) hc⟩, _, .a (by omega) fun x k => h x (m2 x k)⟩
end DL
/-! DL60: 1 over a calm row's divisor, with its rate; bounds for widths to 10 ^ 6. -/
namespace DL
open PySem PySem.Spec PyProof.Rows L2
theorem cs5_len {t c : Rat} : prw t c ≠ [1] := fun z => absurd (congrArg List.length z) (by show ¬ 3 = 1; decide)
theorem Gz.sub3 {r : Rat} {as p u : List Rat} (G : Gz r as p) (tu : trimd u) (e : ∀ n, co u n = mu (prodF as) (co p) n) : Sub 3 u as p := by
  have p1 : pj [1] = 0 := if_pos rfl
  cases G with
  | a hl h => exact ⟨hl, fun x k => (a18_19 (h x k)).1, .inl rfl, .inl rfl, by omega, tu, e⟩
  | @b _ t c hl h ht h34 hc =>
    have : pj (prw t c) = 1 := if_neg cs5_len
    exact ⟨by omega, fun x k => (a18_19 (h x k)).1, .inr ⟨_, _, ht, hc, rfl⟩, .inr hl, by omega, tu, e⟩
  | c hx h =>
    obtain ⟨k1, k2, k3⟩ := l45_facts hx h
    exact ⟨k1, fun x k => (k2 x k).1, .inl rfl, .inl rfl, by omega, tu, e⟩
  | @d _ c hl h hc =>
    have : pj (prw (4 / 5) c) = 1 := if_neg cs5_len
    exact ⟨by omega, fun x k => (a18_19 (h x k)).1, .inr ⟨_, _, by decide +kernel, hc, rfl⟩, .inr hl, by omega, tu, e⟩
theorem Gz.rate {r : Rat} {as p : List Rat} (G : Gz r as p) : (r = 3 / 4 ∨ r = 4 / 5) ∧ (∀ a ∈ as, rabs a ≤ r) ∧ (p = [1] ∨ ∃ t c, t ∈ Ts ∧ c ∈ Cs5 ∧ t ≤ r ∧ p = prw t c) := by
  cases G with
  | a hl h => exact ⟨.inl rfl, fun x k => (a18_19 (h x k)).2, .inl rfl⟩
  | b hl h ht h34 hc => exact ⟨.inl rfl, fun x k => (a18_19 (h x k)).2, .inr ⟨_, _, ht, hc, h34, rfl⟩⟩
  | c hx h => exact ⟨.inr rfl, fun x k => ((l45_facts hx h).2.1 x k).2, .inl rfl⟩
  | d hl h hc => exact ⟨.inr rfl, fun x k => by have := (a18_19 (h x k)).2; grind, .inr ⟨_, _, by decide +kernel, hc, by decide +kernel, rfl⟩⟩
/-- at the rate 4/5 the common denominator is small -/
theorem Gz.lcd5 {as p u : List Rat} (G : Gz (4 / 5) as p) (tu : trimd u) (e : ∀ n, co u n = mu (prodF as) (co p) n) : lcd u ≤ 175 := by
  generalize hr : (4 / 5 : Rat) = r at G
  cases G with
  | a hl h => exact absurd hr (by decide +kernel)
  | b hl h ht h34 hc => exact absurd hr (by decide +kernel)
  | c hx h =>
    have : u = prodF _ := trimd_ext tu (prodF_trimd _) fun n => by rw [e n, co_one_dl, mu_dl]
    rw [this]
    exact (l45_facts hx h).2.2
  | @d _ c hl h hc =>
    have : u = pmul (prodF as) (prw (4 / 5) c) := trimd_ext tu (trim_trimd _) fun n => by rw [e n, co_pmul]
    rw [this]
    have k : ((ls A18 1).all fun as => Cs5.all fun c => decide (lcd (pmul (prodF as) (prw (4 / 5) c)) ≤ 175)) = true := by decide +kernel
    exact of_decide_eq_true (List.all_eq_true.mp (List.all_eq_true.mp k as (ls_mem hl h)) c hc)
theorem Gz.inv {r : Rat} {as p u : List Rat} (G : Gz r as p) (e : ∀ n, co u n = mu (prodF as) (co p) n) : ∃ X : Sq, (∀ n, mu u X n = dl n) ∧ ∀ n, rabs (X n) ≤ 5 / 4 * BR r (as.length + pj p) n := by
  obtain ⟨hr, ha, hp⟩ := G.rate
  have go : ∀ (P : Sq) (i : Nat), mu p P = dl → (∀ n, rabs (P n) ≤ 5 / 4 * BR r i n) → i = pj p → ∃ X : Sq, (∀ n, mu u X n = dl n) ∧ ∀ n, rabs (X n) ≤ 5 / 4 * BR r (as.length + pj p) n := by
    intro P i hP hb hi
    refine ⟨finv as P, fun n => ?_, fun n => ?_⟩
    · rw [mu_congr (ys := pmul (prodF as) p) (fun m => by rw [e m, co_pmul]), mu_und hP]
    · have := finv_absR ha hb n
      rw [Nat.add_comm as.length, ← hi]
      exact this
  rcases hp with h | ⟨t, c, ht, hc, htr, h⟩
  · refine go dl 0 (by rw [h]; funext n; exact mu_one_left dl n) (fun n => ?_) (by rw [h]; exact (if_pos rfl).symm)
    rw [rabs_of_nn (dl_nn n)]
    show dl n ≤ 5 / 4 * dl n
    have := dl_nn n
    grind
  · refine go (pinv t c) 1 (by rw [h]; exact mu_prw t c) (fun n => by rw [BR1]; exact pinv_leR ht hc htr n) (by rw [h]; exact (if_neg cs5_len).symm)
def kap (j : Nat) : Rat := if j ≤ 2 then 80 * 48 * (5 / 4) * (14 / 1000000000000000) else 80 * 48 * (5 / 4) * tiny
theorem four_pow {j : Nat} (h : j ≤ 3) : (4 : Rat) ^ j ≤ 64 := pow4 h
/-- numbers over a power, of any sequence so bounded -/
theorem fb_pow {u : List Rat} {X : Sq} (u0 : co u 0 = 1) (hX : ∀ n, mu u X n = dl n) (hb : ∀ k, rabs (X k) ≤ 160) (N k : Nat) (hk : k ≤ N) : FB (lcd u ^ N) (160 * lcd u ^ N) (X k) := by
  obtain ⟨z, hz⟩ := intX (D := lcd u) u0 (fun k => ⟨_, (numz_co u k).symm⟩) hX k
  have e : X k * (((lcd u ^ N : Nat) : Int) : Rat) = ((z * ((lcd u ^ (N - k) : Nat) : Int) : Int) : Rat) := by
    rw [Rat.intCast_mul, ← hz, show lcd u ^ N = lcd u ^ k * lcd u ^ (N - k) by rw [← Nat.pow_add]; congr 1; omega, Int.natCast_mul, Rat.intCast_mul]
    grind
  refine ⟨_, e, ?_⟩
  have hD : (0 : Rat) ≤ (((lcd u ^ N : Nat) : Int) : Rat) := by
    have : ((0 : Int) : Rat) ≤ (((lcd u ^ N : Nat) : Int) : Rat) := Rat.intCast_le_intCast.mpr (Int.natCast_nonneg _)
    exact this
  have b1 : X k ≤ 160 ∧ -160 ≤ X k := by
    have := hb k
    unfold rabs at this
    split at this <;> grind
  have p1 := Rat.mul_nonneg (show 0 ≤ X k + 160 by grind) hD
  have p2 := Rat.mul_nonneg (show 0 ≤ 160 - X k by grind) hD
  have e160 : ((160 : Int) : Rat) = 160 := rfl
  have em : ((-160 : Int) : Rat) = -160 := by decide +kernel
  have q1 : ((-160 * ((lcd u ^ N : Nat) : Int) : Int) : Rat) ≤ ((z * ((lcd u ^ (N - k) : Nat) : Int) : Int) : Rat) := by
    rw [← e, Rat.intCast_mul, em]
    grind
  have q2 : ((z * ((lcd u ^ (N - k) : Nat) : Int) : Int) : Rat) ≤ ((160 * ((lcd u ^ N : Nat) : Int) : Int) : Rat) := by
    rw [← e, Rat.intCast_mul, e160]
    grind
  have q3 := Rat.intCast_le_intCast.mp q1
  have q4 := Rat.intCast_le_intCast.mp q2
  omega
/-- the bounds of an answer over it -/
theorem Gz.kq {r : Rat} {as p u t : List Rat} {S : Rat} {many : Int} (G : Gz r as p) (tu : trimd u) (u0 : co u 0 = 1) (e : ∀ n, co u n = mu (prodF as) (co p) n) {X : Sq} (hX : ∀ n, mu u X n = dl n) (hb : ∀ n, rabs (X n) ≤ 5 / 4 * BR r (as.length + pj p) n)
    (tt : trimd t) (lt : t.length ≤ 6) {D M : Nat} (d1 : 0 < D ∧ D < 2 ^ 51 ∧ M < 2 ^ 51) (ft : ∀ k, FB D M (co t k)) (hS : (t.map rabs).sum ≤ S) (hk : S * kap (as.length + pj p) ≤ 9 / 10 * (1 / (many : Rat))) : ∃ J, Kq t u X many J := by
  have S3 := G.sub3 tu e
  have C := S3.chk
  have hj := S3.j
  have une := ne_of_head u0
  obtain ⟨⟨fu1, fu2⟩, fu3⟩ := sub_fu C
  have S0 : 0 ≤ S := by have := abs_sum_nn t; grind
  have hJ2 : ∀ n, BR r (as.length + pj p) n ≤ BR r 3 n := by
    rcases G.rate.1 with h | h <;> rw [h] <;> exact fun n => BR_le (by decide +kernel) hj n
  obtain ⟨hr, ha, hp⟩ := G.rate
  have tot1 : ∀ (q Z : Rat), 0 ≤ r → 1 ≤ q → q * r + 1 = q → 5 / 4 * q ^ (as.length + pj p) ≤ Z → ∀ n, tot (fun k => rabs (X k)) n ≤ Z := fun q Z h0 h1 h2 h3 n => by
    have a1 := tot_mono (f := fun k => rabs (X k)) (g := fun k => 5 / 4 * BR r (as.length + pj p) k) (n := n) fun k _ => hb k
    rw [tot_smul] at a1
    have a2 := BR_tot h0 h1 h2 (as.length + pj p) n
    grind
  have bnd : ∀ {Z : Rat}, (∀ n, tot (fun k => rabs (X k)) n ≤ Z) → Z ≤ 160 → ∀ k, rabs (X k) ≤ 160 := fun {Z} h hz k => by
    have e1 := h (k + 1)
    have e2 := tot_nn (f := fun k => rabs (X k)) (n := k) fun k => rabs_nn _
    have e3 : tot (fun k => rabs (X k)) (k + 1) = tot (fun k => rabs (X k)) k + rabs (X k) := rfl
    grind
  rcases hr with h | h
  · subst h
    have T1 := tot1 4 80 (by decide +kernel) (by decide +kernel) (by decide +kernel) (by have := four_pow hj; grind)
    have B1 := bnd T1 (by decide +kernel)
    have lp := lcd_pow C 128
    have p800 : (800 : Nat) ^ 128 < 2 ^ 1240 := by decide
    refine ⟨7, hX, une, u0, tu, tt, C.l, lt, by decide, ⟨1250, 51, D, M, lcd u, 2 ^ 11 - 1, lcd u ^ 128, 160 * lcd u ^ 128, ⟨by decide, by decide, by decide⟩, d1, ⟨fu1, fu2, by decide⟩, ⟨lp.1, upp (show lcd u ^ 128 < 2 ^ 1240 by omega) (by decide), upp (mulp (show 160 < 2 ^ 8 by decide) (show lcd u ^ 128 < 2 ^ 1240 by omega)) (by decide)⟩, ft, fu3, fun k hk2 => fb_pow u0 hX B1 128 k (by have : 2 ^ 7 = 128 := rfl; omega)⟩, C.s, ?_⟩
    by_cases h2 : as.length + pj p ≤ 2
    · refine ⟨S, 5 / 4 * (14 / 1000000000000000), 80, hS, T1, fun k k1 k2 => ?_, by decide +kernel, by decide +kernel, ?_⟩
      · have a1 := hb k
        have a2 := (BR_tail3 (n := k) k1 k2).2
        have a3 := BR_le (r := 3 / 4) (by decide +kernel) h2 k
        grind
      · unfold kap at hk
        rw [if_pos h2] at hk
        grind
    · refine ⟨S, 5 / 4 * tiny, 80, hS, T1, fun k k1 k2 => ?_, by decide +kernel, by decide +kernel, ?_⟩
      · have a1 := hb k
        have a2 := (BR_tail3 (n := k) k1 k2).1
        have a3 := hJ2 k
        grind
      · unfold kap at hk
        rw [if_neg h2] at hk
        grind
  · subst h
    have T1 := tot1 5 160 (by decide +kernel) (by decide +kernel) (by decide +kernel) (by have := five_pow hj; grind)
    have B1 := bnd T1 (by decide +kernel)
    have l175 := G.lcd5 tu e
    have lp : lcd u ^ 256 ≤ 175 ^ 256 := Nat.pow_le_pow_left l175 256
    have lp0 : 0 < lcd u ^ 256 := Nat.pow_pos (lcd_pos u)
    have p175 : (175 : Nat) ^ 256 < 2 ^ 1908 := by decide
    refine ⟨8, hX, une, u0, tu, tt, C.l, lt, by decide, ⟨1916, 51, D, M, lcd u, 2 ^ 11 - 1, lcd u ^ 256, 160 * lcd u ^ 256, ⟨by decide, by decide, by decide⟩, d1, ⟨fu1, fu2, by decide⟩, ⟨lp0, upp (show lcd u ^ 256 < 2 ^ 1908 by omega) (by decide), upp (mulp (show 160 < 2 ^ 8 by decide) (show lcd u ^ 256 < 2 ^ 1908 by omega)) (by decide)⟩, ft, fu3, fun k hk2 => fb_pow u0 hX B1 256 k (by have : 2 ^ 8 = 256 := rfl; omega)⟩, C.s, ?_⟩
    refine ⟨S, 5 / 4 * (1 / 100000000000000000000), 160, hS, T1, fun k k1 k2 => ?_, by decide +kernel, by decide +kernel, ?_⟩
    · have a1 := hb k
      have a2 := BR_tail4 (n := k) k1 k2
      have a3 := hJ2 k
      grind
    · have k0 : 160 * (24 * (5 / 4 * (1 / 100000000000000000000))) * 2 ≤ kap (as.length + pj p) := by
        unfold kap
        split <;> decide +kernel
      have := Rat.mul_nonneg S0 (show 0 ≤ kap (as.length + pj p) - 160 * (24 * (5 / 4 * (1 / 100000000000000000000))) * 2 by grind)
      grind
end DL
/-! DL61: the drawn answers in lowest terms, with bounds for every width. -/
namespace DL
open PySem PySem.Spec PyProof.Rows L2
theorem und_gz {u1 u2 : List Rat} (h1 : okCalm 1 u1) (h2 : okCalm 2 u2) : ∃ r as p, Gz r as p ∧ ∀ n, co (pmul u1 u2) n = mu (prodF as) (co p) n := by
  have at_ : ∀ t ∈ Ts, (-t ∈ A18 ∨ t = 4 / 5) ∧ prw t (-1) = prodF [-t, -t] ∧ (t ≤ 3 / 4 ∨ t = 4 / 5) := fun t h => by
    have k : (Ts.all fun t => (decide (-t ∈ A18) || decide (t = 4 / 5)) && decide (prw t (-1) = prodF [-t, -t]) && (decide (t ≤ 3 / 4) || decide (t = 4 / 5))) = true := by decide +kernel
    have := List.all_eq_true.mp k t h
    simp only [Bool.and_eq_true, Bool.or_eq_true, decide_eq_true_eq] at this
    exact ⟨this.1.1, this.1.2, this.2⟩
  have app : ∀ (as bs : List Rat) (f : Sq) (n : Nat), mu (prodF (as ++ bs)) f n = mu (prodF as) (mu (prodF bs) f) n := by
    intro as bs
    induction bs using snoc_ind with
    | h0 =>
      intro f n
      rw [List.append_nil]
      refine mu_local fun k _ => (mu_one_left f k).symm
    | h1 bs b ih =>
      intro f n
      rw [← List.append_assoc, prodF_snoc, mu_pmul, ih, prodF_snoc]
      exact mu_local fun k _ => (mu_pmul _ _ f k).symm
  rcases h1 with ⟨as1, l1, m1, rfl⟩ | ⟨h, _⟩
  · have mk : ∀ (as2 p : List Rat), (∀ n, co u2 n = mu (prodF as2) (co p) n) → ∀ n, co (pmul (prodF as1) u2) n = mu (prodF (as1 ++ as2)) (co p) n := fun as2 p e n => by
      rw [co_pmul, app]
      exact mu_local fun k _ => e k
    rcases h2 with ⟨as2, l2, m2, rfl⟩ | ⟨_, t, c, ht, hc, rfl⟩
    · exact ⟨_, _, _, .a (by rw [List.length_append]; omega) (fun x k => (List.mem_append.mp k).elim (m1 x) (m2 x)), mk as2 [1] fun n => by rw [co_one_dl, mu_dl]⟩
    · obtain ⟨k1, k2, k3⟩ := at_ t ht
      by_cases hm : c = -1
      · subst hm
        have e2 := mk [-t, -t] [1] fun n => by rw [k2, co_one_dl, mu_dl]
        rcases k1 with k1 | k1
        · refine ⟨_, _, _, .a (by rw [List.length_append]; show as1.length + 2 ≤ 3; omega) (fun x k => (List.mem_append.mp k).elim (m1 x) fun k => ?_), e2⟩
          simp only [List.mem_cons, List.not_mem_nil, or_false] at k
          rcases k with rfl | rfl <;> exact k1
        · subst k1
          have e45 : (-(4 / 5) : Rat) = -4 / 5 := by decide +kernel
          rw [e45] at e2
          have n45 : (-4 / 5 : Rat) ∉ A18 := by decide +kernel
          match as1, l1, m1 with
          | [], _, _ =>
            have h : ([] ++ [-4 / 5, -4 / 5] : List Rat) ∈ L45 (1 / 2) := by decide +kernel
            exact ⟨_, _, _, .c (by decide +kernel) h, e2⟩
          | [x], _, m1 =>
            have hx := m1 x List.mem_cons_self
            have hxn : x ≠ -4 / 5 := fun z => n45 (z ▸ hx)
            have k : (A18.all fun x => decide (([x] ++ [-4 / 5, -4 / 5] : List Rat) ∈ L45 x)) = true := by decide +kernel
            exact ⟨_, _, _, .c hx (of_decide_eq_true (List.all_eq_true.mp k x hx)), e2⟩
      · have hc5 : c ∈ Cs5 := by
          unfold okC at hc
          unfold Cs5
          simp only [List.mem_cons, List.not_mem_nil, or_false] at hc ⊢
          rcases hc with h | h | h | h | h | h <;> simp_all
        have e2 := mk [] (prw t c) fun n => (mu_one_left _ n).symm
        rw [List.append_nil] at e2
        rcases k3 with k3 | k3
        · exact ⟨_, _, _, .b l1 m1 ht k3 hc5, e2⟩
        · subst k3
          exact ⟨_, _, _, .d l1 m1 hc5, e2⟩
  · omega
/-- what is known of the answer in lowest terms -/
structure Aq (t u : List Rat) (X : Sq) : Prop where
  kq : ∀ many : Int, 1 ≤ many → many ≤ 1000000 → ∃ J, Kq t u X many J
  sc : ∀ y : Rat, FB 30 1500 y → ∃ J, Kq (pscale y t) u X 5 J
  sub : ∃ as p, Sub 3 u as p
  lt : t.length ≤ 3
  ft : ∃ D M : Nat, (0 < D ∧ D < 2 ^ 40 ∧ M < 2 ^ 40) ∧ ∀ k, FB D M (co t k)
  fx : ∀ N k, k ≤ N → FB (lcd u ^ N) (160 * lcd u ^ N) (X k)
  cop : Cop t u
  tne : t ≠ []
  tt : trimd t
theorem pscale_sum (y : Rat) (t : List Rat) : ((pscale y t).map rabs).sum = rabs y * (t.map rabs).sum := by
  have hl := pscale_len y t
  rw [abs_tot (pscale y t) hl, abs_tot t (Nat.le_refl _), ← tot_smul]
  exact tot_congr fun k _ => by rw [co_pscale, rabs_mul]
theorem div_many {many : Int} (h1 : 1 ≤ many) (h2 : many ≤ 1000000) : (1 : Rat) / 1000000 ≤ 1 / (many : Rat) := one_div_le h1 h2
theorem aq_of {top w t u g : List Rat} {r : Rat} {as p : List Rat} (T : Tp top) (hl : top.length ≤ 3) (tne : top ≠ []) (G : Gz r as p) (tw : trimd w) (ew : ∀ n, co w n = mu (prodF as) (co p) n) (w0 : co w 0 = 1) (N : Nf top w t u g) : ∃ X, Aq t u X := by
  have S := G.sub3 tw ew
  obtain ⟨as1, as2, p1, p2, hp, hs, e1, e2⟩ := splitP S.op (fun a k => (a19_facts (S.ma a k)).1) N.g0 N.u0 (fun n => by rw [← ew n]; exact N.eu n)
  obtain ⟨⟨r1, G1⟩, ⟨r2, G2⟩⟩ := G.sub hp hs
  have S1 := G1.sub3 N.tg e1
  have S2 := G2.sub3 N.tu e2
  obtain ⟨X, hX, hb⟩ := G2.inv e2
  obtain ⟨Y, hY, hc⟩ := G1.inv e1
  have C1 := S1.chk
  have tl : t.length ≤ top.length := (show Dvd t top from ⟨g, fun n => by rw [N.et n, mu_co_comm]⟩).len N.tt tne T.tt
  have t0 := N.tne tne T.tt
  -- sizes of the upper row, its sum
  have fS : ∃ (D M : Nat) (S : Rat), (0 < D ∧ D < 2 ^ 40 ∧ M < 2 ^ 40) ∧ (∀ k, FB D M (co t k)) ∧ (t.map rabs).sum ≤ S ∧ 0 ≤ S ∧ S * kap (as2.length + pj p2) ≤ 9 / 10 * (1 / 1000000) := by
    by_cases hg1 : g = [1]
    · have et : t = top := trimd_ext N.tt T.tt fun n => by rw [N.et n, hg1, mu_one_left]
      refine ⟨30, 1500, 150, ⟨by decide, by decide, by decide⟩, by rw [et]; exact T.ft, by rw [et]; exact sum_le3 T hl, by decide +kernel, ?_⟩
      unfold kap
      split <;> decide +kernel
    · have hlen : as1.length + as2.length = as.length := by rw [← hp.length_eq, List.length_append]
      have hj := S.j
      have hp1 : pj [1] = 0 := if_pos rfl
      have j2 : as2.length + pj p2 ≤ 2 := by
        by_cases hz : as1 = [] ∧ p1 = [1]
        · exact absurd (trimd_ext N.tg trimd_one fun n => by rw [e1 n, hz.1, hz.2]; exact mu_one_left _ n) hg1
        · by_cases h1 : as1 = []
          · have hpj : pj p1 = 1 := if_neg fun z => hz ⟨h1, z⟩
            rcases hs with ⟨a, b⟩ | ⟨a, b⟩
            · exact absurd a fun z => hz ⟨h1, z⟩
            · rw [b, hp1]
              rw [a] at hpj
              omega
          · have := List.length_pos_iff.mpr h1
            rcases hs with ⟨a, b⟩ | ⟨a, b⟩
            · rw [b]; omega
            · rw [b, hp1]; omega
      have e : ∀ n, co t n = mu top Y n := mu_inj (g := g) (by rw [N.g0]; decide) fun n => by
        rw [← N.et n, mu_comm, show mu g Y = dl from funext hY, mu_dl]
      have r1c := G1.rate.1
      have tot3 : tot (BR r1 (as1.length + pj p1)) 3 ≤ 725 / 100 := by
        have a1 : tot (BR r1 (as1.length + pj p1)) 3 ≤ tot (BR r1 3) 3 := tot_mono fun k _ => by
          rcases r1c with h | h <;> rw [h] <;> exact BR_le (by decide +kernel) S1.j k
        have a2 : tot (BR r1 3) 3 ≤ 725 / 100 := by rcases r1c with h | h <;> rw [h] <;> decide +kernel
        grind
      have y3 : tot (fun k => rabs (Y k)) 3 ≤ 5 / 4 * (725 / 100) := by
        have a2 := tot_mono (f := fun k => rabs (Y k)) (g := fun k => 5 / 4 * BR r1 (as1.length + pj p1) k) (n := 3) fun k _ => hc k
        rw [tot_smul] at a2
        grind
      have yb : ∀ k, k ≤ 2 → rabs (Y k) ≤ 160 := fun k hk => by
        have e3 := tot_le (f := fun k => rabs (Y k)) (fun k => rabs_nn _) (show k + 1 ≤ 3 by omega)
        have e4 := tot_nn (f := fun k => rabs (Y k)) (n := k) fun k => rabs_nn _
        have e5 : tot (fun k => rabs (Y k)) (k + 1) = tot (fun k => rabs (Y k)) k + rabs (Y k) := rfl
        grind
      have fy : ∀ k, k ≤ 2 → FB (lcd g ^ 2) (160 * lcd g ^ 2) (Y k) := fun k hk => by
        have hb3 : ∀ n, rabs (Y n) ≤ 5 / 4 * BW 3 n := fun n => by
          have a1 := hc n
          have a2 : BR r1 (as1.length + pj p1) n ≤ BW 3 n := by
            have b1 : ∀ j m, BR r1 j m ≤ BW j m := by
              intro j
              induction j with
              | zero => intro m; show dl m ≤ dl m; grind
              | succ j ih =>
                intro m
                have r0 : 0 ≤ r1 ∧ r1 ≤ 4 / 5 := by rcases r1c with h | h <;> rw [h] <;> decide +kernel
                exact geo_mono r0.1 r0.2 (BR_nn r0.1 j) ih m
            have b2 := b1 (as1.length + pj p1) n
            have b3 := BW_le S1.j n
            grind
          grind
        exact (sub_fx (X := Y) S1 (by decide) N.g0 hY hb3).2.2 2 k hk
      have pg := (lcd_pow C1 2).2
      have pg0 := (lcd_pow C1 2).1
      refine ⟨30 * lcd g ^ 2, 3 * (1500 * (160 * lcd g ^ 2)), 1360, ⟨by omega, by omega, by omega⟩, fun k => ?_, ?_, by decide +kernel, by unfold kap; rw [if_pos j2]; decide +kernel⟩
      · by_cases hk : k ≤ 2
        · rw [e k]
          exact (FB_mu (n := 2) T.ft fy hk).mono (Nat.mul_le_mul_right _ hl)
        · rw [co_ge (by omega)]
          exact FB.zero' _ _
      · rw [abs_tot t (show t.length ≤ 3 by omega), tot_congr fun k _ => by rw [e k]]
        have a1 := tot_mu_le top Y 3
        have a4 := sum_le3 T hl
        have a5 : 0 ≤ tot (fun k => rabs (Y k)) 3 := tot_nn fun k => rabs_nn _
        have a6 := Rat.mul_nonneg (show 0 ≤ 150 - (top.map rabs).sum by grind) a5
        grind
  obtain ⟨D, M, SS, ⟨d1, d2, d3⟩, ft, hS, S0, hk⟩ := fS
  have fxx : ∀ N k, k ≤ N → FB (lcd u ^ N) (160 * lcd u ^ N) (X k) := by
    obtain ⟨J, K⟩ := G2.kq N.tu N.u0 e2 hX hb N.tt (by omega) ⟨d1, upp d2 (by decide), upp d3 (by decide)⟩ ft hS (many := 1000000) hk
    obtain ⟨S', T', Z, h1, h2, _⟩ := K.tn
    refine fun N' k hk' => fb_pow N.u0 hX (fun k => ?_) N' k hk'
    have b1 := hb k
    have b2 : BR r2 (as2.length + pj p2) k ≤ 128 := by
      have tt' : tot (BR r2 (as2.length + pj p2)) (k + 1) ≤ 125 := by
        rcases G2.rate.1 with h | h <;> rw [h]
        · have := BR_tot (r := 3 / 4) (q := 4) (by decide +kernel) (by decide +kernel) (by decide +kernel) (as2.length + pj p2) (k + 1)
          have := four_pow S2.j
          grind
        · have := BR_tot (r := 4 / 5) (q := 5) (by decide +kernel) (by decide +kernel) (by decide +kernel) (as2.length + pj p2) (k + 1)
          have := five_pow S2.j
          grind
      have r0 : 0 ≤ r2 := by rcases G2.rate.1 with h | h <;> rw [h] <;> decide +kernel
      have nn := tot_nn (f := BR r2 (as2.length + pj p2)) (n := k) (BR_nn r0 _)
      have e3 : tot (BR r2 (as2.length + pj p2)) (k + 1) = tot (BR r2 (as2.length + pj p2)) k + BR r2 (as2.length + pj p2) k := rfl
      grind
    grind
  refine ⟨X, fun many h1 h2 => ?_, fun y hy => ?_, ⟨as2, p2, S2⟩, by omega, ⟨D, M, ⟨d1, d2, d3⟩, ft⟩, fxx, N.cop, t0, N.tt⟩
  · refine G2.kq N.tu N.u0 e2 hX hb N.tt (by omega) ⟨d1, upp d2 (by decide), upp d3 (by decide)⟩ ft hS ?_
    have := div_many h1 h2
    grind
  · have y50 := fb_abs hy
    have ls := pscale_len y t
    refine G2.kq N.tu N.u0 e2 hX hb (trim_trimd _) (by omega) (D := 30 * D) (M := 1500 * M) ⟨by omega, upp (mulp (show 30 < 2 ^ 5 by decide) d2) (by decide), upp (mulp (show 1500 < 2 ^ 11 by decide) d3) (by decide)⟩ (fun k => by rw [co_pscale]; exact hy.mul (ft k)) (S := 50 * SS) ?_ ?_
    · rw [pscale_sum]
      have a1 := abs_sum_nn t
      have a2 := Rat.mul_nonneg (show 0 ≤ 50 - rabs y by grind) S0
      have a3 := Rat.mul_nonneg (rabs_nn y) (show 0 ≤ SS - (t.map rabs).sum by grind)
      grind
    · have e5 : (1 : Rat) / (((5 : Int)) : Rat) = 1 / 5 := by decide +kernel
      rw [e5]
      grind
end DL
/-! DL62: the law's own bounds; answers as such. -/
namespace DL
open PySem PySem.Spec PyProof.Rows L2
section
variable {t u : List Rat} {X : Sq}
theorem eok_44 : ((List.range 7).all fun n => (List.range 5).all fun m => eOk 9 n m 51 11) = true := by decide +kernel
theorem ans_of {t u : List Rat} {as p : List Rat} {D M : Nat} (tt : trimd t) (tu : trimd u) (lt : t.length ≤ 6) (S : Sub 3 u as p) (u0 : co u 0 = 1) (d : 0 < D ∧ D < 2 ^ 51 ∧ M < 2 ^ 51) (ft : ∀ k, FB D M (co t k)) (tne : t ≠ []) (hc : Cop t u) : AnsOk t u := by
  have C := S.chk
  have l := C.l
  exact ⟨tt, tu, by omega, by omega, ne_of_head u0, u0, fun e => absurd e tne, fun _ => ⟨hc, 51, 11, 9, FB.rb ft d.1 d.2.1 d.2.2, sub_rb C, List.all_eq_true.mp (List.all_eq_true.mp eok_44 t.length (List.mem_range.mpr (by omega))) u.length (List.mem_range.mpr (by omega)), by decide, by decide⟩⟩
theorem Aq.ans (A : Aq t u X) : AnsOk t u := by
  obtain ⟨J, K⟩ := A.kq 1 (by decide) (by decide)
  obtain ⟨as, p, S⟩ := A.sub
  obtain ⟨D, M, ⟨d1, d2, d3⟩, ft⟩ := A.ft
  exact ans_of K.tt K.tu K.lt S K.one ⟨d1, upp d2 (by decide), upp d3 (by decide)⟩ ft A.tne A.cop
theorem pscale_ne {y : Rat} (hy : y ≠ 0) (tne : t ≠ []) (tt : trimd t) : pscale y t ≠ [] := fun e => by
  have h := co_pscale y t (t.length - 1)
  rw [e, co_ge (xs := []) (Nat.zero_le _)] at h
  exact (Rat.mul_eq_zero.mp h.symm).elim hy (trimd_last tne tt)
theorem Aq.anS (A : Aq t u X) {y : Rat} (fy : FB 30 1500 y) (hy : y ≠ 0) : AnsOk (pscale y t) u := by
  obtain ⟨J, K⟩ := A.sc y fy
  obtain ⟨as, p, S⟩ := A.sub
  obtain ⟨D, M, ⟨d1, d2, d3⟩, ft⟩ := A.ft
  refine ans_of (D := 30 * D) (M := 1500 * M) K.tt K.tu K.lt S K.one ⟨by omega, upp (mulp (show 30 < 2 ^ 5 by decide) d2) (by decide), upp (mulp (show 1500 < 2 ^ 11 by decide) d3) (by decide)⟩ (fun k => by rw [co_pscale]; exact fy.mul (ft k)) (pscale_ne hy A.tne A.tt) ?_
  refine Cop.of_dvd fun g tg a b => A.cop.dvd tg (a.unscale hy) b
theorem Aq.own (A : Aq t u X) : OwnOk t u := by
  obtain ⟨J, K⟩ := A.kq 1 (by decide) (by decide)
  obtain ⟨as, p, S⟩ := A.sub
  have C := S.chk
  obtain ⟨⟨u1, u2⟩, fu⟩ := sub_fu C
  obtain ⟨D, M, ⟨d1, d2, d3⟩, ft⟩ := A.ft
  have lp := lcd_pow C 24
  have q : (800 : Nat) ^ 24 < 2 ^ 240 := by decide
  have x2 : lcd u ^ 24 < 2 ^ 250 := upp (show lcd u ^ 24 < 2 ^ 240 by omega) (by decide)
  have x3 : 160 * lcd u ^ 24 < 2 ^ 250 := upp (mulp (show 160 < 2 ^ 8 by decide) (show lcd u ^ 24 < 2 ^ 240 by omega)) (by decide)
  have l4 := K.lu
  have l6 := K.lt
  have hl := rwn_len u 24
  have hx : ∀ k, FB (lcd u ^ 24) (160 * lcd u ^ 24) (co (rwn u 24) k) := fun k => by
    rw [K.ris]
    split
    · exact A.fx 24 k (by omega)
    · exact FB.zero' _ _
  have hne : rwn u 24 ≠ [] := fun e => by
    have h := K.ris 24 0
    rw [e, if_pos (by decide)] at h
    have i0 := K.inv 0
    rw [mu_cv] at i0
    have : (0 : Rat) = 1 := by
      have x0 : X 0 = 0 := by rw [← h]; rfl
      obtain ⟨a, l, ha⟩ : ∃ a l, u = a :: l := by
        cases hu : u with
        | nil => exact absurd hu K.ne
        | cons a l => exact ⟨a, l, rfl⟩
      have i1 := K.inv 0
      rw [ha] at i1
      have i2 : a * X 0 + 0 = 1 := i1
      rw [x0] at i2
      grind
    exact absurd this (by decide)
  have le := lenQ (under := u) l4 hl (by decide)
  have lp2 := pmul_len' t (rwn u 24)
  have fe : ∀ k, FB (lcd u * lcd u ^ 24) (lcd u * lcd u ^ 24 + 4 * ((2 ^ 11 - 1) * (160 * lcd u ^ 24))) (co (psub [1] (pmul u (rwn u 24))) k) := fun k => by
    rw [co_psub]
    refine FB.sub ?_ ?_
    · rw [co_one_dl]
      unfold dl
      split
      · exact FB.one _
      · exact FB.zero' _ _
    · rw [co_pmul, ← cv_mu]
      exact (FB.pc fu hx _ _).mono (Nat.mul_le_mul_right _ l4)
  have fm : ∀ k, FB (lcd u * lcd u ^ 24) (4 * ((2 ^ 11 - 1) * (160 * lcd u ^ 24))) (co (pmul u (rwn u 24)) k) := fun k => by
    rw [co_pmul, ← cv_mu]
    exact (FB.pc fu hx _ _).mono (Nat.mul_le_mul_right _ l4)
  have fp : ∀ k, FB (D * lcd u ^ 24) (6 * (M * (160 * lcd u ^ 24))) (co (pmul t (rwn u 24)) k) := fun k => by
    rw [co_pmul, ← cv_mu]
    exact (FB.pc ft hx _ _).mono (Nat.mul_le_mul_right _ l6)
  have a1 : lcd u * lcd u ^ 24 < 2 ^ (11 + 250) := mulp u2 x2
  have a2 : 4 * ((2 ^ 11 - 1) * (160 * lcd u ^ 24)) < 2 ^ (3 + (11 + 250)) := mulp (by decide) (mulp (by decide) x3)
  have a3 : lcd u * lcd u ^ 24 + 4 * ((2 ^ 11 - 1) * (160 * lcd u ^ 24)) < 2 ^ 265 := addp (upp a1 (by decide)) a2
  have a4 : 40 * (lcd u * lcd u ^ 24 + 4 * ((2 ^ 11 - 1) * (160 * lcd u ^ 24))) < 2 ^ (6 + 265) := mulp (by decide) a3
  have b1 : D * lcd u ^ 24 < 2 ^ (40 + 250) := mulp d2 x2
  have b2 : 6 * (M * (160 * lcd u ^ 24)) < 2 ^ (3 + (40 + 250)) := mulp (by decide) (mulp d3 x3)
  have b3 : 40 * (6 * (M * (160 * lcd u ^ 24))) < 2 ^ (6 + (3 + (40 + 250))) := mulp (by decide) b2
  have p1 : 0 < lcd u * lcd u ^ 24 := Nat.mul_pos u1 lp.1
  have p2 : 0 < D * lcd u ^ 24 := Nat.mul_pos d1 lp.1
  obtain ⟨_, ss⟩ := FB.sumOk (n := 40) (b := 1980) (abs_co_FB fe) (by rw [List.length_map]; omega) (by decide) p1 (upp a1 (by decide)) (upp a4 (by decide))
  obtain ⟨s1, _⟩ := FB.sumOk (n := 40) (b := 4000) (abs_co_FB fe) (by rw [List.length_map]; omega) (by decide) p1 (upp a1 (by decide)) (upp a4 (by decide))
  obtain ⟨_, su⟩ := FB.sumOk (n := 40) (b := 1980) (abs_co_FB fp) (by rw [List.length_map]; omega) (by decide) p2 (upp b1 (by decide)) (upp b3 (by decide))
  obtain ⟨s2, _⟩ := FB.sumOk (n := 40) (b := 4000) (abs_co_FB fp) (by rw [List.length_map]; omega) (by decide) p2 (upp b1 (by decide)) (upp b3 (by decide))
  refine ⟨K.ne, A.tne, by omega, by omega, serOkQ (a := 250) (by decide) K.ne K.one K.hy l4 fu (fun k hk => A.fx 24 k (by omega)) u1 lp.1 u2 (by decide) x2 x3,
    .of K.ne K.tu (by omega) (fun x h => mem_fb fu h) u1 (upp u2 (by decide)) (by decide), .of A.tne A.tt (by omega) (fun x h => mem_fb ft h) d1 (upp d2 (by decide)) (upp d3 (by decide)),
    .of hne (trim_trimd _) (by omega) (fun x h => mem_fb hx h) lp.1 (upp x2 (by decide)) (upp x3 (by decide)), fun x h => (mem_fb fm h).sm p1 (upp a1 (by decide)) (upp a2 (by decide)), s1, s2, ss, su⟩
/-- the first 12 numbers -/
theorem Aq.nums (A : Aq t u X) : serOk t u 12 ∧ (∀ k, co (DL.ser t u 12) k = if k < 12 then mu t X k else 0) ∧ ∃ D M : Nat, (0 < D ∧ D < 2 ^ 300 ∧ M < 2 ^ 300) ∧ ∀ k, FB D M (co (DL.ser t u 12) k) := by
  obtain ⟨J, K⟩ := A.kq 1 (by decide) (by decide)
  obtain ⟨as, p, S⟩ := A.sub
  have C := S.chk
  obtain ⟨⟨u1, u2⟩, fu⟩ := sub_fu C
  obtain ⟨D, M, ⟨d1, d2, d3⟩, ft⟩ := A.ft
  have lp := lcd_pow C 12
  have q : (800 : Nat) ^ 12 < 2 ^ 120 := by decide
  have l3 := A.lt
  have hy : ∀ n, mu u (mu t X) n = co t n := fun n => by rw [mu_comm, show mu u X = dl from funext K.inv, mu_dl]
  have s0 := serG (top := t) K.ne K.one hy 12
  have fy : ∀ k, k < 12 → FB (D * lcd u ^ 12) (3 * (M * (160 * lcd u ^ 12))) (mu t X k) := fun k hk => (FB_mu (n := 12) ft (fun j hj => A.fx 12 j hj) (by omega)).mono (Nat.mul_le_mul_right _ l3)
  have e1 : D * lcd u ^ 12 < 2 ^ 160 := mulp d2 (show lcd u ^ 12 < 2 ^ 120 by omega)
  have e2 : 3 * (M * (160 * lcd u ^ 12)) < 2 ^ (2 + (40 + (8 + 120))) := mulp (by decide) (mulp d3 (mulp (by decide) (show lcd u ^ 12 < 2 ^ 120 by omega)))
  refine ⟨serOkG K.ne K.one hy K.lu ft fu fy d1 u1 (Nat.mul_pos d1 lp.1) (upp d2 (by decide)) (upp d3 (by decide)) (upp u2 (by decide)) (by decide) (upp e1 (by decide)) (upp e2 (by decide)), s0, _, _, ⟨Nat.mul_pos d1 lp.1, upp e1 (by decide), upp e2 (by decide)⟩, fun k => ?_⟩
  rw [s0]
  split
  · exact fy k (by omega)
  · exact FB.zero' _ _
end
end DL
namespace DL
open PySem PySem.Spec PyProof.Rows L2
def dZERO : PyData := .tuple [.int 0, .int 1]
def dONE : PyData := .tuple [.int 1, .int 1]
def dUNIT : PyData := .tuple [dONE]
structure Fre (mg : PySem.Str → Option Value) : Prop where
  len : mg "len" = none
  abs : mg "abs" = none
  int : mg "int" = none
  list : mg "list" = none
  tuple : mg "tuple" = none
  all : mg "all" = none
  any : mg "any" = none
  sum : mg "sum" = none
  divmod : mg "divmod" = none
  max : mg "max" = none
  min : mg "min" = none
  repr : mg "repr" = none
  range : mg "range" = none
  reversed : mg "reversed" = none
  zip : mg "zip" = none
  enumerate : mg "enumerate" = none
  isinstance : mg "isinstance" = none
  bool : mg "bool" = none
  gcd : mg "gcd" = some (.builtin "math.gcd")
structure Csts (K : PySem.W.Frag) (mg : PySem.Str → Option Value) : Prop where
  k_ZERO : Cst K mg "ZERO" dZERO (.ref (He.ga K "ZERO"))
  k_ONE : Cst K mg "ONE" dONE (.ref (He.ga K "ONE"))
  k_UNIT : Cst K mg "UNIT" dUNIT (.ref (He.ga K "UNIT"))
  k_MOST_MANY : Cst K mg "MOST_MANY" (.int 1000000) (.int 1000000)
end DL
namespace DL
open PySem PySem.Spec PyProof.Rows L2
def sp__law_cut : FSpec := fun rs w k => ∃ r xs, rs = [r] ∧ isSeq r (xs.map fr) ∧ xs.length ≤ 1000 ∧ k (.d (row (trim xs))) w
def sp__law_deep : FSpec := fun rs w k => ∃ a b : Int, rs = [.d (.int a), .d (.int b)] ∧ k (.d (.int ((Nat.gcd a.natAbs b.natAbs : Nat) : Int))) w
def sp__law_low : FSpec := fun rs w k => ∃ a b : Int, rs = [.d (.int a), .d (.int b)] ∧ (b ≠ 0 ∧ b.natAbs < 2 ^ 9000) ∧ k (.d (fr ((a : Rat) / (b : Rat)))) w
def sp__law_prod : FSpec := sp2 (fun x y => sm 4000 x ∧ sm 4000 y) fun x y => x * y
def sp__law_times : FSpec := fun rs w k => ∃ (xs : List Rat) (a : Rat), rs = [.d (row xs), .d (fr a)] ∧ (xs.length ≤ 1000 ∧ sm 4000 a ∧ ∀ x ∈ xs, sm 4000 x) ∧ k (.d (row (pscale a xs))) w
def sp__law_per : FSpec := sp2 (fun x y => sm 4000 x ∧ sm 4000 y ∧ y ≠ 0) fun x y => x / y
def sp__law_lowest_one : FSpec := fun rs w k => ∃ xs : List Rat, rs = [.d (row xs)] ∧ (xs.length ≤ 1000 ∧ co xs 0 ≠ 0 ∧ ∀ x ∈ xs, sm 4000 x) ∧ k (.d (row (pscale (1 / co xs 0) xs))) w
def sp__law_minus : FSpec := sp2 (fun x y => sm 4000 x ∧ sm 4000 y) fun x y => x - y
def sp__law_parted : FSpec := fun rs w k => ∃ (xs ys : List Rat) (b1 b2 : Nat), rs = [.d (row xs), .d (row ys)] ∧ ((xs.length ≤ 1000 ∧ ys.length ≤ 1000) ∧ ys ≠ [] ∧ trimd ys ∧ RB b1 (co xs) ∧ RB b2 (co ys) ∧ b1 + (xs.length + 1 - ys.length + 1) * (b2 + 1) ≤ 4000) ∧ ∀ Q R : List Rat, Q.length ≤ xs.length + 1 - ys.length → R.length < ys.length → trimd Q → trimd R → (∀ n, co xs n = mu Q (co ys) n + co R n) → (∀ i, sm 4000 (co Q i)) → RB (b1 + (xs.length + 1 - ys.length) * (b2 + 1)) (co R) → k (.d (.tuple [row Q, row R])) w
def sp__law_common : FSpec := fun rs w k => ∃ (xs ys : List Rat) (b1 b2 f : Nat), rs = [.d (row xs), .d (row ys)] ∧ ((xs.length ≤ 1000 ∧ ys.length ≤ 1000) ∧ xs ≠ [] ∧ trimd xs ∧ trimd ys ∧ co ys 0 ≠ 0 ∧ RB b1 (co xs) ∧ RB b2 (co ys) ∧ eOk f xs.length ys.length b1 b2 = true) ∧ ∀ g, trimd g → co g 0 = 1 → IsG xs ys g → k (.d (row g)) w
def sp__law_answer : FSpec := fun rs w k => ∃ (top under : List Rat) (b1 b2 bg f : Nat), rs = [.d (row top), .d (row under)] ∧ NmOk top under b1 b2 bg f ∧ ∀ t u g, Nf top under t u g → (∀ x ∈ t, sm 4000 x) → (∀ x ∈ u, sm 4000 x) → k (.d (.tuple [row t, row u])) w
def sp__law_draw : FSpec := fun rs w k => ∃ (t : Int) (n : Nat), rs = [.w, .d (.int t)] ∧ (0 < t ∧ t ≤ 1000 ∧ wok n w ∧ n ≤ 100000) ∧ ∀ r w2, 0 ≤ r → r < t → wok (n + 1) w2 → k (.d (.int r)) w2
def sp__law_pick : FSpec := fun rs w k => ∃ (xs : List PyData) (n : Nat), rs = [.w, .d (.list xs)] ∧ (xs ≠ [] ∧ xs.length ≤ 1000 ∧ wok n w ∧ n ≤ 100000) ∧ ∀ z w2, z ∈ xs → wok (n + 1) w2 → k (.d z) w2
def sp_divisor_of : FSpec := fun rs w k => ∃ a b : Int, rs = [.d (.tuple [.int a, .int b])] ∧ k (.d (.int ((Nat.gcd a.natAbs b.natAbs : Nat) : Int))) w
def sp_lowest : FSpec := fun rs w k => ∃ a b : Int, rs = [.d (.tuple [.int a, .int b])] ∧ (0 < b ∧ b.natAbs < 2 ^ 9000) ∧ k (.d (fr ((a : Rat) / (b : Rat)))) w
def sp_ratio : FSpec := fun rs w k => ∃ a b : Int, rs = [.d (.int a), .d (.int b)] ∧ (b ≠ 0 ∧ b.natAbs < 2 ^ 9000) ∧ k (.d (fr ((a : Rat) / (b : Rat)))) w
def sp_plus : FSpec := sp2 (fun x y => sm 4000 x ∧ sm 4000 y) fun x y => x + y
def sp_total : FSpec := fun rs w k => ∃ xs : List Rat, rs = [.d (.list (xs.map fr))] ∧ sumOk 4000 xs ∧ k (.d (fr xs.sum)) w
def sp_size_of : FSpec := fun rs w k => ∃ x : Rat, rs = [.d (fr x)] ∧ k (.d (fr (rabs x))) w
def sp_sizes_by : FSpec := fun rs w k => ∃ xs : List Rat, rs = [.d (row xs)] ∧ (xs.length ≤ 1000 ∧ sumOk 4000 (xs.map rabs)) ∧ k (.d (fr (xs.map rabs).sum)) w
def sp_trimmed : FSpec := fun rs w k => ∃ r xs, rs = [r] ∧ isSeq r (xs.map fr) ∧ k (.d (row (trim xs))) w
def sp_minus : FSpec := sp2 (fun x y => sm 4000 x ∧ sm 4000 y) fun x y => x - y
def sp_number_at : FSpec := fun rs w k => ∃ (xs : List Rat) (i : Int), rs = [.d (row xs), .d (.int i)] ∧ 0 ≤ i ∧ k (.d (fr (co xs i.toNat))) w
def sp_lessened : FSpec := fun rs w k => ∃ xs ys : List Rat, rs = [.d (row xs), .d (row ys)] ∧ ((xs.length ≤ 1000 ∧ ys.length ≤ 1000) ∧ (∀ i, sm 4000 (co xs i)) ∧ ∀ i, sm 4000 (co ys i)) ∧ k (.d (row (psub xs ys))) w
def sp_is_below : FSpec := fun rs w k => ∃ x y : Rat, rs = [.d (fr x), .d (fr y)] ∧ (sm 9000 x ∧ sm 9000 y) ∧ k (.d (.bool (decide (x < y)))) w
def sp_times : FSpec := sp2 (fun x y => sm 4000 x ∧ sm 4000 y) fun x y => x * y
def sp_multiplied : FSpec := fun rs w k => ∃ xs ys : List Rat, rs = [.d (row xs), .d (row ys)] ∧ ((xs.length ≤ 500 ∧ ys.length ≤ 500) ∧ (∀ i, sm 4000 (co xs i)) ∧ (∀ i, sm 4000 (co ys i)) ∧ (∀ i j, sm 4000 (co xs i * co ys j)) ∧ ∀ i k, sm 4000 (pc xs ys i k)) ∧ k (.d (row (pmul xs ys))) w
def sp_over : FSpec := sp2 (fun x y => sm 4000 x ∧ sm 4000 y ∧ y ≠ 0) fun x y => x / y
def sp_bounds_by : FSpec := fun rs w k => ∃ top under x : List Rat, rs = [.d (.tuple [row top, row under]), .d (row x)] ∧ BOk2 top under x ∧ k (.d (bnds top under x)) w
def sp_scaled : FSpec := fun rs w k => ∃ (a : Rat) (xs : List Rat), rs = [.d (fr a), .d (row xs)] ∧ (xs.length ≤ 1000 ∧ sm 4000 a ∧ ∀ x ∈ xs, sm 4000 x) ∧ k (.d (row (pscale a xs))) w
def sp_first_of : FSpec := fun rs w k => ∃ (xs : List Rat) (x : Rat), rs = [.d (row xs)] ∧ (xs.length ≤ 1000 ∧ (xs.filter fun y => !decide (y = 0)).head? = some x) ∧ k (.d (fr x)) w
def sp_parted_by : FSpec := fun rs w k => ∃ (xs ys : List Rat) (b1 b2 : Nat), rs = [.d (row xs), .d (row ys)] ∧ ((xs.length ≤ 1000 ∧ ys.length ≤ 1000) ∧ ys ≠ [] ∧ trimd ys ∧ RB b1 (co xs) ∧ RB b2 (co ys) ∧ b1 + (xs.length + 1 - ys.length + 1) * (b2 + 1) ≤ 4000) ∧ ∀ Q R : List Rat, Q.length ≤ xs.length + 1 - ys.length → R.length < ys.length → trimd Q → trimd R → (∀ n, co xs n = mu Q (co ys) n + co R n) → (∀ i, sm 4000 (co Q i)) → RB (b1 + (xs.length + 1 - ys.length) * (b2 + 1)) (co R) → k (.d (.tuple [row Q, row R])) w
def sp_divisor_by : FSpec := fun rs w k => ∃ (xs ys : List Rat) (b1 b2 f : Nat), rs = [.d (row xs), .d (row ys)] ∧ ((xs.length ≤ 1000 ∧ ys.length ≤ 1000) ∧ xs ≠ [] ∧ trimd xs ∧ trimd ys ∧ co ys 0 ≠ 0 ∧ RB b1 (co xs) ∧ RB b2 (co ys) ∧ eOk f xs.length ys.length b1 b2 = true) ∧ ∀ g, trimd g → co g 0 = 1 → IsG xs ys g → k (.d (row g)) w
def sp_quotient_of : FSpec := fun rs w k => ∃ (xs ys : List Rat) (b1 b2 : Nat), rs = [.d (row xs), .d (row ys)] ∧ ((xs.length ≤ 1000 ∧ ys.length ≤ 1000) ∧ ys ≠ [] ∧ trimd ys ∧ RB b1 (co xs) ∧ RB b2 (co ys) ∧ b1 + (xs.length + 1 - ys.length + 1) * (b2 + 1) ≤ 4000) ∧ ∀ Q R : List Rat, Q.length ≤ xs.length + 1 - ys.length → R.length < ys.length → trimd Q → trimd R → (∀ n, co xs n = mu Q (co ys) n + co R n) → (∀ i, sm 4000 (co Q i)) → k (.d (row Q)) w
def sp_normal_of : FSpec := fun rs w k => ∃ (top under : List Rat) (b1 b2 bg f : Nat), rs = [.d (row top), .d (row under)] ∧ NmOk top under b1 b2 bg f ∧ ∀ t u g, Nf top under t u g → (∀ x ∈ t, sm 4000 x) → (∀ x ∈ u, sm 4000 x) → k (.d (.tuple [row t, row u])) w
def sp_is_whole : FSpec := fun rs w k => ∃ a : Int, rs = [.d (.int a)] ∧ k (.d (.bool true)) w
def sp_are_wholes : FSpec := fun rs w k => ∃ a b : Int, rs = [.d (.tuple [.int a, .int b]), .d (.int 2)] ∧ k (.d (.bool true)) w
def sp_is_ratio : FSpec := fun rs w k => ∃ x : Rat, rs = [.d (fr x)] ∧ k (.d (.bool true)) w
def sp_is_row : FSpec := fun rs w k => ∃ xs : List Rat, rs = [.d (row xs)] ∧ (xs.length ≤ 1000 ∧ trimd xs) ∧ k (.d (.bool true)) w
def sp_is_led_by : FSpec := fun rs w k => ∃ xs : List Rat, rs = [.d (row xs)] ∧ k (.d (.bool (decide (xs ≠ [] ∧ co xs 0 = 1)))) w
def sp_is_led : FSpec := fun rs w k => ∃ xs : List Rat, rs = [.d (row xs)] ∧ (xs.length ≤ 1000 ∧ trimd xs ∧ xs ≠ [] ∧ co xs 0 = 1) ∧ k (.d (.bool true)) w
def sp_is_answer : FSpec := fun rs w k => ∃ top under : List Rat, rs = [.d (.tuple [row top, row under])] ∧ AnsOk top under ∧ k (.d (.bool true)) w
def sp_check_answer : FSpec := fun rs w k => ∃ top under : List Rat, rs = [.d (.tuple [row top, row under])] ∧ AnsOk top under ∧ k (.d .none) w
def sp_is_between : FSpec := fun rs w k => ∃ a b c : Int, rs = [.d (.int a), .d (.int b), .d (.int c)] ∧ k (.d (.bool (decide (b ≤ a ∧ a ≤ c)))) w
def sp_check_many : FSpec := fun rs w k => ∃ a : Int, rs = [.d (.int a)] ∧ (1 ≤ a ∧ a ≤ 1000000) ∧ k (.d .none) w
def sp_are_near : FSpec := fun rs w k => ∃ (top under x : List Rat) (many : Int), rs = [.d (bnds top under x), .d (.int many)] ∧ ((1 ≤ many ∧ many ≤ 1000000) ∧ sm 1980 (share under x) ∧ sm 1980 (upper top x)) ∧ ((near top under x many → k (.d (.bool true)) w) ∧ (¬ near top under x many → k (.d (.bool false)) w))
def sp_numbers_by : FSpec := fun rs w k => ∃ (top under : List Rat) (many : Int), rs = [.d (.tuple [row top, row under]), .d (.int many)] ∧ (0 ≤ many ∧ many ≤ 1000 ∧ under ≠ [] ∧ under.length ≤ 500 ∧ serOk top under many.toNat) ∧ k (.d (row (ser top under many.toNat))) w
def sp_bounding_by : FSpec := fun rs w k => ∃ (top under : List Rat) (many : Int) (J : Nat), rs = [.d (.tuple [row top, row under]), .d (.int many)] ∧ ((1 ≤ many ∧ many ≤ 1000000) ∧ under ≠ [] ∧ under.length ≤ 400 ∧ BdOk2 top under many J) ∧ ∀ i, i ≤ J → isJ top under many i → k (.d (row (rwn under (2 ^ i)))) w
def sp_next_numbers : FSpec := fun rs w k => ∃ (xs : List Rat) (b : Rat), rs = [.a (xs.map fr), .d (fr b)] ∧ (xs.length ≤ 1000 ∧ xs ≠ [] ∧ sm 900 b ∧ b * b ≠ 1 ∧ ∀ x ∈ xs, sm 900 x) ∧ k (.l ((nextN xs b).map fr)) w
def sp_led_by : FSpec := fun rs w k => ∃ xs : List Rat, rs = [.d (row xs)] ∧ (xs ≠ [] ∧ co xs 0 = 1 ∧ xs.length ≤ 1000 ∧ trimd xs ∧ ∀ x ∈ xs, sm 4000 x) ∧ k (.d (row xs)) w
def sp_bends_by : FSpec := fun rs w k => ∃ xs : List Rat, rs = [.d (row xs)] ∧ (xs ≠ [] ∧ co xs 0 = 1 ∧ trimd xs ∧ xs.length ≤ 60 ∧ bendsOk xs.length xs = true) ∧ ∀ ys, k (.d (.tuple ys)) w
def sp_is_steady_by : FSpec := fun rs w k => ∃ xs : List Rat, rs = [.d (row xs)] ∧ (xs ≠ [] ∧ co xs 0 = 1 ∧ trimd xs ∧ xs.length ≤ 60 ∧ bendsOk xs.length xs = true) ∧ k (.d (.bool true)) w
def sp_worst_row : FSpec := fun rs w k => ∃ (top under : List Rat) (many : Int) (J : Nat), rs = [.d (.tuple [row top, row under]), .d (.int many)] ∧ ((1 ≤ many ∧ many ≤ 1000000) ∧ AnsOk top under ∧ bendsOk under.length under = true ∧ BdOk2 top under many J) ∧ ∀ i, i ≤ J → isJ top under many i → k (.d (row (rwn under (2 ^ i)))) w
def sp_worst_near : FSpec := fun rs w k => ∃ (top under : List Rat) (many : Int) (J : Nat), rs = [.d (.tuple [row top, row under]), .d (.int many)] ∧ ((1 ≤ many ∧ many ≤ 1000000) ∧ AnsOk top under ∧ bendsOk under.length under = true ∧ BdOk2 top under many J) ∧ ∀ i, i ≤ J → isJ top under many i → k (.d (.tuple [fr (loB top under (rwn under (2 ^ i))), fr (hiB top under (rwn under (2 ^ i)))])) w
def sp__law_plus : FSpec := sp2 (fun x y => sm 4000 x ∧ sm 4000 y) fun x y => x + y
def sp__law_add : FSpec := fun rs w k => ∃ xs ys : List Rat, rs = [.d (row xs), .d (row ys)] ∧ (xs.length ≤ 500 ∧ ys.length ≤ 500 ∧ (∀ x ∈ xs, sm 4000 x) ∧ ∀ y ∈ ys, sm 4000 y) ∧ k (.d (row (trim (padd xs ys)))) w
def sp__law_less : FSpec := fun rs w k => ∃ xs ys : List Rat, rs = [.d (row xs), .d (row ys)] ∧ (xs.length ≤ 500 ∧ ys.length ≤ 500 ∧ (∀ x ∈ xs, sm 4000 x) ∧ ∀ y ∈ ys, sm 4000 y) ∧ k (.d (row (psub xs ys))) w
def sp__law_numbers : FSpec := fun rs w k => ∃ (top under : List Rat) (many : Int), rs = [.d (.tuple [row top, row under]), .d (.int many)] ∧ (0 ≤ many ∧ many ≤ 1000 ∧ under ≠ [] ∧ under.length ≤ 500 ∧ serOk top under many.toNat) ∧ k (.l ((ser top under many.toNat).map fr)) w
def sp__law_ints : FSpec := fun rs w k => ∃ xs : List Rat, rs = [.d (row xs)] ∧ (xs.length ≤ 1000 ∧ (∀ x ∈ xs, sm 4000 x) ∧ ∀ i, lcd (xs.take i) < 2 ^ 4000) ∧ k (.d (.tuple [.list ((numz xs).map PyData.int), .int (lcd xs : Int)])) w
def sp__law_mul : FSpec := fun rs w k => ∃ xs ys : List Rat, rs = [.d (row xs), .d (row ys)] ∧ (MulZ xs ∧ MulZ ys) ∧ k (.d (row (pmul xs ys))) w
def sp__law_all : FSpec := fun rs w k => ∃ xs : List Rat, rs = [.d (.list (xs.map fr))] ∧ sumOk 4000 xs ∧ k (.d (fr xs.sum)) w
def sp__law_size : FSpec := fun rs w k => ∃ x : Rat, rs = [.d (fr x)] ∧ k (.d (fr (rabs x))) w
def sp__law_sizes : FSpec := fun rs w k => ∃ (r : Rv) (xs : List Rat), rs = [r] ∧ isSeq r (xs.map fr) ∧ (xs.length ≤ 1000 ∧ sumOk 4000 (xs.map rabs)) ∧ k (.d (fr (xs.map rabs).sum)) w
def sp__law_below : FSpec := fun rs w k => ∃ x y : Rat, rs = [.d (fr x), .d (fr y)] ∧ (sm 9000 x ∧ sm 9000 y) ∧ k (.d (.bool (decide (x < y)))) w
def sp__law_own_bounds : FSpec := fun rs w k => ∃ (top under : List Rat), rs = [.d (.tuple [row top, row under]), .d (.int 24)] ∧ (OwnOk top under) ∧ k (.d (bnds top under (rwn under 24))) w
def sp__law_some : FSpec := fun rs w k => ∃ n : Nat, rs = [.w] ∧ (wok n w ∧ n ≤ 90000) ∧ ∀ x w2, okN x → x ≠ 0 → wok (n + 4) w2 → k (.d (fr x)) w2
def sp__law_any : FSpec := fun rs w k => ∃ n : Nat, rs = [.w] ∧ (wok n w ∧ n ≤ 90000) ∧ ∀ x w2, okN x → wok (n + 3) w2 → k (.d (fr x)) w2
def sp__law_row : FSpec := fun rs w k => ∃ (m : Int) (n : Nat), rs = [.w, .d (.int m)] ∧ (0 < m ∧ m ≤ 20 ∧ wok n w ∧ n ≤ 80000) ∧ ∀ xs w2, (∀ x ∈ xs, okN x) → trimd xs → xs ≠ [] → (xs.length : Int) ≤ m → wok (n + 100) w2 → k (.d (row xs)) w2
def sp__law_is_int : FSpec := fun rs w k => ∃ a : Int, rs = [.d (.int a)] ∧ k (.d (.bool true)) w
def sp__law_is_part : FSpec := fun rs w k => ∃ x : Rat, rs = [.d (fr x)] ∧ k (.d (.bool true)) w
def sp__law_are_bounds : FSpec := fun rs w k => ∃ (lo hi : Rat) (m : Int), rs = [.d (.tuple [fr lo, fr hi]), .d (.int m)] ∧ (1 ≤ m ∧ m ≤ 1000000 ∧ sm 4000 lo ∧ sm 4000 hi) ∧ (sm 9000 (hi - lo) ∧ ¬ 1 / (m : Rat) < hi - lo ∧ lo ≤ hi) ∧ k (.d (.bool true)) w
def sp__law_do_meet : FSpec := fun rs w k => ∃ a b c d : Rat, rs = [.d (.tuple [fr a, fr b]), .d (.tuple [fr c, fr d])] ∧ ((sm 9000 a ∧ sm 9000 b ∧ sm 9000 c ∧ sm 9000 d) ∧ c ≤ b ∧ a ≤ d) ∧ k (.d (.bool true)) w
def sp__law_pair_factor : FSpec := fun rs w k => ∃ t c : Rat, rs = [.d (fr t), .d (fr c)] ∧ (sm 100 t ∧ sm 100 c) ∧ k (.d (row (prw t c))) w
def sp__law_within : FSpec := fun rs w k => ∃ (v : Int) (n : Nat), rs = [.w, .d (.int v)] ∧ (3 ≤ v ∧ v ≤ 5 ∧ wok n w ∧ n ≤ 90000) ∧ ∀ x w2, okW v x → wok (n + 4) w2 → k (.d (fr x)) w2
def sp__law_factor : FSpec := fun rs w k => ∃ z : Rat, rs = [.d (fr z)] ∧ (z ≠ 0 ∧ sm 4000 z) ∧ k (.d (row [1, -1 / z])) w
def sp__law_beyond : FSpec := fun rs w k => ∃ n : Nat, rs = [.w] ∧ (wok n w ∧ n ≤ 90000) ∧ ∀ z w2, okZ (rabs z) → wok (n + 3) w2 → k (.d (fr z)) w2
def sp__law_calm : FSpec := fun rs w k => ∃ m n : Nat, rs = [.w, .d (.int (m : Int))] ∧ (1 ≤ m ∧ m ≤ 2 ∧ wok n w ∧ n ≤ 80000) ∧ ∀ u w2, okCalm m u → wok (n + 100) w2 → k (.d (row u)) w2
def sp__law_same : FSpec := fun rs w k => ∃ a b : Rat, rs = [.d (.tuple [fr a, fr b]), .d (.tuple [fr a, fr b])] ∧ k (.d (.bool true)) w
def sp__law_right : FSpec := fun rs w k => rs = [.w] ∧ wok 0 w ∧ ∀ w2, k (.d (.bool true)) w2
def sp__law_well : FSpec := fun rs w k => ∃ (ns : List Int) (i : Int), rs = [.d (.list (ns.map PyData.int)), .d (.int i)] ∧ (0 ≤ i ∧ i ≤ 100 ∧ ns.length ≤ 1000) ∧ ∀ a b : Int, 0 ≤ a → 0 ≤ b → b < 2147483648 → k (.l [.int a, .int b, .int 0]) w
def sp_law : FSpec := fun rs w k => ∃ ns : List Int, rs = [.d (.list (ns.map PyData.int))] ∧ ns.length ≤ 63 ∧ ∀ w2, k (.d (.bool true)) w2
end DL
namespace DL
open PySem PySem.Spec PyProof.Rows L2
def dt__law_cut : TSD := (dSeq (dSet 1 (dCB fLen (daCons (dVar 0) daNil))) (dSeq (dFor (diRng1 (dCB fLen (daCons (dVar 0) daNil))) (tgN 2) (dIfS (dAndT (dTst (dOp fGt (dVar 1) (dC (.int 0)))) (dTst (dOp (fEq false) (dOp fIx (dOp fIx (dVar 0) (dOp (fI0 fun i j => .int (i - j)) (dVar 1) (dC (.int 1)))) (dC (.int 0))) (dC (.int 0))))) (dSet 1 (dOp (fI0 fun i j => .int (i - j)) (dVar 1) (dC (.int 1)))) dNext)) (dRet (dCB fTuple (daCons (dSl (dVar 0) doNone (doSome (dVar 1))) daNil)))))
def dt__law_deep : TSD := (dSeq (dPar 0 1 (dCB (f1I fun i => (i.natAbs : Int)) (daCons (dVar 0) daNil)) (dCB (f1I fun i => (i.natAbs : Int)) (daCons (dVar 1) daNil))) (dSeq (dWhile (dTst (dOp (fEq true) (dVar 1) (dC (.int 0)))) (dPar 0 1 (dVar 1) (dOp (fI (fun _ j => 0 < j) fun i j => .int (i % j)) (dCB (f1I fun i => i) (daCons (dVar 0) daNil)) (dVar 1)))) (dRetV 0)))
def dt__law_low : TSD := (dSeq (dSet 2 (dIf (dTst (dOp fGt (dVar 1) (dC (.int 0)))) (dCall 2 sp__law_deep (daCons (dVar 0) (daCons (dVar 1) daNil))) (dOp (fI0 fun i j => .int (i - j)) (dC (.int 0)) (dCall 2 sp__law_deep (daCons (dVar 0) (daCons (dVar 1) daNil)))))) (dRet (dTup (ddCons (dOp (fI CDivX fun i j => .int (i.fdiv j)) (dVar 0) (dVar 2)) (ddCons (dOp (fI CDivX fun i j => .int (i.fdiv j)) (dVar 1) (dVar 2)) ddNil)))))
def dt__law_prod : TSD := (dRet (dCall 2 sp__law_low (daCons (dOp (fI CMulW fun i j => .int (i * j)) (dOp fIx (dVar 0) (dC (.int 0))) (dOp fIx (dVar 1) (dC (.int 0)))) (daCons (dOp (fI CMulW fun i j => .int (i * j)) (dOp fIx (dVar 0) (dC (.int 1))) (dOp fIx (dVar 1) (dC (.int 1)))) daNil))))
def dt__law_times : TSD := (dRet (dCall 1 sp__law_cut (daCons (dComp [2] (diSeq (dVar 0)) (tgN 2) dYes (dCall 2 sp__law_prod (daCons (dVar 2) (daCons (dVar 1) daNil)))) daNil)))
def dt__law_per : TSD := (dRet (dCall 2 sp__law_low (daCons (dOp (fI CMulW fun i j => .int (i * j)) (dOp fIx (dVar 0) (dC (.int 0))) (dOp fIx (dVar 1) (dC (.int 1)))) (daCons (dOp (fI CMulW fun i j => .int (i * j)) (dOp fIx (dVar 0) (dC (.int 1))) (dOp fIx (dVar 1) (dC (.int 0)))) daNil))))
def dt__law_lowest_one : TSD := (dSeq (dSet 1 (dComp [2] (diSeq (dVar 0)) (tgN 2) (dTst (dOp (fEq true) (dOp fIx (dVar 2) (dC (.int 0))) (dC (.int 0)))) (dVar 2))) (dRet (dCall 2 sp__law_times (daCons (dVar 0) (daCons (dCall 2 sp__law_per (daCons (dTup (ddCons (dC (.int 1)) (ddCons (dC (.int 1)) ddNil))) (daCons (dOp fIx (dVar 1) (dC (.int 0))) daNil))) daNil)))))
def dt__law_minus : TSD := (dRet (dCall 2 sp__law_low (daCons (dOp (fI0 fun i j => .int (i - j)) (dOp (fI CMulW fun i j => .int (i * j)) (dOp fIx (dVar 0) (dC (.int 0))) (dOp fIx (dVar 1) (dC (.int 1)))) (dOp (fI CMulW fun i j => .int (i * j)) (dOp fIx (dVar 1) (dC (.int 0))) (dOp fIx (dVar 0) (dC (.int 1))))) (daCons (dOp (fI CMulW fun i j => .int (i * j)) (dOp fIx (dVar 0) (dC (.int 1))) (dOp fIx (dVar 1) (dC (.int 1)))) daNil))))
def dt__law_parted : TSD := (dSeq (dPar 2 3 (dCB fList (daCons (dVar 0) daNil)) (dLst ddNil)) (dSeq (dFor (diRng1 (dOp (fI0 fun i j => .int (i + j)) (dOp (fI0 fun i j => .int (i - j)) (dCB fLen (daCons (dVar 0) daNil)) (dCB fLen (daCons (dVar 1) daNil))) (dC (.int 1)))) (tgN 4) (dSeq (dPar 5 6 (dCall 2 sp__law_per (daCons (dOp fIx (dVar 2) (dUn (fU fun i => -i) (dC (.int 1)))) (daCons (dOp fIx (dVar 1) (dUn (fU fun i => -i) (dC (.int 1)))) daNil))) (dOp (fI0 fun i j => .int (i - j)) (dCB fLen (daCons (dVar 2) daNil)) (dCB fLen (daCons (dVar 1) daNil)))) (dSeq (dSet 3 (dOp fCat (dLst (ddCons (dVar 5) ddNil)) (dVar 3))) (dSet 2 (dComp [7] (diRng1 (dOp (fI0 fun i j => .int (i - j)) (dCB fLen (daCons (dVar 2) daNil)) (dC (.int 1)))) (tgN 7) dYes (dIf (dTst (dOp fGe (dVar 7) (dVar 6))) (dCall 2 sp__law_minus (daCons (dOp fIx (dVar 2) (dVar 7)) (daCons (dCall 2 sp__law_prod (daCons (dVar 5) (daCons (dOp fIx (dVar 1) (dOp (fI0 fun i j => .int (i - j)) (dVar 7) (dVar 6))) daNil))) daNil))) (dOp fIx (dVar 2) (dVar 7)))))))) (dRet (dTup (ddCons (dCall 1 sp__law_cut (daCons (dVar 3) daNil)) (ddCons (dCall 1 sp__law_cut (daCons (dVar 2) daNil)) ddNil))))))
def dt__law_common : TSD := (dSeq (dWhile (dTst (dOp (fEq true) (dVar 1) (dTup ddNil))) (dSeq (dSet 2 (dOp fIx (dCall 2 sp__law_parted (daCons (dVar 0) (daCons (dVar 1) daNil))) (dC (.int 1)))) (dPar 0 1 (dVar 1) (dIf (dTst (dOp (fEq true) (dVar 2) (dTup ddNil))) (dCall 2 sp__law_times (daCons (dVar 2) (daCons (dCall 2 sp__law_per (daCons (dTup (ddCons (dC (.int 1)) (ddCons (dC (.int 1)) ddNil))) (daCons (dOp fIx (dVar 2) (dUn (fU fun i => -i) (dC (.int 1)))) daNil))) daNil))) (dTup ddNil))))) (dRet (dCall 1 sp__law_lowest_one (daCons (dVar 0) daNil))))
def dt__law_answer : TSD := (dSeq (dIfS (dTst (dOp (fEq false) (dVar 0) (dTup ddNil))) (dRet (dTup (ddCons (dTup ddNil) (ddCons (dTup (ddCons (dTup (ddCons (dC (.int 1)) (ddCons (dC (.int 1)) ddNil))) ddNil)) ddNil)))) dNext) (dSeq (dSet 2 (dCall 2 sp__law_common (daCons (dVar 0) (daCons (dVar 1) daNil)))) (dSeq (dPar 0 1 (dOp fIx (dCall 2 sp__law_parted (daCons (dVar 0) (daCons (dVar 2) daNil))) (dC (.int 0))) (dOp fIx (dCall 2 sp__law_parted (daCons (dVar 1) (daCons (dVar 2) daNil))) (dC (.int 0)))) (dSeq (dSet 3 (dCall 2 sp__law_per (daCons (dTup (ddCons (dC (.int 1)) (ddCons (dC (.int 1)) ddNil))) (daCons (dOp fIx (dVar 1) (dC (.int 0))) daNil)))) (dRet (dTup (ddCons (dCall 2 sp__law_times (daCons (dVar 0) (daCons (dVar 3) daNil))) (ddCons (dCall 2 sp__law_times (daCons (dVar 1) (daCons (dVar 3) daNil))) ddNil))))))))
def dt__law_draw : TSD := (dSeq (dIfS (dTst (dOp fGt (dWix 0 0) (dC (.int 0)))) (dSeq (dWset2 0 0 2 (dCB fDivmod (daCons (dWix 0 0) (daCons (dVar 1) daNil)))) (dRetV 2)) dNext) (dSeq (dWset 0 2 (dOp (fI0 fun i j => .int (i + j)) (dWix 0 2) (dC (.int 1)))) (dSeq (dSet 3 (dOp (fI0 fun i j => .int (i + j)) (dC (.int 25013)) (dOp (fI CMulW fun i j => .int (i * j)) (dC (.int 10)) (dCB (f1I fun i => i) (daCons (dWix 0 2) daNil))))) (dSeq (dWset 0 1 (dOp (fI (fun _ j => 0 < j) fun i j => .int (i % j)) (dCB (f1I fun i => i) (daCons (dOp (fI0 fun i j => .int (i + j)) (dOp (fI0 fun i j => .int (i + j)) (dOp (fI CMulW fun i j => .int (i * j)) (dWix 0 1) (dVar 3)) (dOp (fI CMulW fun i j => .int (i * j)) (dC (.int 50021)) (dWix 0 2))) (dC (.int 7))) daNil)) (dC (.int 2147483543)))) (dRet (dOp (fI (fun _ j => 0 < j) fun i j => .int (i % j)) (dCB (f1I fun i => i) (daCons (dOp (fI CDivX fun i j => .int (i.fdiv j)) (dWix 0 1) (dC (.int 103))) daNil)) (dVar 1)))))))
def dt__law_pick : TSD := (dRet (dOp fIx (dVar 1) (dCall 2 sp__law_draw (daCons (dVar 0) (daCons (dCB fLen (daCons (dVar 1) daNil)) daNil)))))
def dt_divisor_of : TSD := (dSeq (dSet 1 (dC (.int 0))) (dSeq (dFor (diSeq (dVar 0)) (tgN 2) (dSet 1 (dCB (f2I fun i j => ((Nat.gcd i.natAbs j.natAbs : Nat) : Int)) (daCons (dVar 1) (daCons (dVar 2) daNil))))) (dRetV 1)))
def dt_lowest : TSD := (dSeq (dSet 1 (dCall 1 sp_divisor_of (daCons (dVar 0) daNil))) (dRet (dIf (dTst (dOp (fEq false) (dVar 1) (dC (.int 0)))) (dCB fTuple (daCons (dVar 0) daNil)) (dCB fTuple (daCons (dComp [2] (diSeq (dVar 0)) (tgN 2) dYes (dOp (fI CDivX fun i j => .int (i.fdiv j)) (dVar 2) (dVar 1))) daNil)))))
def dt_ratio : TSD := (dRet (dIf (dTst (dOp fGt (dVar 1) (dC (.int 0)))) (dCall 1 sp_lowest (daCons (dTup (ddCons (dVar 0) (ddCons (dVar 1) ddNil))) daNil)) (dCall 1 sp_lowest (daCons (dTup (ddCons (dUn (fU fun i => -i) (dVar 0)) (ddCons (dUn (fU fun i => -i) (dVar 1)) ddNil))) daNil))))
def dt_plus : TSD := (dRet (dCall 2 sp_ratio (daCons (dOp (fI0 fun i j => .int (i + j)) (dOp (fI CMulW fun i j => .int (i * j)) (dOp fIx (dVar 0) (dC (.int 0))) (dOp fIx (dVar 1) (dC (.int 1)))) (dOp (fI CMulW fun i j => .int (i * j)) (dOp fIx (dVar 1) (dC (.int 0))) (dOp fIx (dVar 0) (dC (.int 1))))) (daCons (dOp (fI CMulW fun i j => .int (i * j)) (dOp fIx (dVar 0) (dC (.int 1))) (dOp fIx (dVar 1) (dC (.int 1)))) daNil))))
def dt_total : TSD := (dSeq (dSet 1 (dC dZERO)) (dSeq (dFor (diSeq (dVar 0)) (tgN 2) (dSet 1 (dCall 2 sp_plus (daCons (dVar 1) (daCons (dVar 2) daNil))))) (dRetV 1)))
def dt_size_of : TSD := (dRet (dTup (ddCons (dCB (f1I fun i => (i.natAbs : Int)) (daCons (dOp fIx (dVar 0) (dC (.int 0))) daNil)) (ddCons (dOp fIx (dVar 0) (dC (.int 1))) ddNil))))
def dt_sizes_by : TSD := (dRet (dCall 1 sp_total (daCons (dComp [1] (diSeq (dVar 0)) (tgN 1) dYes (dCall 1 sp_size_of (daCons (dVar 1) daNil))) daNil)))
def dt_trimmed : TSD := (dSeq (dSet 1 (dCB fList (daCons (dVar 0) daNil))) (dSeq (dWhile (dAndT (dTst (dOp (fEq true) (dVar 1) (dLst ddNil))) (dTst (dOp (fEq false) (dOp fIx (dVar 1) (dUn (fU fun i => -i) (dC (.int 1)))) (dC dZERO)))) (dPop 1)) (dRet (dCB fTuple (daCons (dVar 1) daNil)))))
def dt_minus : TSD := (dRet (dCall 2 sp_ratio (daCons (dOp (fI0 fun i j => .int (i - j)) (dOp (fI CMulW fun i j => .int (i * j)) (dOp fIx (dVar 0) (dC (.int 0))) (dOp fIx (dVar 1) (dC (.int 1)))) (dOp (fI CMulW fun i j => .int (i * j)) (dOp fIx (dVar 1) (dC (.int 0))) (dOp fIx (dVar 0) (dC (.int 1))))) (daCons (dOp (fI CMulW fun i j => .int (i * j)) (dOp fIx (dVar 0) (dC (.int 1))) (dOp fIx (dVar 1) (dC (.int 1)))) daNil))))
def dt_number_at : TSD := (dRet (dIf (dTst (dOp fLt (dVar 1) (dCB fLen (daCons (dVar 0) daNil)))) (dOp fIx (dVar 0) (dVar 1)) (dC dZERO)))
def dt_lessened : TSD := (dSeq (dSet 2 (dCB (f2I fun i j => max i j) (daCons (dCB fLen (daCons (dVar 0) daNil)) (daCons (dCB fLen (daCons (dVar 1) daNil)) daNil)))) (dRet (dCall 1 sp_trimmed (daCons (dComp [3] (diRng1 (dVar 2)) (tgN 3) dYes (dCall 2 sp_minus (daCons (dCall 2 sp_number_at (daCons (dVar 0) (daCons (dVar 3) daNil))) (daCons (dCall 2 sp_number_at (daCons (dVar 1) (daCons (dVar 3) daNil))) daNil)))) daNil))))
def dt_is_below : TSD := (dRet (dOp fLt (dOp (fI CMulW fun i j => .int (i * j)) (dOp fIx (dVar 0) (dC (.int 0))) (dOp fIx (dVar 1) (dC (.int 1)))) (dOp (fI CMulW fun i j => .int (i * j)) (dOp fIx (dVar 1) (dC (.int 0))) (dOp fIx (dVar 0) (dC (.int 1))))))
def dt_times : TSD := (dRet (dCall 2 sp_ratio (daCons (dOp (fI CMulW fun i j => .int (i * j)) (dOp fIx (dVar 0) (dC (.int 0))) (dOp fIx (dVar 1) (dC (.int 0)))) (daCons (dOp (fI CMulW fun i j => .int (i * j)) (dOp fIx (dVar 0) (dC (.int 1))) (dOp fIx (dVar 1) (dC (.int 1)))) daNil))))
def dt_multiplied : TSD := (dSeq (dSet 2 (dOp fRep (dLst (ddCons (dC dZERO) ddNil)) (dOp (fI0 fun i j => .int (i + j)) (dCB fLen (daCons (dVar 0) daNil)) (dCB fLen (daCons (dVar 1) daNil))))) (dSeq (dFor (diEnumT (dVar 0)) (tgTup 2 (tgCons (tgN 3) (tgCons (tgN 4) tgNil))) (dFor (diEnumT (dVar 1)) (tgTup 2 (tgCons (tgN 5) (tgCons (tgN 6) tgNil))) (dSetIx 2 (dOp (fI0 fun i j => .int (i + j)) (dVar 3) (dVar 5)) (dCall 2 sp_plus (daCons (dOp fIx (dVar 2) (dOp (fI0 fun i j => .int (i + j)) (dVar 3) (dVar 5))) (daCons (dCall 2 sp_times (daCons (dVar 4) (daCons (dVar 6) daNil))) daNil)))))) (dRet (dCall 1 sp_trimmed (daCons (dVar 2) daNil)))))
def dt_over : TSD := (dRet (dCall 2 sp_ratio (daCons (dOp (fI CMulW fun i j => .int (i * j)) (dOp fIx (dVar 0) (dC (.int 0))) (dOp fIx (dVar 1) (dC (.int 1)))) (daCons (dOp (fI CMulW fun i j => .int (i * j)) (dOp fIx (dVar 0) (dC (.int 1))) (dOp fIx (dVar 1) (dC (.int 0)))) daNil))))
def dt_bounds_by : TSD := (dSeq (dAsg (dVar 0) (tgTup 2 (tgCons (tgN 2) (tgCons (tgN 3) tgNil)))) (dSeq (dSet 4 (dCall 1 sp_sizes_by (daCons (dCall 2 sp_lessened (daCons (dC dUNIT) (daCons (dCall 2 sp_multiplied (daCons (dVar 3) (daCons (dVar 1) daNil))) daNil))) daNil))) (dSeq (dIfS (dNotT (dTst (dCall 2 sp_is_below (daCons (dVar 4) (daCons (dC dONE) daNil))))) (dRet (dC .none)) dNext) (dSeq (dSet 5 (dCall 1 sp_sizes_by (daCons (dCall 2 sp_multiplied (daCons (dVar 2) (daCons (dVar 1) daNil))) daNil))) (dRet (dTup (ddCons (dCall 2 sp_over (daCons (dVar 5) (daCons (dCall 2 sp_plus (daCons (dC dONE) (daCons (dVar 4) daNil))) daNil))) (ddCons (dCall 2 sp_over (daCons (dVar 5) (daCons (dCall 2 sp_minus (daCons (dC dONE) (daCons (dVar 4) daNil))) daNil))) ddNil))))))))
def dt_scaled : TSD := (dRet (dCall 1 sp_trimmed (daCons (dComp [2] (diSeq (dVar 1)) (tgN 2) dYes (dCall 2 sp_times (daCons (dVar 0) (daCons (dVar 2) daNil)))) daNil)))
def dt_first_of : TSD := (dRet (dOp fIx (dComp [1] (diSeq (dVar 0)) (tgN 1) (dTst (dOp (fEq true) (dVar 1) (dC dZERO))) (dVar 1)) (dC (.int 0))))
def dt_parted_by : TSD := (dSeq (dPar 2 3 (dCB fList (daCons (dVar 0) daNil)) (dOp fRep (dLst (ddCons (dC dZERO) ddNil)) (dCB (f2I fun i j => max i j) (daCons (dC (.int 0)) (daCons (dOp (fI0 fun i j => .int (i + j)) (dOp (fI0 fun i j => .int (i - j)) (dCB fLen (daCons (dVar 0) daNil)) (dCB fLen (daCons (dVar 1) daNil))) (dC (.int 1))) daNil))))) (dSeq (dFor (diRevR (dCB fLen (daCons (dVar 3) daNil))) (tgN 4) (dSeq (dSetIx 3 (dVar 4) (dCall 2 sp_over (daCons (dOp fIx (dVar 2) (dOp (fI0 fun i j => .int (i - j)) (dOp (fI0 fun i j => .int (i + j)) (dVar 4) (dCB fLen (daCons (dVar 1) daNil))) (dC (.int 1)))) (daCons (dOp fIx (dVar 1) (dUn (fU fun i => -i) (dC (.int 1)))) daNil)))) (dFor (diEnumT (dVar 1)) (tgTup 2 (tgCons (tgN 5) (tgCons (tgN 6) tgNil))) (dSetIx 2 (dOp (fI0 fun i j => .int (i + j)) (dVar 4) (dVar 5)) (dCall 2 sp_minus (daCons (dOp fIx (dVar 2) (dOp (fI0 fun i j => .int (i + j)) (dVar 4) (dVar 5))) (daCons (dCall 2 sp_times (daCons (dOp fIx (dVar 3) (dVar 4)) (daCons (dVar 6) daNil))) daNil))))))) (dRet (dTup (ddCons (dCall 1 sp_trimmed (daCons (dVar 3) daNil)) (ddCons (dCall 1 sp_trimmed (daCons (dVar 2) daNil)) ddNil))))))
def dt_divisor_by : TSD := (dSeq (dWhile (dTst (dOp (fEq true) (dVar 1) (dTup ddNil))) (dPar 0 1 (dVar 1) (dOp fIx (dCall 2 sp_parted_by (daCons (dVar 0) (daCons (dVar 1) daNil))) (dC (.int 1))))) (dRet (dCall 2 sp_scaled (daCons (dCall 2 sp_over (daCons (dC dONE) (daCons (dCall 1 sp_first_of (daCons (dVar 0) daNil)) daNil))) (daCons (dVar 0) daNil)))))
def dt_quotient_of : TSD := (dRet (dOp fIx (dCall 2 sp_parted_by (daCons (dVar 0) (daCons (dVar 1) daNil))) (dC (.int 0))))
def dt_normal_of : TSD := (dSeq (dIfS (dTst (dOp (fEq false) (dVar 0) (dTup ddNil))) (dRet (dTup (ddCons (dTup ddNil) (ddCons (dC dUNIT) ddNil)))) dNext) (dSeq (dSet 2 (dCall 2 sp_divisor_by (daCons (dVar 0) (daCons (dVar 1) daNil)))) (dSeq (dPar 0 1 (dCall 2 sp_quotient_of (daCons (dVar 0) (daCons (dVar 2) daNil))) (dCall 2 sp_quotient_of (daCons (dVar 1) (daCons (dVar 2) daNil)))) (dSeq (dSet 3 (dCall 2 sp_over (daCons (dC dONE) (daCons (dOp fIx (dVar 1) (dC (.int 0))) daNil)))) (dRet (dTup (ddCons (dCall 2 sp_scaled (daCons (dVar 3) (daCons (dVar 0) daNil))) (ddCons (dCall 2 sp_scaled (daCons (dVar 3) (daCons (dVar 1) daNil))) ddNil))))))))
def dt_is_whole : TSD := (dRet (dAndV (dIsI "int" (dVar 0)) (dNotV (dIsI "bool" (dVar 0)))))
def dt_are_wholes : TSD := (dRet (dAndV (dIsI "tuple" (dVar 0)) (dAndV (dOp (fEq false) (dCB fLen (daCons (dVar 0) daNil)) (dVar 1)) (dCB (fBools fun bs => bs.all id) (daCons (dComp [2] (diSeq (dVar 0)) (tgN 2) dYes (dCall 1 sp_is_whole (daCons (dVar 2) daNil))) daNil)))))
def dt_is_ratio : TSD := (dRet (dAndV (dCall 2 sp_are_wholes (daCons (dVar 0) (daCons (dC (.int 2)) daNil))) (dAndV (dOp fGt (dOp fIx (dVar 0) (dC (.int 1))) (dC (.int 0))) (dOp (fEq false) (dCall 1 sp_divisor_of (daCons (dVar 0) daNil)) (dC (.int 1))))))
def dt_is_row : TSD := (dSeq (dIfS (dOrT (dNotT (dTst (dIsI "tuple" (dVar 0)))) (dNotT (dTst (dCB (fBools fun bs => bs.all id) (daCons (dComp [1] (diSeq (dVar 0)) (tgN 1) dYes (dCall 1 sp_is_ratio (daCons (dVar 1) daNil))) daNil))))) (dRet (dC (.bool false))) dNext) (dRet (dOrV (dOp (fEq false) (dVar 0) (dTup ddNil)) (dOp (fEq true) (dOp fIx (dVar 0) (dUn (fU fun i => -i) (dC (.int 1)))) (dC dZERO)))))
def dt_is_led_by : TSD := (dRet (dAndV (dOp (fEq true) (dVar 0) (dTup ddNil)) (dOp (fEq false) (dOp fIx (dVar 0) (dC (.int 0))) (dC dONE))))
def dt_is_led : TSD := (dRet (dAndV (dCall 1 sp_is_row (daCons (dVar 0) daNil)) (dCall 1 sp_is_led_by (daCons (dVar 0) daNil))))
def dt_is_answer : TSD := (dSeq (dIfS (dOrT (dNotT (dTst (dIsI "tuple" (dVar 0)))) (dOrT (dTst (dOp (fEq true) (dCB fLen (daCons (dVar 0) daNil)) (dC (.int 2)))) (dOrT (dNotT (dTst (dCall 1 sp_is_row (daCons (dOp fIx (dVar 0) (dC (.int 0))) daNil)))) (dNotT (dTst (dCall 1 sp_is_led (daCons (dOp fIx (dVar 0) (dC (.int 1))) daNil))))))) (dRet (dC (.bool false))) dNext) (dRet (dOp (fEq false) (dCall 2 sp_normal_of (daCons (dOp fIx (dVar 0) (dC (.int 0))) (daCons (dOp fIx (dVar 0) (dC (.int 1))) daNil))) (dVar 0))))
def dt_check_answer : TSD := (dIfS (dNotT (dTst (dCall 1 sp_is_answer (daCons (dVar 0) daNil)))) dNever dNext)
def dt_is_between : TSD := (dRet (dAndV (dCall 1 sp_is_whole (daCons (dVar 0) daNil)) (dAndV (dOp fLe (dVar 1) (dVar 0)) (dOp fLe (dVar 0) (dVar 2)))))
def dt_check_many : TSD := (dIfS (dNotT (dTst (dCall 3 sp_is_between (daCons (dVar 0) (daCons (dC (.int 1)) (daCons (dC (.int 1000000)) daNil)))))) dNever dNext)
def dt_are_near : TSD := (dRet (dAndV (dIsN true (dVar 0)) (dNotV (dCall 2 sp_is_below (daCons (dTup (ddCons (dC (.int 1)) (ddCons (dVar 1) ddNil))) (daCons (dCall 2 sp_minus (daCons (dOp fIx (dVar 0) (dC (.int 1))) (daCons (dOp fIx (dVar 0) (dC (.int 0))) daNil))) daNil))))))
def dt_numbers_by : TSD := (dSeq (dAsg (dVar 0) (tgTup 2 (tgCons (tgN 2) (tgCons (tgN 3) tgNil)))) (dSeq (dSet 4 (dLst ddNil)) (dSeq (dFor (diRng1 (dVar 1)) (tgN 5) (dSeq (dSet 6 (dCall 2 sp_number_at (daCons (dVar 2) (daCons (dVar 5) daNil)))) (dSeq (dFor (diRng2 (dC (.int 1)) (dOp (fI0 fun i j => .int (i + j)) (dCB (f2I fun i j => min i j) (daCons (dVar 5) (daCons (dOp (fI0 fun i j => .int (i - j)) (dCB fLen (daCons (dVar 3) daNil)) (dC (.int 1))) daNil))) (dC (.int 1)))) (tgN 7) (dSet 6 (dCall 2 sp_minus (daCons (dVar 6) (daCons (dCall 2 sp_times (daCons (dOp fIx (dVar 3) (dVar 7)) (daCons (dOp fIx (dVar 4) (dOp (fI0 fun i j => .int (i - j)) (dVar 5) (dVar 7))) daNil))) daNil))))) (dAppend 4 (dVar 6))))) (dRet (dCB fTuple (daCons (dVar 4) daNil))))))
def dt_bounding_by : TSD := (dSeq (dPar 2 3 (dC dUNIT) (dC (.int 1))) (dSeq (dWhile (dNotT (dTst (dCall 2 sp_are_near (daCons (dCall 2 sp_bounds_by (daCons (dVar 0) (daCons (dVar 2) daNil))) (daCons (dVar 1) daNil))))) (dSeq (dSet 3 (dOp (fI CMulW fun i j => .int (i * j)) (dC (.int 2)) (dVar 3))) (dSet 2 (dCall 1 sp_trimmed (daCons (dCall 2 sp_numbers_by (daCons (dTup (ddCons (dC dUNIT) (ddCons (dOp fIx (dVar 0) (dC (.int 1))) ddNil))) (daCons (dVar 3) daNil))) daNil))))) (dRetV 2)))
def dt_next_numbers : TSD := (dSeq (dSet 2 (dCall 2 sp_minus (daCons (dC dONE) (daCons (dCall 2 sp_times (daCons (dVar 1) (daCons (dVar 1) daNil))) daNil)))) (dSeq (dSet 3 (dRevL (dVar 0))) (dFz 3 (dRet (dComp [4, 5] (diZip (dSl (dVar 0) doNone (doSome (dUn (fU fun i => -i) (dC (.int 1))))) (dVar 3)) (tgTup 2 (tgCons (tgN 4) (tgCons (tgN 5) tgNil))) dYes (dCall 2 sp_over (daCons (dCall 2 sp_minus (daCons (dVar 4) (daCons (dCall 2 sp_times (daCons (dVar 1) (daCons (dVar 5) daNil))) daNil))) (daCons (dVar 2) daNil))))))))
def dt_led_by : TSD := (dRet (dCall 2 sp_scaled (daCons (dCall 2 sp_over (daCons (dC dONE) (daCons (dOp fIx (dVar 0) (dC (.int 0))) daNil))) (daCons (dVar 0) daNil))))
def dt_bends_by : TSD := (dSeq (dIfS (dTst (dOp (fEq false) (dOp fIx (dVar 0) (dC (.int 0))) (dC dZERO))) (dRet (dC .none)) dNext) (dSeq (dPar 1 2 (dCB fList (daCons (dCall 1 sp_led_by (daCons (dVar 0) daNil)) daNil)) (dLst ddNil)) (dSeq (dWhile (dTst (dOp fGt (dCB fLen (daCons (dVar 1) daNil)) (dC (.int 1)))) (dSeq (dSet 3 (dOp fIx (dVar 1) (dUn (fU fun i => -i) (dC (.int 1))))) (dSeq (dIfS (dTst (dOp fGe (dCB (f1I fun i => (i.natAbs : Int)) (daCons (dOp fIx (dVar 3) (dC (.int 0))) daNil)) (dOp fIx (dVar 3) (dC (.int 1))))) (dRet (dC .none)) dNext) (dSeq (dAppend 2 (dVar 3)) (dSet 1 (dCall 2 sp_next_numbers (daCons (dVar 1) (daCons (dVar 3) daNil)))))))) (dRet (dCB fTuple (daCons (dVar 2) daNil))))))
def dt_is_steady_by : TSD := (dRet (dAndV (dOp (fEq true) (dVar 0) (dTup ddNil)) (dIsN true (dCall 1 sp_bends_by (daCons (dVar 0) daNil)))))
def dt_worst_row : TSD := (dSeq (dDrop (dCall 1 sp_check_answer (daCons (dVar 0) daNil))) (dSeq (dDrop (dCall 1 sp_check_many (daCons (dVar 1) daNil))) (dSeq (dIfS (dNotT (dTst (dCall 1 sp_is_steady_by (daCons (dOp fIx (dVar 0) (dC (.int 1))) daNil)))) dNever dNext) (dRet (dCall 2 sp_bounding_by (daCons (dVar 0) (daCons (dVar 1) daNil)))))))
def dt_worst_near : TSD := (dRet (dCall 2 sp_bounds_by (daCons (dVar 0) (daCons (dCall 2 sp_worst_row (daCons (dVar 0) (daCons (dVar 1) daNil))) daNil))))
def dt__law_plus : TSD := (dRet (dCall 2 sp__law_low (daCons (dOp (fI0 fun i j => .int (i + j)) (dOp (fI CMulW fun i j => .int (i * j)) (dOp fIx (dVar 0) (dC (.int 0))) (dOp fIx (dVar 1) (dC (.int 1)))) (dOp (fI CMulW fun i j => .int (i * j)) (dOp fIx (dVar 1) (dC (.int 0))) (dOp fIx (dVar 0) (dC (.int 1))))) (daCons (dOp (fI CMulW fun i j => .int (i * j)) (dOp fIx (dVar 0) (dC (.int 1))) (dOp fIx (dVar 1) (dC (.int 1)))) daNil))))
def dt__law_add : TSD := (dSeq (dPar 2 3 (dCB (f2I fun i j => max i j) (daCons (dCB fLen (daCons (dVar 0) daNil)) (daCons (dCB fLen (daCons (dVar 1) daNil)) daNil))) (dTup (ddCons (dC (.int 0)) (ddCons (dC (.int 1)) ddNil)))) (dSeq (dPar 4 5 (dOp fCat (dCB fList (daCons (dVar 0) daNil)) (dOp fRep (dLst (ddCons (dVar 3) ddNil)) (dOp (fI0 fun i j => .int (i - j)) (dVar 2) (dCB fLen (daCons (dVar 0) daNil))))) (dOp fCat (dCB fList (daCons (dVar 1) daNil)) (dOp fRep (dLst (ddCons (dVar 3) ddNil)) (dOp (fI0 fun i j => .int (i - j)) (dVar 2) (dCB fLen (daCons (dVar 1) daNil)))))) (dRet (dCall 1 sp__law_cut (daCons (dComp [6] (diRng1 (dVar 2)) (tgN 6) dYes (dCall 2 sp__law_plus (daCons (dOp fIx (dVar 4) (dVar 6)) (daCons (dOp fIx (dVar 5) (dVar 6)) daNil)))) daNil)))))
def dt__law_less : TSD := (dRet (dCall 2 sp__law_add (daCons (dVar 0) (daCons (dCall 2 sp__law_times (daCons (dVar 1) (daCons (dTup (ddCons (dUn (fU fun i => -i) (dC (.int 1))) (ddCons (dC (.int 1)) ddNil))) daNil))) daNil))))
def dt__law_numbers : TSD := (dSeq (dPar3 2 3 4 (dOp fIx (dVar 0) (dC (.int 0))) (dOp fIx (dVar 0) (dC (.int 1))) (dLst ddNil)) (dSeq (dFor (diRng1 (dVar 1)) (tgN 5) (dSeq (dSet 6 (dIf (dTst (dOp fLt (dVar 5) (dCB fLen (daCons (dVar 2) daNil)))) (dOp fIx (dVar 2) (dVar 5)) (dTup (ddCons (dC (.int 0)) (ddCons (dC (.int 1)) ddNil))))) (dSeq (dFor (diRng2 (dC (.int 1)) (dOp (fI0 fun i j => .int (i + j)) (dCB (f2I fun i j => min i j) (daCons (dVar 5) (daCons (dOp (fI0 fun i j => .int (i - j)) (dCB fLen (daCons (dVar 3) daNil)) (dC (.int 1))) daNil))) (dC (.int 1)))) (tgN 7) (dSet 6 (dCall 2 sp__law_minus (daCons (dVar 6) (daCons (dCall 2 sp__law_prod (daCons (dOp fIx (dVar 3) (dVar 7)) (daCons (dOp fIx (dVar 4) (dOp (fI0 fun i j => .int (i - j)) (dVar 5) (dVar 7))) daNil))) daNil))))) (dAppend 4 (dVar 6))))) (dRetV 4)))
def dt__law_ints : TSD := (dSeq (dSet 1 (dC (.int 1))) (dSeq (dFor (diSeq (dVar 0)) (tgN 2) (dSet 1 (dOp (fI CMulW fun i j => .int (i * j)) (dVar 1) (dOp (fI CDivX fun i j => .int (i.fdiv j)) (dOp fIx (dVar 2) (dC (.int 1))) (dCall 2 sp__law_deep (daCons (dVar 1) (daCons (dOp fIx (dVar 2) (dC (.int 1))) daNil))))))) (dRet (dTup (ddCons (dComp [2] (diSeq (dVar 0)) (tgN 2) dYes (dOp (fI CMulW fun i j => .int (i * j)) (dOp fIx (dVar 2) (dC (.int 0))) (dOp (fI CDivX fun i j => .int (i.fdiv j)) (dVar 1) (dOp fIx (dVar 2) (dC (.int 1)))))) (ddCons (dVar 1) ddNil))))))
def dt__law_mul : TSD := (dSeq (dIfS (dOrT (dTst (dOp (fEq false) (dVar 0) (dTup ddNil))) (dTst (dOp (fEq false) (dVar 1) (dTup ddNil)))) (dRet (dTup ddNil)) dNext) (dSeq (dAsg (dCall 1 sp__law_ints (daCons (dVar 0) daNil)) (tgTup 2 (tgCons (tgN 2) (tgCons (tgN 3) tgNil)))) (dSeq (dAsg (dCall 1 sp__law_ints (daCons (dVar 1) daNil)) (tgTup 2 (tgCons (tgN 4) (tgCons (tgN 5) tgNil)))) (dSeq (dSet 6 (dOp fRep (dLst (ddCons (dC (.int 0)) ddNil)) (dOp (fI0 fun i j => .int (i - j)) (dOp (fI0 fun i j => .int (i + j)) (dCB fLen (daCons (dVar 2) daNil)) (dCB fLen (daCons (dVar 4) daNil))) (dC (.int 1))))) (dSeq (dFor (diRng1 (dCB fLen (daCons (dVar 2) daNil))) (tgN 7) (dFor (diRng1 (dCB fLen (daCons (dVar 4) daNil))) (tgN 8) (dSetIx 6 (dOp (fI0 fun i j => .int (i + j)) (dVar 7) (dVar 8)) (dOp (fI0 fun i j => .int (i + j)) (dOp fIx (dVar 6) (dOp (fI0 fun i j => .int (i + j)) (dVar 7) (dVar 8))) (dOp (fI CMulW fun i j => .int (i * j)) (dOp fIx (dVar 2) (dVar 7)) (dOp fIx (dVar 4) (dVar 8))))))) (dFz 6 (dRet (dCB fTuple (daCons (dComp [9] (diSeq (dVar 6)) (tgN 9) dYes (dCall 2 sp__law_low (daCons (dVar 9) (daCons (dOp (fI CMulW fun i j => .int (i * j)) (dVar 3) (dVar 5)) daNil)))) daNil)))))))))
def dt__law_all : TSD := (dSeq (dSet 1 (dTup (ddCons (dC (.int 0)) (ddCons (dC (.int 1)) ddNil)))) (dSeq (dFor (diSeq (dVar 0)) (tgN 2) (dSet 1 (dCall 2 sp__law_plus (daCons (dVar 1) (daCons (dVar 2) daNil))))) (dRetV 1)))
def dt__law_size : TSD := (dRet (dTup (ddCons (dCB (f1I fun i => (i.natAbs : Int)) (daCons (dOp fIx (dVar 0) (dC (.int 0))) daNil)) (ddCons (dOp fIx (dVar 0) (dC (.int 1))) ddNil))))
def dt__law_sizes : TSD := (dRet (dCall 1 sp__law_all (daCons (dComp [1] (diSeq (dVar 0)) (tgN 1) dYes (dCall 1 sp__law_size (daCons (dVar 1) daNil))) daNil)))
def dt__law_below : TSD := (dRet (dOp fLt (dOp (fI CMulW fun i j => .int (i * j)) (dOp fIx (dVar 0) (dC (.int 0))) (dOp fIx (dVar 1) (dC (.int 1)))) (dOp (fI CMulW fun i j => .int (i * j)) (dOp fIx (dVar 1) (dC (.int 0))) (dOp fIx (dVar 0) (dC (.int 1))))))
def dt__law_own_bounds : TSD := (dSeq (dSet 2 (dCall 1 sp__law_cut (daCons (dCall 2 sp__law_numbers (daCons (dTup (ddCons (dTup (ddCons (dTup (ddCons (dC (.int 1)) (ddCons (dC (.int 1)) ddNil))) ddNil)) (ddCons (dOp fIx (dVar 0) (dC (.int 1))) ddNil))) (daCons (dVar 1) daNil))) daNil))) (dSeq (dSet 3 (dCall 2 sp__law_less (daCons (dTup (ddCons (dTup (ddCons (dC (.int 1)) (ddCons (dC (.int 1)) ddNil))) ddNil)) (daCons (dCall 2 sp__law_mul (daCons (dOp fIx (dVar 0) (dC (.int 1))) (daCons (dVar 2) daNil))) daNil)))) (dSeq (dPar 4 5 (dCall 1 sp__law_sizes (daCons (dVar 3) daNil)) (dCall 1 sp__law_sizes (daCons (dCall 2 sp__law_mul (daCons (dOp fIx (dVar 0) (dC (.int 0))) (daCons (dVar 2) daNil))) daNil))) (dSeq (dIfS (dNotT (dTst (dCall 2 sp__law_below (daCons (dVar 4) (daCons (dTup (ddCons (dC (.int 1)) (ddCons (dC (.int 1)) ddNil))) daNil))))) (dRet (dC .none)) dNext) (dRet (dTup (ddCons (dCall 2 sp__law_per (daCons (dVar 5) (daCons (dCall 2 sp__law_plus (daCons (dTup (ddCons (dC (.int 1)) (ddCons (dC (.int 1)) ddNil))) (daCons (dVar 4) daNil))) daNil))) (ddCons (dCall 2 sp__law_per (daCons (dVar 5) (daCons (dCall 2 sp__law_minus (daCons (dTup (ddCons (dC (.int 1)) (ddCons (dC (.int 1)) ddNil))) (daCons (dVar 4) daNil))) daNil))) ddNil))))))))
def dt__law_some : TSD := (dSeq (dSet 1 (dOp (fI0 fun i j => .int (i + j)) (dC (.int 1)) (dCall 2 sp__law_draw (daCons (dVar 0) (daCons (dCall 2 sp__law_pick (daCons (dVar 0) (daCons (dLst (ddCons (dC (.int 1)) (ddCons (dC (.int 2)) (ddCons (dC (.int 3)) (ddCons (dC (.int 3)) (ddCons (dC (.int 8)) (ddCons (dC (.int 50)) ddNil))))))) daNil))) daNil))))) (dRet (dCall 2 sp__law_low (daCons (dIf (dTst (dOp (fEq false) (dCall 2 sp__law_draw (daCons (dVar 0) (daCons (dC (.int 2)) daNil))) (dC (.int 0)))) (dVar 1) (dOp (fI0 fun i j => .int (i - j)) (dC (.int 0)) (dVar 1))) (daCons (dCall 2 sp__law_pick (daCons (dVar 0) (daCons (dLst (ddCons (dC (.int 1)) (ddCons (dC (.int 1)) (ddCons (dC (.int 1)) (ddCons (dC (.int 2)) (ddCons (dC (.int 2)) (ddCons (dC (.int 3)) (ddCons (dC (.int 5)) ddNil)))))))) daNil))) daNil)))))
def dt__law_any : TSD := (dSeq (dSet 1 (dCall 2 sp__law_pick (daCons (dVar 0) (daCons (dLst (ddCons (dC (.int 3)) (ddCons (dC (.int 3)) (ddCons (dC (.int 3)) (ddCons (dC (.int 3)) (ddCons (dC (.int 8)) (ddCons (dC (.int 50)) ddNil))))))) daNil)))) (dRet (dCall 2 sp__law_low (daCons (dOp (fI0 fun i j => .int (i - j)) (dCall 2 sp__law_draw (daCons (dVar 0) (daCons (dOp (fI0 fun i j => .int (i + j)) (dOp (fI CMulW fun i j => .int (i * j)) (dC (.int 2)) (dVar 1)) (dC (.int 1))) daNil))) (dVar 1)) (daCons (dCall 2 sp__law_pick (daCons (dVar 0) (daCons (dLst (ddCons (dC (.int 1)) (ddCons (dC (.int 1)) (ddCons (dC (.int 1)) (ddCons (dC (.int 2)) (ddCons (dC (.int 2)) (ddCons (dC (.int 3)) (ddCons (dC (.int 5)) ddNil)))))))) daNil))) daNil)))))
def dt__law_row : TSD := (dSeq (dSet 2 (dLst ddNil)) (dSeq (dFor (diRng1 (dCall 2 sp__law_draw (daCons (dVar 0) (daCons (dVar 1) daNil)))) (tgN 3) (dAppend 2 (dCall 1 sp__law_any (daCons (dVar 0) daNil)))) (dSeq (dAppend 2 (dCall 1 sp__law_some (daCons (dVar 0) daNil))) (dRet (dCB fTuple (daCons (dVar 2) daNil))))))
def dt__law_is_int : TSD := (dRet (dAndV (dIsI "int" (dVar 0)) (dNotV (dIsI "bool" (dVar 0)))))
def dt__law_is_part : TSD := (dSeq (dIfS (dOrT (dNotT (dTst (dIsI "tuple" (dVar 0)))) (dOrT (dTst (dOp (fEq true) (dCB fLen (daCons (dVar 0) daNil)) (dC (.int 2)))) (dOrT (dNotT (dTst (dCall 1 sp__law_is_int (daCons (dOp fIx (dVar 0) (dC (.int 0))) daNil)))) (dNotT (dTst (dCall 1 sp__law_is_int (daCons (dOp fIx (dVar 0) (dC (.int 1))) daNil))))))) (dRet (dC (.bool false))) dNext) (dRet (dAndV (dOp fGt (dOp fIx (dVar 0) (dC (.int 1))) (dC (.int 0))) (dOp (fEq false) (dCall 2 sp__law_deep (daCons (dOp fIx (dVar 0) (dC (.int 0))) (daCons (dOp fIx (dVar 0) (dC (.int 1))) daNil))) (dC (.int 1))))))
def dt__law_are_bounds : TSD := (dSeq (dIfS (dOrT (dNotT (dTst (dIsI "tuple" (dVar 0)))) (dOrT (dTst (dOp (fEq true) (dCB fLen (daCons (dVar 0) daNil)) (dC (.int 2)))) (dOrT (dNotT (dTst (dCall 1 sp__law_is_part (daCons (dOp fIx (dVar 0) (dC (.int 0))) daNil)))) (dNotT (dTst (dCall 1 sp__law_is_part (daCons (dOp fIx (dVar 0) (dC (.int 1))) daNil))))))) (dRet (dC (.bool false))) dNext) (dRet (dAndV (dNotV (dCall 2 sp__law_below (daCons (dTup (ddCons (dC (.int 1)) (ddCons (dVar 1) ddNil))) (daCons (dCall 2 sp__law_minus (daCons (dOp fIx (dVar 0) (dC (.int 1))) (daCons (dOp fIx (dVar 0) (dC (.int 0))) daNil))) daNil)))) (dNotV (dCall 2 sp__law_below (daCons (dOp fIx (dVar 0) (dC (.int 1))) (daCons (dOp fIx (dVar 0) (dC (.int 0))) daNil)))))))
def dt__law_do_meet : TSD := (dRet (dAndV (dNotV (dCall 2 sp__law_below (daCons (dOp fIx (dVar 0) (dC (.int 1))) (daCons (dOp fIx (dVar 1) (dC (.int 0))) daNil)))) (dNotV (dCall 2 sp__law_below (daCons (dOp fIx (dVar 1) (dC (.int 1))) (daCons (dOp fIx (dVar 0) (dC (.int 0))) daNil))))))
def dt__law_pair_factor : TSD := (dRet (dTup (ddCons (dTup (ddCons (dC (.int 1)) (ddCons (dC (.int 1)) ddNil))) (ddCons (dCall 2 sp__law_prod (daCons (dTup (ddCons (dUn (fU fun i => -i) (dC (.int 2))) (ddCons (dC (.int 1)) ddNil))) (daCons (dCall 2 sp__law_prod (daCons (dVar 0) (daCons (dVar 1) daNil))) daNil))) (ddCons (dCall 2 sp__law_prod (daCons (dVar 0) (daCons (dVar 0) daNil))) ddNil)))))
def dt__law_within : TSD := (dSeq (dSet 2 (dOp (fI0 fun i j => .int (i + j)) (dC (.int 2)) (dCall 2 sp__law_draw (daCons (dVar 0) (daCons (dCall 2 sp__law_pick (daCons (dVar 0) (daCons (dLst (ddCons (dC (.int 2)) (ddCons (dC (.int 2)) (ddCons (dC (.int 3)) (ddCons (dVar 1) ddNil))))) daNil))) daNil))))) (dSeq (dSet 3 (dOp (fI0 fun i j => .int (i + j)) (dC (.int 1)) (dCall 2 sp__law_draw (daCons (dVar 0) (daCons (dOp (fI0 fun i j => .int (i - j)) (dVar 2) (dC (.int 1))) daNil))))) (dRet (dCall 2 sp__law_low (daCons (dIf (dTst (dOp fGt (dCall 2 sp__law_draw (daCons (dVar 0) (daCons (dC (.int 3)) daNil))) (dC (.int 0)))) (dVar 3) (dOp (fI0 fun i j => .int (i - j)) (dC (.int 0)) (dVar 3))) (daCons (dVar 2) daNil))))))
def dt__law_factor : TSD := (dRet (dTup (ddCons (dTup (ddCons (dC (.int 1)) (ddCons (dC (.int 1)) ddNil))) (ddCons (dCall 2 sp__law_per (daCons (dTup (ddCons (dUn (fU fun i => -i) (dC (.int 1))) (ddCons (dC (.int 1)) ddNil))) (daCons (dVar 0) daNil))) ddNil))))
def dt__law_beyond : TSD := (dSeq (dSet 1 (dOp (fI0 fun i j => .int (i + j)) (dC (.int 1)) (dCall 2 sp__law_draw (daCons (dVar 0) (daCons (dC (.int 3)) daNil))))) (dSeq (dSet 2 (dOp (fI0 fun i j => .int (i + j)) (dOp (fI0 fun i j => .int (i + j)) (dVar 1) (dC (.int 1))) (dCall 2 sp__law_draw (daCons (dVar 0) (daCons (dC (.int 4)) daNil))))) (dRet (dCall 2 sp__law_low (daCons (dIf (dTst (dOp (fEq false) (dCall 2 sp__law_draw (daCons (dVar 0) (daCons (dC (.int 2)) daNil))) (dC (.int 0)))) (dVar 2) (dOp (fI0 fun i j => .int (i - j)) (dC (.int 0)) (dVar 2))) (daCons (dVar 1) daNil))))))
def dt__law_calm : TSD := (dSeq (dSet 2 (dCall 2 sp__law_draw (daCons (dVar 0) (daCons (dC (.int 4)) daNil)))) (dSeq (dIfS (dAndT (dTst (dOp (fEq false) (dVar 2) (dC (.int 0)))) (dTst (dOp fGt (dVar 1) (dC (.int 1))))) (dSeq (dSet 3 (dCall 1 sp__law_size (daCons (dCall 2 sp__law_within (daCons (dVar 0) (daCons (dC (.int 4)) daNil))) daNil))) (dRet (dCall 2 sp__law_pair_factor (daCons (dVar 3) (daCons (dCall 2 sp__law_pick (daCons (dVar 0) (daCons (dLst (ddCons (dTup (ddCons (dC (.int 0)) (ddCons (dC (.int 1)) ddNil))) (ddCons (dTup (ddCons (dC (.int 1)) (ddCons (dC (.int 2)) ddNil))) (ddCons (dTup (ddCons (dUn (fU fun i => -i) (dC (.int 1))) (ddCons (dC (.int 2)) ddNil))) (ddCons (dTup (ddCons (dC (.int 3)) (ddCons (dC (.int 5)) ddNil))) (ddCons (dTup (ddCons (dUn (fU fun i => -i) (dC (.int 1))) (ddCons (dC (.int 1)) ddNil))) (ddCons (dTup (ddCons (dC (.int 1)) (ddCons (dC (.int 4)) ddNil))) ddNil))))))) daNil))) daNil))))) dNext) (dSeq (dSet 4 (dTup (ddCons (dTup (ddCons (dC (.int 1)) (ddCons (dC (.int 1)) ddNil))) ddNil))) (dSeq (dFor (diRng1 (dCall 2 sp__law_draw (daCons (dVar 0) (daCons (dOp (fI0 fun i j => .int (i + j)) (dVar 1) (dC (.int 1))) daNil)))) (tgN 5) (dSet 4 (dCall 2 sp__law_mul (daCons (dVar 4) (daCons (dCall 1 sp__law_factor (daCons (dCall 1 sp__law_beyond (daCons (dVar 0) daNil)) daNil)) daNil))))) (dRetV 4)))))
def dt__law_same (Sp0 : FSpec) : TSD := (dSeq (dIfS (dTst (dIsI "tuple" (dVar 1))) (dSeq (dIfS (dOrT (dNotT (dTst (dIsI "tuple" (dVar 0)))) (dTst (dOp (fEq true) (dCB fLen (daCons (dVar 0) daNil)) (dCB fLen (daCons (dVar 1) daNil))))) (dRet (dC (.bool false))) dNext) (dRet (dCB (fBools fun bs => bs.all id) (daCons (dComp [3] (diRng1 (dCB fLen (daCons (dVar 1) daNil))) (tgN 3) dYes (dCall 2 Sp0 (daCons (dOp fIx (dVar 0) (dVar 3)) (daCons (dOp fIx (dVar 1) (dVar 3)) daNil)))) daNil)))) dNext) (dSeq (dIfS (dOrT (dTst (dIsN false (dVar 1))) (dTst (dIsN false (dVar 0)))) (dRet (dAndV (dIsN false (dVar 1)) (dIsN false (dVar 0)))) dNext) (dSeq (dSet 2 (dAndV (dOp (fEq false) (dIsI "bool" (dVar 0)) (dIsI "bool" (dVar 1))) (dOp (fEq false) (dIsI "int" (dVar 0)) (dIsI "int" (dVar 1))))) (dRet (dAndV (dVar 2) (dOp (fEq false) (dVar 0) (dVar 1)))))))
def dt__law_right : TSD := (dSeq (dSet 1 (dCall 2 sp__law_answer (daCons (dCall 2 sp__law_row (daCons (dVar 0) (daCons (dC (.int 3)) daNil))) (daCons (dCall 2 sp__law_mul (daCons (dCall 2 sp__law_calm (daCons (dVar 0) (daCons (dC (.int 1)) daNil))) (daCons (dCall 2 sp__law_calm (daCons (dVar 0) (daCons (dC (.int 2)) daNil))) daNil))) daNil)))) (dSeq (dSet 2 (dCall 2 sp__law_pick (daCons (dVar 0) (daCons (dLst (ddCons (dC (.int 1)) (ddCons (dC (.int 2)) (ddCons (dC (.int 10)) (ddCons (dC (.int 100)) (ddCons (dC (.int 1000)) (ddCons (dC (.int 1000000)) (ddCons (dOp (fI0 fun i j => .int (i + j)) (dC (.int 1)) (dCall 2 sp__law_draw (daCons (dVar 0) (daCons (dC (.int 997)) daNil)))) ddNil)))))))) daNil)))) (dSeq (dSet 3 (dCall 2 sp_worst_near (daCons (dVar 1) (daCons (dVar 2) daNil)))) (dSeq (dIfS (dOrT (dNotT (dTst (dCall 2 sp__law_are_bounds (daCons (dVar 3) (daCons (dVar 2) daNil))))) (dNotT (dTst (dCall 2 sp__law_same (daCons (dCallK 2 sp_worst_near (daCons (dVar 2) (daCons (dVar 1) daNil))) (daCons (dVar 3) daNil)))))) (dRet (dC (.bool false))) dNext) (dSeq (dSet 4 (dCall 2 sp__law_own_bounds (daCons (dVar 1) (daCons (dC (.int 24)) daNil)))) (dSeq (dIfS (dAndT (dTst (dIsN true (dVar 4))) (dNotT (dTst (dCall 2 sp__law_do_meet (daCons (dVar 4) (daCons (dVar 3) daNil)))))) (dRet (dC (.bool false))) dNext) (dSeq (dSet 5 (dTup (ddCons (dC (.int 0)) (ddCons (dC (.int 1)) ddNil)))) (dSeq (dFor (diSeq (dCall 2 sp__law_numbers (daCons (dVar 1) (daCons (dC (.int 12)) daNil)))) (tgN 6) (dSeq (dSet 5 (dCall 2 sp__law_plus (daCons (dVar 5) (daCons (dCall 1 sp__law_size (daCons (dVar 6) daNil)) daNil)))) (dIfS (dTst (dCall 2 sp__law_below (daCons (dOp fIx (dVar 3) (dC (.int 1))) (daCons (dVar 5) daNil)))) (dRet (dC (.bool false))) dNext))) (dSeq (dSet 7 (dCall 1 sp__law_some (daCons (dVar 0) daNil))) (dSeq (dSet 8 (dCall 2 sp_worst_near (daCons (dTup (ddCons (dCall 2 sp__law_times (daCons (dOp fIx (dVar 1) (dC (.int 0))) (daCons (dVar 7) daNil))) (ddCons (dOp fIx (dVar 1) (dC (.int 1))) ddNil))) (daCons (dC (.int 5)) daNil)))) (dSeq (dSet 9 (dCall 1 sp__law_size (daCons (dVar 7) daNil))) (dSeq (dIfS (dOrT (dNotT (dTst (dCall 2 sp__law_are_bounds (daCons (dVar 8) (daCons (dC (.int 5)) daNil))))) (dNotT (dTst (dCall 2 sp__law_do_meet (daCons (dVar 8) (daCons (dTup (ddCons (dCall 2 sp__law_prod (daCons (dOp fIx (dVar 3) (dC (.int 0))) (daCons (dVar 9) daNil))) (ddCons (dCall 2 sp__law_prod (daCons (dOp fIx (dVar 3) (dC (.int 1))) (daCons (dVar 9) daNil))) ddNil))) daNil)))))) (dRet (dC (.bool false))) dNext) (dSeq (dSet 10 (dCall 2 sp_worst_near (daCons (dVar 1) (daCons (dC (.int 1)) daNil)))) (dRet (dAndV (dCall 2 sp__law_are_bounds (daCons (dVar 10) (daCons (dC (.int 1)) daNil))) (dCall 2 sp__law_do_meet (daCons (dVar 10) (daCons (dVar 3) daNil))))))))))))))))))
def dt__law_well : TSD := (dSeq (dSet 2 (dIf (dTst (dOp fLt (dVar 1) (dCB fLen (daCons (dVar 0) daNil)))) (dCB (f1I fun i => i) (daCons (dOp fIx (dVar 0) (dVar 1)) daNil)) (dOp (fI0 fun i j => .int (i + j)) (dOp (fI0 fun i j => .int (i + j)) (dOp (fI CMulW fun i j => .int (i * j)) (dC (.int 8461)) (dVar 1)) (dC (.int 1429))) (dOp (fI (fun _ j => 0 < j) fun i j => .int (i % j)) (dCB (f1I fun i => i) (daCons (dCB fSum (daCons (dSl (dVar 0) doNone (doSome (dC (.int 7)))) daNil)) daNil)) (dC (.int 1000081)))))) (dSeq (dSet 3 (dOp (fI0 fun i j => .int (i + j)) (dC (.int 52181)) (dOp (fI CMulW fun i j => .int (i * j)) (dC (.int 4007)) (dVar 1)))) (dSeq (dFor (diSeq (dOp fCat (dSl (dVar 0) doNone (doSome (dC (.int 10)))) (dLst (ddCons (dVar 2) ddNil)))) (tgN 4) (dSet 3 (dOp (fI (fun _ j => 0 < j) fun i j => .int (i % j)) (dCB (f1I fun i => i) (daCons (dOp (fI0 fun i j => .int (i + j)) (dOp (fI0 fun i j => .int (i + j)) (dOp (fI CMulW fun i j => .int (i * j)) (dVar 3) (dC (.int 42461))) (dOp (fI (fun _ j => 0 < j) fun i j => .int (i % j)) (dCB (f1I fun i => i) (daCons (dVar 4) daNil)) (dC (.int 2147483543)))) (dC (.int 41))) daNil)) (dC (.int 2147483543))))) (dRet (dLst (ddCons (dIf (dOrT (dTst (dOp fLt (dVar 2) (dC (.int 0)))) (dTst (dOp fGe (dVar 2) (dOp (fI CPow fun i j => .int (i ^ j.toNat)) (dC (.int 10)) (dC (.int 18)))))) (dCB (f1I fun i => (i.natAbs : Int)) (daCons (dVar 2) daNil)) (dC (.int 0))) (ddCons (dVar 3) (ddCons (dC (.int 0)) ddNil))))))))
def dt_law : TSD := (dRet (dCB (fBools fun bs => bs.all id) (daCons (dComp [1] (diRng1 (dC (.int 2))) (tgN 1) dYes (dCallW sp__law_right (dCall 2 sp__law_well (daCons (dVar 0) (daCons (dVar 1) daNil))))) daNil)))
end DL
namespace DL
open PySem PySem.Spec PyProof.Rows L2
noncomputable def z__law_cut : { s : Stmt // s = top 72 } := by
  refine ⟨?x, ?h⟩
  rotate_left
  · conv => rhs; whnf
noncomputable abbrev s__law_cut : Stmt := z__law_cut.val
theorem sc__law_cut : FnScope ["some", "last", "lap"] ["some"] (defScope s__law_cut) := ⟨rfl, rfl, rfl, by decide +kernel, rfl, by decide +kernel, by decide +kernel⟩
theorem bd__law_cut : BindAll "_law_cut" s__law_cut ["some"] := fun _ _ _ _ _ _ us hl => match us, hl with | [_], _ => rfl
theorem wk__law_cut {P : Program} {w : World} {K : PySem.W.Frag} {mg : PySem.Str → Option Value} {base : Heap} {f : Addr} (B : Fre mg) (c : Csts K mg) (cdv : Value) (A : Around) (outer : List Env) (s : Shared) (H : Hp) (E : L2.XK)
    (hr : Room 0 (cxF P w K mg base ["some", "last", "lap"] "_law_cut" s__law_cut f cdv A outer s H E).A) : ∃ ts, XSs (cxF P w K mg base ["some", "last", "lap"] "_law_cut" s__law_cut f cdv A outer s H E) (defBody s__law_cut) ts dt__law_cut := by
  have nd : (cxF P w K mg base ["some", "last", "lap"] "_law_cut" s__law_cut f cdv A outer s H E).N.Nodup := sc__law_cut.nd
  exact ⟨_, (xs_cons (w_set 1 nd (x_len (K := K) B.len (xa_cons (x_var 0) xa_nil))) (xs_cons (w_for rfl rfl (xi_r1 B.range (x_len (K := K) B.len (xa_cons (x_var 0) xa_nil))) (xg_name 2 nd) (xs_one (w_if (y_w (y_and (y_gt (x_var 1) x_int) (y_and1 (y_eq (K := K) hr (x_ix (K := K) (x_ix (K := K) (x_var 0) (x_sub (x_var 1) x_int)) x_int) x_int)))) (xs_one (w_set 1 nd (x_sub (x_var 1) x_int))) xs_nil))) (xs_one (w_ret (x_tuple (K := K) B.tuple (xa_cons (x_sl (K := K) (x_var 0) xo_none (xo_some (x_var 1))) xa_nil))))))⟩
end DL
namespace DL
open PySem PySem.Spec PyProof.Rows L2
noncomputable def z__law_deep : { s : Stmt // s = top 61 } := by
  refine ⟨?x, ?h⟩
  rotate_left
  · conv => rhs; whnf
noncomputable abbrev s__law_deep : Stmt := z__law_deep.val
theorem sc__law_deep : FnScope ["one", "two"] ["one", "two"] (defScope s__law_deep) := ⟨rfl, rfl, rfl, by decide +kernel, rfl, by decide +kernel, by decide +kernel⟩
theorem bd__law_deep : BindAll "_law_deep" s__law_deep ["one", "two"] := fun _ _ _ _ _ _ us hl => match us, hl with | [_, _], _ => rfl
theorem wk__law_deep {P : Program} {w : World} {K : PySem.W.Frag} {mg : PySem.Str → Option Value} {base : Heap} {f : Addr} (B : Fre mg) (c : Csts K mg) (cdv : Value) (A : Around) (outer : List Env) (s : Shared) (H : Hp) (E : L2.XK)
    (hr : Room 0 (cxF P w K mg base ["one", "two"] "_law_deep" s__law_deep f cdv A outer s H E).A) : ∃ ts, XSs (cxF P w K mg base ["one", "two"] "_law_deep" s__law_deep f cdv A outer s H E) (defBody s__law_deep) ts dt__law_deep := by
  have nd : (cxF P w K mg base ["one", "two"] "_law_deep" s__law_deep f cdv A outer s H E).N.Nodup := sc__law_deep.nd
  exact ⟨_, (xs_cons (w_par 0 1 rfl nd (x_abs B.abs (xa_cons (x_var 0) xa_nil)) (x_abs B.abs (xa_cons (x_var 1) xa_nil))) (xs_cons (w_while rfl (y_ne (K := K) hr (x_var 1) x_int) (xs_one (w_par 0 1 rfl nd (x_var 1) (x_mod (x_toint B.int (xa_cons (x_var 0) xa_nil)) (x_var 1))))) (xs_one (w_retV 0))))⟩
end DL
namespace DL
open PySem PySem.Spec PyProof.Rows L2
noncomputable def z__law_low : { s : Stmt // s = top 62 } := by
  refine ⟨?x, ?h⟩
  rotate_left
  · conv => rhs; whnf
noncomputable abbrev s__law_low : Stmt := z__law_low.val
theorem sc__law_low : FnScope ["top", "under", "deep"] ["top", "under"] (defScope s__law_low) := ⟨rfl, rfl, rfl, by decide +kernel, rfl, by decide +kernel, by decide +kernel⟩
theorem bd__law_low : BindAll "_law_low" s__law_low ["top", "under"] := fun _ _ _ _ _ _ us hl => match us, hl with | [_, _], _ => rfl
theorem wk__law_low {P : Program} {w : World} {K : PySem.W.Frag} {mg : PySem.Str → Option Value} {base : Heap} {f : Addr} (B : Fre mg) (c : Csts K mg) (F__law_deep : Has P w K mg base 1 "_law_deep" ["one", "two"] 2 sp__law_deep) (cdv : Value) (A : Around) (outer : List Env) (s : Shared) (H : Hp) (E : L2.XK)
    (hr : Room 1 (cxF P w K mg base ["top", "under", "deep"] "_law_low" s__law_low f cdv A outer s H E).A) : ∃ ts, XSs (cxF P w K mg base ["top", "under", "deep"] "_law_low" s__law_low f cdv A outer s H E) (defBody s__law_low) ts dt__law_low := by
  have nd : (cxF P w K mg base ["top", "under", "deep"] "_law_low" s__law_low f cdv A outer s H E).N.Nodup := sc__law_low.nd
  exact ⟨_, (xs_cons (w_set 2 nd (x_ifx (y_gt (x_var 1) x_int) (x_call (K := K) F__law_deep hr (xa_cons (x_var 0) (xa_cons (x_var 1) xa_nil))) (x_sub x_int (x_call (K := K) F__law_deep hr (xa_cons (x_var 0) (xa_cons (x_var 1) xa_nil)))))) (xs_one (w_ret (x_tup (xd_cons (x_fdivX (x_var 0) (x_var 2)) (xd_cons (x_fdivX (x_var 1) (x_var 2)) xd_nil))))))⟩
end DL
namespace DL
open PySem PySem.Spec PyProof.Rows L2
noncomputable def z__law_prod : { s : Stmt // s = top 65 } := by
  refine ⟨?x, ?h⟩
  rotate_left
  · conv => rhs; whnf
noncomputable abbrev s__law_prod : Stmt := z__law_prod.val
theorem sc__law_prod : FnScope ["one", "two"] ["one", "two"] (defScope s__law_prod) := ⟨rfl, rfl, rfl, by decide +kernel, rfl, by decide +kernel, by decide +kernel⟩
theorem bd__law_prod : BindAll "_law_prod" s__law_prod ["one", "two"] := fun _ _ _ _ _ _ us hl => match us, hl with | [_, _], _ => rfl
theorem wk__law_prod {P : Program} {w : World} {K : PySem.W.Frag} {mg : PySem.Str → Option Value} {base : Heap} {f : Addr} (B : Fre mg) (c : Csts K mg) (F__law_low : Has P w K mg base 2 "_law_low" ["top", "under"] 2 sp__law_low) (cdv : Value) (A : Around) (outer : List Env) (s : Shared) (H : Hp) (E : L2.XK)
    (hr : Room 2 (cxF P w K mg base ["one", "two"] "_law_prod" s__law_prod f cdv A outer s H E).A) : ∃ ts, XSs (cxF P w K mg base ["one", "two"] "_law_prod" s__law_prod f cdv A outer s H E) (defBody s__law_prod) ts dt__law_prod := by
  have nd : (cxF P w K mg base ["one", "two"] "_law_prod" s__law_prod f cdv A outer s H E).N.Nodup := sc__law_prod.nd
  exact ⟨_, (xs_one (w_ret (x_call (K := K) F__law_low hr (xa_cons (x_mul (x_ix (K := K) (x_var 0) x_int) (x_ix (K := K) (x_var 1) x_int)) (xa_cons (x_mul (x_ix (K := K) (x_var 0) x_int) (x_ix (K := K) (x_var 1) x_int)) xa_nil)))))⟩
end DL
namespace DL
open PySem PySem.Spec PyProof.Rows L2
noncomputable def z__law_times : { s : Stmt // s = top 74 } := by
  refine ⟨?x, ?h⟩
  rotate_left
  · conv => rhs; whnf
noncomputable abbrev s__law_times : Stmt := z__law_times.val
theorem sc__law_times : FnScope ["one", "by", "each"] ["one", "by"] (defScope s__law_times) := ⟨rfl, rfl, rfl, by decide +kernel, rfl, by decide +kernel, by decide +kernel⟩
theorem bd__law_times : BindAll "_law_times" s__law_times ["one", "by"] := fun _ _ _ _ _ _ us hl => match us, hl with | [_, _], _ => rfl
theorem wk__law_times {P : Program} {w : World} {K : PySem.W.Frag} {mg : PySem.Str → Option Value} {base : Heap} {f : Addr} (B : Fre mg) (c : Csts K mg) (F__law_cut : Has P w K mg base 1 "_law_cut" ["some"] 1 sp__law_cut) (F__law_prod : Has P w K mg base 3 "_law_prod" ["one", "two"] 2 sp__law_prod) (cdv : Value) (A : Around) (outer : List Env) (s : Shared) (H : Hp) (E : L2.XK)
    (hr : Room 3 (cxF P w K mg base ["one", "by", "each"] "_law_times" s__law_times f cdv A outer s H E).A) : ∃ ts, XSs (cxF P w K mg base ["one", "by", "each"] "_law_times" s__law_times f cdv A outer s H E) (defBody s__law_times) ts dt__law_times := by
  have nd : (cxF P w K mg base ["one", "by", "each"] "_law_times" s__law_times f cdv A outer s H E).N.Nodup := sc__law_times.nd
  exact ⟨_, (xs_one (w_ret (x_call (K := K) F__law_cut hr (xa_cons (x_lc rfl nd (xi_seq (x_var 0)) (blkOk_by (N := ["one", "by", "each"]) (sc := defScope s__law_times) (own := [("each", 2)]) (by decide +kernel)) (fun _ _ _ _ _ => (xg_name 2 (by exact nd))) (fun _ _ _ _ _ => xif_nil) (fun _ _ _ _ _ => (x_call (K := K) F__law_prod (by exact hr) (xa_cons (x_var 2) (xa_cons (x_var 1) xa_nil))))) xa_nil))))⟩
end DL
namespace DL
open PySem PySem.Spec PyProof.Rows L2
noncomputable def z__law_per : { s : Stmt // s = top 66 } := by
  refine ⟨?x, ?h⟩
  rotate_left
  · conv => rhs; whnf
noncomputable abbrev s__law_per : Stmt := z__law_per.val
theorem sc__law_per : FnScope ["one", "two"] ["one", "two"] (defScope s__law_per) := ⟨rfl, rfl, rfl, by decide +kernel, rfl, by decide +kernel, by decide +kernel⟩
theorem bd__law_per : BindAll "_law_per" s__law_per ["one", "two"] := fun _ _ _ _ _ _ us hl => match us, hl with | [_, _], _ => rfl
theorem wk__law_per {P : Program} {w : World} {K : PySem.W.Frag} {mg : PySem.Str → Option Value} {base : Heap} {f : Addr} (B : Fre mg) (c : Csts K mg) (F__law_low : Has P w K mg base 2 "_law_low" ["top", "under"] 2 sp__law_low) (cdv : Value) (A : Around) (outer : List Env) (s : Shared) (H : Hp) (E : L2.XK)
    (hr : Room 2 (cxF P w K mg base ["one", "two"] "_law_per" s__law_per f cdv A outer s H E).A) : ∃ ts, XSs (cxF P w K mg base ["one", "two"] "_law_per" s__law_per f cdv A outer s H E) (defBody s__law_per) ts dt__law_per := by
  have nd : (cxF P w K mg base ["one", "two"] "_law_per" s__law_per f cdv A outer s H E).N.Nodup := sc__law_per.nd
  exact ⟨_, (xs_one (w_ret (x_call (K := K) F__law_low hr (xa_cons (x_mul (x_ix (K := K) (x_var 0) x_int) (x_ix (K := K) (x_var 1) x_int)) (xa_cons (x_mul (x_ix (K := K) (x_var 0) x_int) (x_ix (K := K) (x_var 1) x_int)) xa_nil)))))⟩
end DL
namespace DL
open PySem PySem.Spec PyProof.Rows L2
noncomputable def z__law_lowest_one : { s : Stmt // s = top 78 } := by
  refine ⟨?x, ?h⟩
  rotate_left
  · conv => rhs; whnf
noncomputable abbrev s__law_lowest_one : Stmt := z__law_lowest_one.val
theorem sc__law_lowest_one : FnScope ["one", "full", "each"] ["one"] (defScope s__law_lowest_one) := ⟨rfl, rfl, rfl, by decide +kernel, rfl, by decide +kernel, by decide +kernel⟩
theorem bd__law_lowest_one : BindAll "_law_lowest_one" s__law_lowest_one ["one"] := fun _ _ _ _ _ _ us hl => match us, hl with | [_], _ => rfl
theorem wk__law_lowest_one {P : Program} {w : World} {K : PySem.W.Frag} {mg : PySem.Str → Option Value} {base : Heap} {f : Addr} (B : Fre mg) (c : Csts K mg) (F__law_times : Has P w K mg base 4 "_law_times" ["one", "by"] 2 sp__law_times) (F__law_per : Has P w K mg base 3 "_law_per" ["one", "two"] 2 sp__law_per) (cdv : Value) (A : Around) (outer : List Env) (s : Shared) (H : Hp) (E : L2.XK)
    (hr : Room 4 (cxF P w K mg base ["one", "full", "each"] "_law_lowest_one" s__law_lowest_one f cdv A outer s H E).A) : ∃ ts, XSs (cxF P w K mg base ["one", "full", "each"] "_law_lowest_one" s__law_lowest_one f cdv A outer s H E) (defBody s__law_lowest_one) ts dt__law_lowest_one := by
  have nd : (cxF P w K mg base ["one", "full", "each"] "_law_lowest_one" s__law_lowest_one f cdv A outer s H E).N.Nodup := sc__law_lowest_one.nd
  exact ⟨_, (xs_cons (w_setLc 1 rfl nd (xi_seq (x_var 0)) (blkOk_by (N := ["one", "full", "each"]) (sc := defScope s__law_lowest_one) (own := [("each", 2)]) (by decide +kernel)) (fun _ _ _ _ _ => (xg_name 2 (by exact nd))) (fun _ _ _ _ _ => xif_one (y_ne (K := K) (by exact hr) (x_ix (K := K) (x_var 2) x_int) x_int)) (fun _ _ _ _ _ => (x_var 2))) (xs_one (w_ret (x_call (K := K) F__law_times hr (xa_cons (x_var 0) (xa_cons (x_call (K := K) F__law_per hr (xa_cons (x_tup (xd_cons x_int (xd_cons x_int xd_nil))) (xa_cons (x_ix (K := K) (x_var 1) x_int) xa_nil))) xa_nil))))))⟩
end DL
namespace DL
open PySem PySem.Spec PyProof.Rows L2
noncomputable def z__law_minus : { s : Stmt // s = top 64 } := by
  refine ⟨?x, ?h⟩
  rotate_left
  · conv => rhs; whnf
noncomputable abbrev s__law_minus : Stmt := z__law_minus.val
theorem sc__law_minus : FnScope ["one", "two"] ["one", "two"] (defScope s__law_minus) := ⟨rfl, rfl, rfl, by decide +kernel, rfl, by decide +kernel, by decide +kernel⟩
theorem bd__law_minus : BindAll "_law_minus" s__law_minus ["one", "two"] := fun _ _ _ _ _ _ us hl => match us, hl with | [_, _], _ => rfl
theorem wk__law_minus {P : Program} {w : World} {K : PySem.W.Frag} {mg : PySem.Str → Option Value} {base : Heap} {f : Addr} (B : Fre mg) (c : Csts K mg) (F__law_low : Has P w K mg base 2 "_law_low" ["top", "under"] 2 sp__law_low) (cdv : Value) (A : Around) (outer : List Env) (s : Shared) (H : Hp) (E : L2.XK)
    (hr : Room 2 (cxF P w K mg base ["one", "two"] "_law_minus" s__law_minus f cdv A outer s H E).A) : ∃ ts, XSs (cxF P w K mg base ["one", "two"] "_law_minus" s__law_minus f cdv A outer s H E) (defBody s__law_minus) ts dt__law_minus := by
  have nd : (cxF P w K mg base ["one", "two"] "_law_minus" s__law_minus f cdv A outer s H E).N.Nodup := sc__law_minus.nd
  exact ⟨_, (xs_one (w_ret (x_call (K := K) F__law_low hr (xa_cons (x_sub (x_mul (x_ix (K := K) (x_var 0) x_int) (x_ix (K := K) (x_var 1) x_int)) (x_mul (x_ix (K := K) (x_var 1) x_int) (x_ix (K := K) (x_var 0) x_int))) (xa_cons (x_mul (x_ix (K := K) (x_var 0) x_int) (x_ix (K := K) (x_var 1) x_int)) xa_nil)))))⟩
end DL
namespace DL
open PySem PySem.Spec PyProof.Rows L2
noncomputable def z__law_parted : { s : Stmt // s = top 77 } := by
  refine ⟨?x, ?h⟩
  rotate_left
  · conv => rhs; whnf
noncomputable abbrev s__law_parted : Stmt := z__law_parted.val
theorem sc__law_parted : FnScope ["one", "two", "left", "found", "lap", "by", "gap", "k"] ["one", "two"] (defScope s__law_parted) := ⟨rfl, rfl, rfl, by decide +kernel, rfl, by decide +kernel, by decide +kernel⟩
theorem bd__law_parted : BindAll "_law_parted" s__law_parted ["one", "two"] := fun _ _ _ _ _ _ us hl => match us, hl with | [_, _], _ => rfl
theorem wk__law_parted {P : Program} {w : World} {K : PySem.W.Frag} {mg : PySem.Str → Option Value} {base : Heap} {f : Addr} (B : Fre mg) (c : Csts K mg) (F__law_per : Has P w K mg base 3 "_law_per" ["one", "two"] 2 sp__law_per) (F__law_minus : Has P w K mg base 3 "_law_minus" ["one", "two"] 2 sp__law_minus) (F__law_prod : Has P w K mg base 3 "_law_prod" ["one", "two"] 2 sp__law_prod) (F__law_cut : Has P w K mg base 1 "_law_cut" ["some"] 1 sp__law_cut) (cdv : Value) (A : Around) (outer : List Env) (s : Shared) (H : Hp) (E : L2.XK)
    (hr : Room 3 (cxF P w K mg base ["one", "two", "left", "found", "lap", "by", "gap", "k"] "_law_parted" s__law_parted f cdv A outer s H E).A) : ∃ ts, XSs (cxF P w K mg base ["one", "two", "left", "found", "lap", "by", "gap", "k"] "_law_parted" s__law_parted f cdv A outer s H E) (defBody s__law_parted) ts dt__law_parted := by
  have nd : (cxF P w K mg base ["one", "two", "left", "found", "lap", "by", "gap", "k"] "_law_parted" s__law_parted f cdv A outer s H E).N.Nodup := sc__law_parted.nd
  exact ⟨_, (xs_cons (w_par2 2 3 (x_list (K := K) B.list (xa_cons (x_var 0) xa_nil)) (x_lst xd_nil) (xg_tup (K := K) rfl (xgs_cons (xg_name 2 nd) (xgs_cons (xg_name 3 nd) xgs_nil)))) (xs_cons (w_for rfl rfl (xi_r1 B.range (x_add (x_sub (x_len (K := K) B.len (xa_cons (x_var 0) xa_nil)) (x_len (K := K) B.len (xa_cons (x_var 1) xa_nil))) x_int)) (xg_name 4 nd) (xs_cons (w_par2 5 6 (x_call (K := K) F__law_per hr (xa_cons (x_ix (K := K) (x_var 2) (x_neg x_int)) (xa_cons (x_ix (K := K) (x_var 1) (x_neg x_int)) xa_nil))) (x_sub (x_len (K := K) B.len (xa_cons (x_var 2) xa_nil)) (x_len (K := K) B.len (xa_cons (x_var 1) xa_nil))) (xg_tup (K := K) rfl (xgs_cons (xg_name 5 nd) (xgs_cons (xg_name 6 nd) xgs_nil)))) (xs_cons (w_set 3 nd (x_cat (x_lst (xd_cons (x_var 5) xd_nil)) (x_var 3))) (xs_one (w_set 2 nd (x_lc rfl nd (xi_r1 B.range (x_sub (x_len (K := K) B.len (xa_cons (x_var 2) xa_nil)) x_int)) (blkOk_by (N := ["one", "two", "left", "found", "lap", "by", "gap", "k"]) (sc := defScope s__law_parted) (own := [("k", 7)]) (by decide +kernel)) (fun _ _ _ _ _ => (xg_name 7 (by exact nd))) (fun _ _ _ _ _ => xif_nil) (fun _ _ _ _ _ => (x_ifx (y_ge (x_var 7) (x_var 6)) (x_call (K := K) F__law_minus (by exact hr) (xa_cons (x_ix (K := K) (x_var 2) (x_var 7)) (xa_cons (x_call (K := K) F__law_prod (by exact hr) (xa_cons (x_var 5) (xa_cons (x_ix (K := K) (x_var 1) (x_sub (x_var 7) (x_var 6))) xa_nil))) xa_nil))) (x_ix (K := K) (x_var 2) (x_var 7)))))))))) (xs_one (w_ret (x_tup (xd_cons (x_call (K := K) F__law_cut hr (xa_cons (x_var 3) xa_nil)) (xd_cons (x_call (K := K) F__law_cut hr (xa_cons (x_var 2) xa_nil)) xd_nil)))))))⟩
end DL
namespace DL
open PySem PySem.Spec PyProof.Rows L2
noncomputable def z__law_common : { s : Stmt // s = top 79 } := by
  refine ⟨?x, ?h⟩
  rotate_left
  · conv => rhs; whnf
noncomputable abbrev s__law_common : Stmt := z__law_common.val
theorem sc__law_common : FnScope ["one", "two", "rest"] ["one", "two"] (defScope s__law_common) := ⟨rfl, rfl, rfl, by decide +kernel, rfl, by decide +kernel, by decide +kernel⟩
theorem bd__law_common : BindAll "_law_common" s__law_common ["one", "two"] := fun _ _ _ _ _ _ us hl => match us, hl with | [_, _], _ => rfl
theorem wk__law_common {P : Program} {w : World} {K : PySem.W.Frag} {mg : PySem.Str → Option Value} {base : Heap} {f : Addr} (B : Fre mg) (c : Csts K mg) (F__law_parted : Has P w K mg base 4 "_law_parted" ["one", "two"] 2 sp__law_parted) (F__law_times : Has P w K mg base 4 "_law_times" ["one", "by"] 2 sp__law_times) (F__law_per : Has P w K mg base 3 "_law_per" ["one", "two"] 2 sp__law_per) (F__law_lowest_one : Has P w K mg base 5 "_law_lowest_one" ["one"] 1 sp__law_lowest_one) (cdv : Value) (A : Around) (outer : List Env) (s : Shared) (H : Hp) (E : L2.XK)
    (hr : Room 5 (cxF P w K mg base ["one", "two", "rest"] "_law_common" s__law_common f cdv A outer s H E).A) : ∃ ts, XSs (cxF P w K mg base ["one", "two", "rest"] "_law_common" s__law_common f cdv A outer s H E) (defBody s__law_common) ts dt__law_common := by
  have nd : (cxF P w K mg base ["one", "two", "rest"] "_law_common" s__law_common f cdv A outer s H E).N.Nodup := sc__law_common.nd
  exact ⟨_, (xs_cons (w_while rfl (y_ne (K := K) hr (x_var 1) (x_tup xd_nil)) (xs_cons (w_set 2 nd (x_ix (K := K) (x_call (K := K) F__law_parted hr (xa_cons (x_var 0) (xa_cons (x_var 1) xa_nil))) x_int)) (xs_one (w_par 0 1 rfl nd (x_var 1) (x_ifx (y_ne (K := K) hr (x_var 2) (x_tup xd_nil)) (x_call (K := K) F__law_times hr (xa_cons (x_var 2) (xa_cons (x_call (K := K) F__law_per hr (xa_cons (x_tup (xd_cons x_int (xd_cons x_int xd_nil))) (xa_cons (x_ix (K := K) (x_var 2) (x_neg x_int)) xa_nil))) xa_nil))) (x_tup xd_nil)))))) (xs_one (w_ret (x_call (K := K) F__law_lowest_one hr (xa_cons (x_var 0) xa_nil)))))⟩
end DL
namespace DL
open PySem PySem.Spec PyProof.Rows L2
noncomputable def z__law_answer : { s : Stmt // s = top 80 } := by
  refine ⟨?x, ?h⟩
  rotate_left
  · conv => rhs; whnf
noncomputable abbrev s__law_answer : Stmt := z__law_answer.val
theorem sc__law_answer : FnScope ["top", "under", "deep", "by"] ["top", "under"] (defScope s__law_answer) := ⟨rfl, rfl, rfl, by decide +kernel, rfl, by decide +kernel, by decide +kernel⟩
theorem bd__law_answer : BindAll "_law_answer" s__law_answer ["top", "under"] := fun _ _ _ _ _ _ us hl => match us, hl with | [_, _], _ => rfl
theorem wk__law_answer {P : Program} {w : World} {K : PySem.W.Frag} {mg : PySem.Str → Option Value} {base : Heap} {f : Addr} (B : Fre mg) (c : Csts K mg) (F__law_common : Has P w K mg base 6 "_law_common" ["one", "two"] 2 sp__law_common) (F__law_parted : Has P w K mg base 4 "_law_parted" ["one", "two"] 2 sp__law_parted) (F__law_per : Has P w K mg base 3 "_law_per" ["one", "two"] 2 sp__law_per) (F__law_times : Has P w K mg base 4 "_law_times" ["one", "by"] 2 sp__law_times) (cdv : Value) (A : Around) (outer : List Env) (s : Shared) (H : Hp) (E : L2.XK)
    (hr : Room 6 (cxF P w K mg base ["top", "under", "deep", "by"] "_law_answer" s__law_answer f cdv A outer s H E).A) : ∃ ts, XSs (cxF P w K mg base ["top", "under", "deep", "by"] "_law_answer" s__law_answer f cdv A outer s H E) (defBody s__law_answer) ts dt__law_answer := by
  have nd : (cxF P w K mg base ["top", "under", "deep", "by"] "_law_answer" s__law_answer f cdv A outer s H E).N.Nodup := sc__law_answer.nd
  exact ⟨_, (xs_cons (w_if (y_eq (K := K) hr (x_var 0) (x_tup xd_nil)) (xs_one (w_ret (x_tup (xd_cons (x_tup xd_nil) (xd_cons (x_tup (xd_cons (x_tup (xd_cons x_int (xd_cons x_int xd_nil))) xd_nil)) xd_nil))))) xs_nil) (xs_cons (w_set 2 nd (x_call (K := K) F__law_common hr (xa_cons (x_var 0) (xa_cons (x_var 1) xa_nil)))) (xs_cons (w_par 0 1 rfl nd (x_ix (K := K) (x_call (K := K) F__law_parted hr (xa_cons (x_var 0) (xa_cons (x_var 2) xa_nil))) x_int) (x_ix (K := K) (x_call (K := K) F__law_parted hr (xa_cons (x_var 1) (xa_cons (x_var 2) xa_nil))) x_int)) (xs_cons (w_set 3 nd (x_call (K := K) F__law_per hr (xa_cons (x_tup (xd_cons x_int (xd_cons x_int xd_nil))) (xa_cons (x_ix (K := K) (x_var 1) x_int) xa_nil)))) (xs_one (w_ret (x_tup (xd_cons (x_call (K := K) F__law_times hr (xa_cons (x_var 0) (xa_cons (x_var 3) xa_nil))) (xd_cons (x_call (K := K) F__law_times hr (xa_cons (x_var 1) (xa_cons (x_var 3) xa_nil))) xd_nil)))))))))⟩
end DL
namespace DL
open PySem PySem.Spec PyProof.Rows L2
noncomputable def z__law_draw : { s : Stmt // s = top 59 } := by
  refine ⟨?x, ?h⟩
  rotate_left
  · conv => rhs; whnf
noncomputable abbrev s__law_draw : Stmt := z__law_draw.val
theorem sc__law_draw : FnScope ["well", "top", "figure", "by"] ["well", "top"] (defScope s__law_draw) := ⟨rfl, rfl, rfl, by decide +kernel, rfl, by decide +kernel, by decide +kernel⟩
theorem bd__law_draw : BindAll "_law_draw" s__law_draw ["well", "top"] := fun _ _ _ _ _ _ us hl => match us, hl with | [_, _], _ => rfl
theorem wk__law_draw {P : Program} {w : World} {K : PySem.W.Frag} {mg : PySem.Str → Option Value} {base : Heap} {f : Addr} (B : Fre mg) (c : Csts K mg) (cdv : Value) (A : Around) (outer : List Env) (s : Shared) (H : Hp) (E : L2.XK)
    (hr : Room 0 (cxF P w K mg base ["well", "top", "figure", "by"] "_law_draw" s__law_draw f cdv A outer s H E).A) : ∃ ts, XSs (cxF P w K mg base ["well", "top", "figure", "by"] "_law_draw" s__law_draw f cdv A outer s H E) (defBody s__law_draw) ts dt__law_draw := by
  have nd : (cxF P w K mg base ["well", "top", "figure", "by"] "_law_draw" s__law_draw f cdv A outer s H E).N.Nodup := sc__law_draw.nd
  exact ⟨_, (xs_cons (w_if (y_gt (x_wix (K := K) 0) x_int) (xs_cons (w_wset2 0 2 rfl nd (x_divmod B.divmod (xa_cons (x_wix (K := K) 0) (xa_cons (x_var 1) xa_nil)))) (xs_one (w_retV 2))) xs_nil) (xs_cons (w_wset 0 (x_add (x_wix (K := K) 0) x_int)) (xs_cons (w_set 3 nd (x_add x_int (x_mul x_int (x_toint B.int (xa_cons (x_wix (K := K) 0) xa_nil))))) (xs_cons (w_wset 0 (x_mod (x_toint B.int (xa_cons (x_add (x_add (x_mul (x_wix (K := K) 0) (x_var 3)) (x_mul x_int (x_wix (K := K) 0))) x_int) xa_nil)) x_int)) (xs_one (w_ret (x_mod (x_toint B.int (xa_cons (x_fdivX (x_wix (K := K) 0) x_int) xa_nil)) (x_var 1))))))))⟩
end DL
namespace DL
open PySem PySem.Spec PyProof.Rows L2
noncomputable def z__law_pick : { s : Stmt // s = top 60 } := by
  refine ⟨?x, ?h⟩
  rotate_left
  · conv => rhs; whnf
noncomputable abbrev s__law_pick : Stmt := z__law_pick.val
theorem sc__law_pick : FnScope ["well", "some"] ["well", "some"] (defScope s__law_pick) := ⟨rfl, rfl, rfl, by decide +kernel, rfl, by decide +kernel, by decide +kernel⟩
theorem bd__law_pick : BindAll "_law_pick" s__law_pick ["well", "some"] := fun _ _ _ _ _ _ us hl => match us, hl with | [_, _], _ => rfl
theorem wk__law_pick {P : Program} {w : World} {K : PySem.W.Frag} {mg : PySem.Str → Option Value} {base : Heap} {f : Addr} (B : Fre mg) (c : Csts K mg) (F__law_draw : Has P w K mg base 1 "_law_draw" ["well", "top"] 2 sp__law_draw) (cdv : Value) (A : Around) (outer : List Env) (s : Shared) (H : Hp) (E : L2.XK)
    (hr : Room 1 (cxF P w K mg base ["well", "some"] "_law_pick" s__law_pick f cdv A outer s H E).A) : ∃ ts, XSs (cxF P w K mg base ["well", "some"] "_law_pick" s__law_pick f cdv A outer s H E) (defBody s__law_pick) ts dt__law_pick := by
  have nd : (cxF P w K mg base ["well", "some"] "_law_pick" s__law_pick f cdv A outer s H E).N.Nodup := sc__law_pick.nd
  exact ⟨_, (xs_one (w_ret (x_ix (K := K) (x_var 1) (x_call (K := K) F__law_draw hr (xa_cons (x_var 0) (xa_cons (x_len (K := K) B.len (xa_cons (x_var 1) xa_nil)) xa_nil))))))⟩
end DL
namespace DL
open PySem PySem.Spec PyProof.Rows L2
noncomputable def z_divisor_of : { s : Stmt // s = top 10 } := by
  refine ⟨?x, ?h⟩
  rotate_left
  · conv => rhs; whnf
noncomputable abbrev s_divisor_of : Stmt := z_divisor_of.val
theorem sc_divisor_of : FnScope ["numbers", "found", "number"] ["numbers"] (defScope s_divisor_of) := ⟨rfl, rfl, rfl, by decide +kernel, rfl, by decide +kernel, by decide +kernel⟩
theorem bd_divisor_of : BindAll "divisor_of" s_divisor_of ["numbers"] := fun _ _ _ _ _ _ us hl => match us, hl with | [_], _ => rfl
theorem wk_divisor_of {P : Program} {w : World} {K : PySem.W.Frag} {mg : PySem.Str → Option Value} {base : Heap} {f : Addr} (B : Fre mg) (c : Csts K mg) (cdv : Value) (A : Around) (outer : List Env) (s : Shared) (H : Hp) (E : L2.XK)
    (hr : Room 0 (cxF P w K mg base ["numbers", "found", "number"] "divisor_of" s_divisor_of f cdv A outer s H E).A) : ∃ ts, XSs (cxF P w K mg base ["numbers", "found", "number"] "divisor_of" s_divisor_of f cdv A outer s H E) (defBody s_divisor_of) ts dt_divisor_of := by
  have nd : (cxF P w K mg base ["numbers", "found", "number"] "divisor_of" s_divisor_of f cdv A outer s H E).N.Nodup := sc_divisor_of.nd
  exact ⟨_, (xs_cons (w_set 1 nd x_int) (xs_cons (w_for rfl rfl (xi_seq (x_var 0)) (xg_name 2 nd) (xs_one (w_set 1 nd (x_gcd B.gcd (xa_cons (x_var 1) (xa_cons (x_var 2) xa_nil)))))) (xs_one (w_retV 1))))⟩
end DL
namespace DL
open PySem PySem.Spec PyProof.Rows L2
noncomputable def z_lowest : { s : Stmt // s = top 11 } := by
  refine ⟨?x, ?h⟩
  rotate_left
  · conv => rhs; whnf
noncomputable abbrev s_lowest : Stmt := z_lowest.val
theorem sc_lowest : FnScope ["numbers", "part", "number"] ["numbers"] (defScope s_lowest) := ⟨rfl, rfl, rfl, by decide +kernel, rfl, by decide +kernel, by decide +kernel⟩
theorem bd_lowest : BindAll "lowest" s_lowest ["numbers"] := fun _ _ _ _ _ _ us hl => match us, hl with | [_], _ => rfl
theorem wk_lowest {P : Program} {w : World} {K : PySem.W.Frag} {mg : PySem.Str → Option Value} {base : Heap} {f : Addr} (B : Fre mg) (c : Csts K mg) (F_divisor_of : Has P w K mg base 1 "divisor_of" ["numbers"] 1 sp_divisor_of) (cdv : Value) (A : Around) (outer : List Env) (s : Shared) (H : Hp) (E : L2.XK)
    (hr : Room 1 (cxF P w K mg base ["numbers", "part", "number"] "lowest" s_lowest f cdv A outer s H E).A) : ∃ ts, XSs (cxF P w K mg base ["numbers", "part", "number"] "lowest" s_lowest f cdv A outer s H E) (defBody s_lowest) ts dt_lowest := by
  have nd : (cxF P w K mg base ["numbers", "part", "number"] "lowest" s_lowest f cdv A outer s H E).N.Nodup := sc_lowest.nd
  exact ⟨_, (xs_cons (w_set 1 nd (x_call (K := K) F_divisor_of hr (xa_cons (x_var 0) xa_nil))) (xs_one (w_ret (x_ifx (y_eq (K := K) hr (x_var 1) x_int) (x_tuple (K := K) B.tuple (xa_cons (x_var 0) xa_nil)) (x_tuple (K := K) B.tuple (xa_cons (x_lc rfl nd (xi_seq (x_var 0)) (blkOk_by (N := ["numbers", "part", "number"]) (sc := defScope s_lowest) (own := [("number", 2)]) (by decide +kernel)) (fun _ _ _ _ _ => (xg_name 2 (by exact nd))) (fun _ _ _ _ _ => xif_nil) (fun _ _ _ _ _ => (x_fdivX (x_var 2) (x_var 1)))) xa_nil))))))⟩
end DL
namespace DL
open PySem PySem.Spec PyProof.Rows L2
noncomputable def z_ratio : { s : Stmt // s = top 16 } := by
  refine ⟨?x, ?h⟩
  rotate_left
  · conv => rhs; whnf
noncomputable abbrev s_ratio : Stmt := z_ratio.val
theorem sc_ratio : FnScope ["top", "low"] ["top", "low"] (defScope s_ratio) := ⟨rfl, rfl, rfl, by decide +kernel, rfl, by decide +kernel, by decide +kernel⟩
theorem bd_ratio : BindAll "ratio" s_ratio ["top", "low"] := fun _ _ _ _ _ _ us hl => match us, hl with | [_, _], _ => rfl
theorem wk_ratio {P : Program} {w : World} {K : PySem.W.Frag} {mg : PySem.Str → Option Value} {base : Heap} {f : Addr} (B : Fre mg) (c : Csts K mg) (F_lowest : Has P w K mg base 2 "lowest" ["numbers"] 1 sp_lowest) (cdv : Value) (A : Around) (outer : List Env) (s : Shared) (H : Hp) (E : L2.XK)
    (hr : Room 2 (cxF P w K mg base ["top", "low"] "ratio" s_ratio f cdv A outer s H E).A) : ∃ ts, XSs (cxF P w K mg base ["top", "low"] "ratio" s_ratio f cdv A outer s H E) (defBody s_ratio) ts dt_ratio := by
  have nd : (cxF P w K mg base ["top", "low"] "ratio" s_ratio f cdv A outer s H E).N.Nodup := sc_ratio.nd
  exact ⟨_, (xs_one (w_ret (x_ifx (y_gt (x_var 1) x_int) (x_call (K := K) F_lowest hr (xa_cons (x_tup (xd_cons (x_var 0) (xd_cons (x_var 1) xd_nil))) xa_nil)) (x_call (K := K) F_lowest hr (xa_cons (x_tup (xd_cons (x_neg (x_var 0)) (xd_cons (x_neg (x_var 1)) xd_nil))) xa_nil)))))⟩
end DL
namespace DL
open PySem PySem.Spec PyProof.Rows L2
noncomputable def z_plus : { s : Stmt // s = top 17 } := by
  refine ⟨?x, ?h⟩
  rotate_left
  · conv => rhs; whnf
noncomputable abbrev s_plus : Stmt := z_plus.val
theorem sc_plus : FnScope ["one", "two"] ["one", "two"] (defScope s_plus) := ⟨rfl, rfl, rfl, by decide +kernel, rfl, by decide +kernel, by decide +kernel⟩
theorem bd_plus : BindAll "plus" s_plus ["one", "two"] := fun _ _ _ _ _ _ us hl => match us, hl with | [_, _], _ => rfl
theorem wk_plus {P : Program} {w : World} {K : PySem.W.Frag} {mg : PySem.Str → Option Value} {base : Heap} {f : Addr} (B : Fre mg) (c : Csts K mg) (F_ratio : Has P w K mg base 3 "ratio" ["top", "low"] 2 sp_ratio) (cdv : Value) (A : Around) (outer : List Env) (s : Shared) (H : Hp) (E : L2.XK)
    (hr : Room 3 (cxF P w K mg base ["one", "two"] "plus" s_plus f cdv A outer s H E).A) : ∃ ts, XSs (cxF P w K mg base ["one", "two"] "plus" s_plus f cdv A outer s H E) (defBody s_plus) ts dt_plus := by
  have nd : (cxF P w K mg base ["one", "two"] "plus" s_plus f cdv A outer s H E).N.Nodup := sc_plus.nd
  exact ⟨_, (xs_one (w_ret (x_call (K := K) F_ratio hr (xa_cons (x_add (x_mul (x_ix (K := K) (x_var 0) x_int) (x_ix (K := K) (x_var 1) x_int)) (x_mul (x_ix (K := K) (x_var 1) x_int) (x_ix (K := K) (x_var 0) x_int))) (xa_cons (x_mul (x_ix (K := K) (x_var 0) x_int) (x_ix (K := K) (x_var 1) x_int)) xa_nil)))))⟩
end DL
namespace DL
open PySem PySem.Spec PyProof.Rows L2
noncomputable def z_total : { s : Stmt // s = top 21 } := by
  refine ⟨?x, ?h⟩
  rotate_left
  · conv => rhs; whnf
noncomputable abbrev s_total : Stmt := z_total.val
theorem sc_total : FnScope ["fractions", "found", "each"] ["fractions"] (defScope s_total) := ⟨rfl, rfl, rfl, by decide +kernel, rfl, by decide +kernel, by decide +kernel⟩
theorem bd_total : BindAll "total" s_total ["fractions"] := fun _ _ _ _ _ _ us hl => match us, hl with | [_], _ => rfl
theorem wk_total {P : Program} {w : World} {K : PySem.W.Frag} {mg : PySem.Str → Option Value} {base : Heap} {f : Addr} (B : Fre mg) (c : Csts K mg) (F_plus : Has P w K mg base 4 "plus" ["one", "two"] 2 sp_plus) (cdv : Value) (A : Around) (outer : List Env) (s : Shared) (H : Hp) (E : L2.XK)
    (hr : Room 4 (cxF P w K mg base ["fractions", "found", "each"] "total" s_total f cdv A outer s H E).A) : ∃ ts, XSs (cxF P w K mg base ["fractions", "found", "each"] "total" s_total f cdv A outer s H E) (defBody s_total) ts dt_total := by
  have nd : (cxF P w K mg base ["fractions", "found", "each"] "total" s_total f cdv A outer s H E).N.Nodup := sc_total.nd
  exact ⟨_, (xs_cons (w_set 1 nd (x_cst c.k_ZERO)) (xs_cons (w_for rfl rfl (xi_seq (x_var 0)) (xg_name 2 nd) (xs_one (w_set 1 nd (x_call (K := K) F_plus hr (xa_cons (x_var 1) (xa_cons (x_var 2) xa_nil)))))) (xs_one (w_retV 1))))⟩
end DL
namespace DL
open PySem PySem.Spec PyProof.Rows L2
noncomputable def z_size_of : { s : Stmt // s = top 23 } := by
  refine ⟨?x, ?h⟩
  rotate_left
  · conv => rhs; whnf
noncomputable abbrev s_size_of : Stmt := z_size_of.val
theorem sc_size_of : FnScope ["one"] ["one"] (defScope s_size_of) := ⟨rfl, rfl, rfl, by decide +kernel, rfl, by decide +kernel, by decide +kernel⟩
theorem bd_size_of : BindAll "size_of" s_size_of ["one"] := fun _ _ _ _ _ _ us hl => match us, hl with | [_], _ => rfl
theorem wk_size_of {P : Program} {w : World} {K : PySem.W.Frag} {mg : PySem.Str → Option Value} {base : Heap} {f : Addr} (B : Fre mg) (c : Csts K mg) (cdv : Value) (A : Around) (outer : List Env) (s : Shared) (H : Hp) (E : L2.XK)
    (hr : Room 0 (cxF P w K mg base ["one"] "size_of" s_size_of f cdv A outer s H E).A) : ∃ ts, XSs (cxF P w K mg base ["one"] "size_of" s_size_of f cdv A outer s H E) (defBody s_size_of) ts dt_size_of := by
  have nd : (cxF P w K mg base ["one"] "size_of" s_size_of f cdv A outer s H E).N.Nodup := sc_size_of.nd
  exact ⟨_, (xs_one (w_ret (x_tup (xd_cons (x_abs B.abs (xa_cons (x_ix (K := K) (x_var 0) x_int) xa_nil)) (xd_cons (x_ix (K := K) (x_var 0) x_int) xd_nil)))))⟩
end DL
namespace DL
open PySem PySem.Spec PyProof.Rows L2
noncomputable def z_sizes_by : { s : Stmt // s = top 51 } := by
  refine ⟨?x, ?h⟩
  rotate_left
  · conv => rhs; whnf
noncomputable abbrev s_sizes_by : Stmt := z_sizes_by.val
theorem sc_sizes_by : FnScope ["row", "each"] ["row"] (defScope s_sizes_by) := ⟨rfl, rfl, rfl, by decide +kernel, rfl, by decide +kernel, by decide +kernel⟩
theorem bd_sizes_by : BindAll "sizes_by" s_sizes_by ["row"] := fun _ _ _ _ _ _ us hl => match us, hl with | [_], _ => rfl
theorem wk_sizes_by {P : Program} {w : World} {K : PySem.W.Frag} {mg : PySem.Str → Option Value} {base : Heap} {f : Addr} (B : Fre mg) (c : Csts K mg) (F_total : Has P w K mg base 5 "total" ["fractions"] 1 sp_total) (F_size_of : Has P w K mg base 1 "size_of" ["one"] 1 sp_size_of) (cdv : Value) (A : Around) (outer : List Env) (s : Shared) (H : Hp) (E : L2.XK)
    (hr : Room 5 (cxF P w K mg base ["row", "each"] "sizes_by" s_sizes_by f cdv A outer s H E).A) : ∃ ts, XSs (cxF P w K mg base ["row", "each"] "sizes_by" s_sizes_by f cdv A outer s H E) (defBody s_sizes_by) ts dt_sizes_by := by
  have nd : (cxF P w K mg base ["row", "each"] "sizes_by" s_sizes_by f cdv A outer s H E).N.Nodup := sc_sizes_by.nd
  exact ⟨_, (xs_one (w_ret (x_call (K := K) F_total hr (xa_cons (x_lc rfl nd (xi_seq (x_var 0)) (blkOk_by (N := ["row", "each"]) (sc := defScope s_sizes_by) (own := [("each", 1)]) (by decide +kernel)) (fun _ _ _ _ _ => (xg_name 1 (by exact nd))) (fun _ _ _ _ _ => xif_nil) (fun _ _ _ _ _ => (x_call (K := K) F_size_of (by exact hr) (xa_cons (x_var 1) xa_nil)))) xa_nil))))⟩
end DL
namespace DL
open PySem PySem.Spec PyProof.Rows L2
noncomputable def z_trimmed : { s : Stmt // s = top 26 } := by
  refine ⟨?x, ?h⟩
  rotate_left
  · conv => rhs; whnf
noncomputable abbrev s_trimmed : Stmt := z_trimmed.val
theorem sc_trimmed : FnScope ["numbers", "found"] ["numbers"] (defScope s_trimmed) := ⟨rfl, rfl, rfl, by decide +kernel, rfl, by decide +kernel, by decide +kernel⟩
theorem bd_trimmed : BindAll "trimmed" s_trimmed ["numbers"] := fun _ _ _ _ _ _ us hl => match us, hl with | [_], _ => rfl
theorem wk_trimmed {P : Program} {w : World} {K : PySem.W.Frag} {mg : PySem.Str → Option Value} {base : Heap} {f : Addr} (B : Fre mg) (c : Csts K mg) (cdv : Value) (A : Around) (outer : List Env) (s : Shared) (H : Hp) (E : L2.XK)
    (hr : Room 0 (cxF P w K mg base ["numbers", "found"] "trimmed" s_trimmed f cdv A outer s H E).A) : ∃ ts, XSs (cxF P w K mg base ["numbers", "found"] "trimmed" s_trimmed f cdv A outer s H E) (defBody s_trimmed) ts dt_trimmed := by
  have nd : (cxF P w K mg base ["numbers", "found"] "trimmed" s_trimmed f cdv A outer s H E).N.Nodup := sc_trimmed.nd
  exact ⟨_, (xs_cons (w_set 1 nd (x_list (K := K) B.list (xa_cons (x_var 0) xa_nil))) (xs_cons (w_while rfl (y_w (y_and (y_ne (K := K) hr (x_var 1) (x_lst xd_nil)) (y_and1 (y_eq (K := K) hr (x_ix (K := K) (x_var 1) (x_neg x_int)) (x_cst c.k_ZERO))))) (xs_one (w_pop 1))) (xs_one (w_ret (x_tuple (K := K) B.tuple (xa_cons (x_var 1) xa_nil))))))⟩
end DL
namespace DL
open PySem PySem.Spec PyProof.Rows L2
noncomputable def z_minus : { s : Stmt // s = top 18 } := by
  refine ⟨?x, ?h⟩
  rotate_left
  · conv => rhs; whnf
noncomputable abbrev s_minus : Stmt := z_minus.val
theorem sc_minus : FnScope ["one", "two"] ["one", "two"] (defScope s_minus) := ⟨rfl, rfl, rfl, by decide +kernel, rfl, by decide +kernel, by decide +kernel⟩
theorem bd_minus : BindAll "minus" s_minus ["one", "two"] := fun _ _ _ _ _ _ us hl => match us, hl with | [_, _], _ => rfl
theorem wk_minus {P : Program} {w : World} {K : PySem.W.Frag} {mg : PySem.Str → Option Value} {base : Heap} {f : Addr} (B : Fre mg) (c : Csts K mg) (F_ratio : Has P w K mg base 3 "ratio" ["top", "low"] 2 sp_ratio) (cdv : Value) (A : Around) (outer : List Env) (s : Shared) (H : Hp) (E : L2.XK)
    (hr : Room 3 (cxF P w K mg base ["one", "two"] "minus" s_minus f cdv A outer s H E).A) : ∃ ts, XSs (cxF P w K mg base ["one", "two"] "minus" s_minus f cdv A outer s H E) (defBody s_minus) ts dt_minus := by
  have nd : (cxF P w K mg base ["one", "two"] "minus" s_minus f cdv A outer s H E).N.Nodup := sc_minus.nd
  exact ⟨_, (xs_one (w_ret (x_call (K := K) F_ratio hr (xa_cons (x_sub (x_mul (x_ix (K := K) (x_var 0) x_int) (x_ix (K := K) (x_var 1) x_int)) (x_mul (x_ix (K := K) (x_var 1) x_int) (x_ix (K := K) (x_var 0) x_int))) (xa_cons (x_mul (x_ix (K := K) (x_var 0) x_int) (x_ix (K := K) (x_var 1) x_int)) xa_nil)))))⟩
end DL
namespace DL
open PySem PySem.Spec PyProof.Rows L2
noncomputable def z_number_at : { s : Stmt // s = top 27 } := by
  refine ⟨?x, ?h⟩
  rotate_left
  · conv => rhs; whnf
noncomputable abbrev s_number_at : Stmt := z_number_at.val
theorem sc_number_at : FnScope ["row", "place"] ["row", "place"] (defScope s_number_at) := ⟨rfl, rfl, rfl, by decide +kernel, rfl, by decide +kernel, by decide +kernel⟩
theorem bd_number_at : BindAll "number_at" s_number_at ["row", "place"] := fun _ _ _ _ _ _ us hl => match us, hl with | [_, _], _ => rfl
theorem wk_number_at {P : Program} {w : World} {K : PySem.W.Frag} {mg : PySem.Str → Option Value} {base : Heap} {f : Addr} (B : Fre mg) (c : Csts K mg) (cdv : Value) (A : Around) (outer : List Env) (s : Shared) (H : Hp) (E : L2.XK)
    (hr : Room 0 (cxF P w K mg base ["row", "place"] "number_at" s_number_at f cdv A outer s H E).A) : ∃ ts, XSs (cxF P w K mg base ["row", "place"] "number_at" s_number_at f cdv A outer s H E) (defBody s_number_at) ts dt_number_at := by
  have nd : (cxF P w K mg base ["row", "place"] "number_at" s_number_at f cdv A outer s H E).N.Nodup := sc_number_at.nd
  exact ⟨_, (xs_one (w_ret (x_ifx (y_lt (x_var 1) (x_len (K := K) B.len (xa_cons (x_var 0) xa_nil))) (x_ix (K := K) (x_var 0) (x_var 1)) (x_cst c.k_ZERO))))⟩
end DL
namespace DL
open PySem PySem.Spec PyProof.Rows L2
noncomputable def z_lessened : { s : Stmt // s = top 29 } := by
  refine ⟨?x, ?h⟩
  rotate_left
  · conv => rhs; whnf
noncomputable abbrev s_lessened : Stmt := z_lessened.val
theorem sc_lessened : FnScope ["row", "other", "many", "at"] ["row", "other"] (defScope s_lessened) := ⟨rfl, rfl, rfl, by decide +kernel, rfl, by decide +kernel, by decide +kernel⟩
theorem bd_lessened : BindAll "lessened" s_lessened ["row", "other"] := fun _ _ _ _ _ _ us hl => match us, hl with | [_, _], _ => rfl
theorem wk_lessened {P : Program} {w : World} {K : PySem.W.Frag} {mg : PySem.Str → Option Value} {base : Heap} {f : Addr} (B : Fre mg) (c : Csts K mg) (F_trimmed : Has P w K mg base 1 "trimmed" ["numbers"] 1 sp_trimmed) (F_minus : Has P w K mg base 4 "minus" ["one", "two"] 2 sp_minus) (F_number_at : Has P w K mg base 1 "number_at" ["row", "place"] 2 sp_number_at) (cdv : Value) (A : Around) (outer : List Env) (s : Shared) (H : Hp) (E : L2.XK)
    (hr : Room 4 (cxF P w K mg base ["row", "other", "many", "at"] "lessened" s_lessened f cdv A outer s H E).A) : ∃ ts, XSs (cxF P w K mg base ["row", "other", "many", "at"] "lessened" s_lessened f cdv A outer s H E) (defBody s_lessened) ts dt_lessened := by
  have nd : (cxF P w K mg base ["row", "other", "many", "at"] "lessened" s_lessened f cdv A outer s H E).N.Nodup := sc_lessened.nd
  exact ⟨_, (xs_cons (w_set 2 nd (x_max2 rfl B.max (xa_cons (x_len (K := K) B.len (xa_cons (x_var 0) xa_nil)) (xa_cons (x_len (K := K) B.len (xa_cons (x_var 1) xa_nil)) xa_nil)))) (xs_one (w_ret (x_call (K := K) F_trimmed hr (xa_cons (x_lc rfl nd (xi_r1 B.range (x_var 2)) (blkOk_by (N := ["row", "other", "many", "at"]) (sc := defScope s_lessened) (own := [("at", 3)]) (by decide +kernel)) (fun _ _ _ _ _ => (xg_name 3 (by exact nd))) (fun _ _ _ _ _ => xif_nil) (fun _ _ _ _ _ => (x_call (K := K) F_minus (by exact hr) (xa_cons (x_call (K := K) F_number_at (by exact hr) (xa_cons (x_var 0) (xa_cons (x_var 3) xa_nil))) (xa_cons (x_call (K := K) F_number_at (by exact hr) (xa_cons (x_var 1) (xa_cons (x_var 3) xa_nil))) xa_nil))))) xa_nil)))))⟩
end DL
namespace DL
open PySem PySem.Spec PyProof.Rows L2
noncomputable def z_is_below : { s : Stmt // s = top 22 } := by
  refine ⟨?x, ?h⟩
  rotate_left
  · conv => rhs; whnf
noncomputable abbrev s_is_below : Stmt := z_is_below.val
theorem sc_is_below : FnScope ["one", "two"] ["one", "two"] (defScope s_is_below) := ⟨rfl, rfl, rfl, by decide +kernel, rfl, by decide +kernel, by decide +kernel⟩
theorem bd_is_below : BindAll "is_below" s_is_below ["one", "two"] := fun _ _ _ _ _ _ us hl => match us, hl with | [_, _], _ => rfl
theorem wk_is_below {P : Program} {w : World} {K : PySem.W.Frag} {mg : PySem.Str → Option Value} {base : Heap} {f : Addr} (B : Fre mg) (c : Csts K mg) (cdv : Value) (A : Around) (outer : List Env) (s : Shared) (H : Hp) (E : L2.XK)
    (hr : Room 0 (cxF P w K mg base ["one", "two"] "is_below" s_is_below f cdv A outer s H E).A) : ∃ ts, XSs (cxF P w K mg base ["one", "two"] "is_below" s_is_below f cdv A outer s H E) (defBody s_is_below) ts dt_is_below := by
  have nd : (cxF P w K mg base ["one", "two"] "is_below" s_is_below f cdv A outer s H E).N.Nodup := sc_is_below.nd
  exact ⟨_, (xs_one (w_ret (x_lt (x_mul (x_ix (K := K) (x_var 0) x_int) (x_ix (K := K) (x_var 1) x_int)) (x_mul (x_ix (K := K) (x_var 1) x_int) (x_ix (K := K) (x_var 0) x_int)))))⟩
end DL
namespace DL
open PySem PySem.Spec PyProof.Rows L2
noncomputable def z_times : { s : Stmt // s = top 19 } := by
  refine ⟨?x, ?h⟩
  rotate_left
  · conv => rhs; whnf
noncomputable abbrev s_times : Stmt := z_times.val
theorem sc_times : FnScope ["one", "two"] ["one", "two"] (defScope s_times) := ⟨rfl, rfl, rfl, by decide +kernel, rfl, by decide +kernel, by decide +kernel⟩
theorem bd_times : BindAll "times" s_times ["one", "two"] := fun _ _ _ _ _ _ us hl => match us, hl with | [_, _], _ => rfl
theorem wk_times {P : Program} {w : World} {K : PySem.W.Frag} {mg : PySem.Str → Option Value} {base : Heap} {f : Addr} (B : Fre mg) (c : Csts K mg) (F_ratio : Has P w K mg base 3 "ratio" ["top", "low"] 2 sp_ratio) (cdv : Value) (A : Around) (outer : List Env) (s : Shared) (H : Hp) (E : L2.XK)
    (hr : Room 3 (cxF P w K mg base ["one", "two"] "times" s_times f cdv A outer s H E).A) : ∃ ts, XSs (cxF P w K mg base ["one", "two"] "times" s_times f cdv A outer s H E) (defBody s_times) ts dt_times := by
  have nd : (cxF P w K mg base ["one", "two"] "times" s_times f cdv A outer s H E).N.Nodup := sc_times.nd
  exact ⟨_, (xs_one (w_ret (x_call (K := K) F_ratio hr (xa_cons (x_mul (x_ix (K := K) (x_var 0) x_int) (x_ix (K := K) (x_var 1) x_int)) (xa_cons (x_mul (x_ix (K := K) (x_var 0) x_int) (x_ix (K := K) (x_var 1) x_int)) xa_nil)))))⟩
end DL
namespace DL
open PySem PySem.Spec PyProof.Rows L2
noncomputable def z_multiplied : { s : Stmt // s = top 30 } := by
  refine ⟨?x, ?h⟩
  rotate_left
  · conv => rhs; whnf
noncomputable abbrev s_multiplied : Stmt := z_multiplied.val
theorem sc_multiplied : FnScope ["row", "other", "found", "place", "one", "at", "two"] ["row", "other"] (defScope s_multiplied) := ⟨rfl, rfl, rfl, by decide +kernel, rfl, by decide +kernel, by decide +kernel⟩
theorem bd_multiplied : BindAll "multiplied" s_multiplied ["row", "other"] := fun _ _ _ _ _ _ us hl => match us, hl with | [_, _], _ => rfl
theorem wk_multiplied {P : Program} {w : World} {K : PySem.W.Frag} {mg : PySem.Str → Option Value} {base : Heap} {f : Addr} (B : Fre mg) (c : Csts K mg) (F_plus : Has P w K mg base 4 "plus" ["one", "two"] 2 sp_plus) (F_times : Has P w K mg base 4 "times" ["one", "two"] 2 sp_times) (F_trimmed : Has P w K mg base 1 "trimmed" ["numbers"] 1 sp_trimmed) (cdv : Value) (A : Around) (outer : List Env) (s : Shared) (H : Hp) (E : L2.XK)
    (hr : Room 4 (cxF P w K mg base ["row", "other", "found", "place", "one", "at", "two"] "multiplied" s_multiplied f cdv A outer s H E).A) : ∃ ts, XSs (cxF P w K mg base ["row", "other", "found", "place", "one", "at", "two"] "multiplied" s_multiplied f cdv A outer s H E) (defBody s_multiplied) ts dt_multiplied := by
  have nd : (cxF P w K mg base ["row", "other", "found", "place", "one", "at", "two"] "multiplied" s_multiplied f cdv A outer s H E).N.Nodup := sc_multiplied.nd
  exact ⟨_, (xs_cons (w_set 2 nd (x_rep (x_lst (xd_cons (x_cst c.k_ZERO) xd_nil)) (x_add (x_len (K := K) B.len (xa_cons (x_var 0) xa_nil)) (x_len (K := K) B.len (xa_cons (x_var 1) xa_nil))))) (xs_cons (w_for rfl rfl (xi_enumT B.enumerate (x_var 0)) (xg_tup (K := K) rfl (xgs_cons (xg_name 3 nd) (xgs_cons (xg_name 4 nd) xgs_nil))) (xs_one (w_for rfl rfl (xi_enumT B.enumerate (x_var 1)) (xg_tup (K := K) rfl (xgs_cons (xg_name 5 nd) (xgs_cons (xg_name 6 nd) xgs_nil))) (xs_one (w_setIx 2 (x_call (K := K) F_plus hr (xa_cons (x_ix (K := K) (x_var 2) (x_add (x_var 3) (x_var 5))) (xa_cons (x_call (K := K) F_times hr (xa_cons (x_var 4) (xa_cons (x_var 6) xa_nil))) xa_nil))) (x_add (x_var 3) (x_var 5))))))) (xs_one (w_ret (x_call (K := K) F_trimmed hr (xa_cons (x_var 2) xa_nil))))))⟩
end DL
namespace DL
open PySem PySem.Spec PyProof.Rows L2
noncomputable def z_over : { s : Stmt // s = top 20 } := by
  refine ⟨?x, ?h⟩
  rotate_left
  · conv => rhs; whnf
noncomputable abbrev s_over : Stmt := z_over.val
theorem sc_over : FnScope ["one", "two"] ["one", "two"] (defScope s_over) := ⟨rfl, rfl, rfl, by decide +kernel, rfl, by decide +kernel, by decide +kernel⟩
theorem bd_over : BindAll "over" s_over ["one", "two"] := fun _ _ _ _ _ _ us hl => match us, hl with | [_, _], _ => rfl
theorem wk_over {P : Program} {w : World} {K : PySem.W.Frag} {mg : PySem.Str → Option Value} {base : Heap} {f : Addr} (B : Fre mg) (c : Csts K mg) (F_ratio : Has P w K mg base 3 "ratio" ["top", "low"] 2 sp_ratio) (cdv : Value) (A : Around) (outer : List Env) (s : Shared) (H : Hp) (E : L2.XK)
    (hr : Room 3 (cxF P w K mg base ["one", "two"] "over" s_over f cdv A outer s H E).A) : ∃ ts, XSs (cxF P w K mg base ["one", "two"] "over" s_over f cdv A outer s H E) (defBody s_over) ts dt_over := by
  have nd : (cxF P w K mg base ["one", "two"] "over" s_over f cdv A outer s H E).N.Nodup := sc_over.nd
  exact ⟨_, (xs_one (w_ret (x_call (K := K) F_ratio hr (xa_cons (x_mul (x_ix (K := K) (x_var 0) x_int) (x_ix (K := K) (x_var 1) x_int)) (xa_cons (x_mul (x_ix (K := K) (x_var 0) x_int) (x_ix (K := K) (x_var 1) x_int)) xa_nil)))))⟩
end DL
namespace DL
open PySem PySem.Spec PyProof.Rows L2
noncomputable def z_bounds_by : { s : Stmt // s = top 52 } := by
  refine ⟨?x, ?h⟩
  rotate_left
  · conv => rhs; whnf
noncomputable abbrev s_bounds_by : Stmt := z_bounds_by.val
theorem sc_bounds_by : FnScope ["answer", "row", "top", "under", "share", "upper"] ["answer", "row"] (defScope s_bounds_by) := ⟨rfl, rfl, rfl, by decide +kernel, rfl, by decide +kernel, by decide +kernel⟩
theorem bd_bounds_by : BindAll "bounds_by" s_bounds_by ["answer", "row"] := fun _ _ _ _ _ _ us hl => match us, hl with | [_, _], _ => rfl
theorem wk_bounds_by {P : Program} {w : World} {K : PySem.W.Frag} {mg : PySem.Str → Option Value} {base : Heap} {f : Addr} (B : Fre mg) (c : Csts K mg) (F_sizes_by : Has P w K mg base 6 "sizes_by" ["row"] 1 sp_sizes_by) (F_lessened : Has P w K mg base 5 "lessened" ["row", "other"] 2 sp_lessened) (F_multiplied : Has P w K mg base 5 "multiplied" ["row", "other"] 2 sp_multiplied) (F_is_below : Has P w K mg base 1 "is_below" ["one", "two"] 2 sp_is_below) (F_over : Has P w K mg base 4 "over" ["one", "two"] 2 sp_over) (F_minus : Has P w K mg base 4 "minus" ["one", "two"] 2 sp_minus) (F_plus : Has P w K mg base 4 "plus" ["one", "two"] 2 sp_plus) (cdv : Value) (A : Around) (outer : List Env) (s : Shared) (H : Hp) (E : L2.XK)
    (hr : Room 6 (cxF P w K mg base ["answer", "row", "top", "under", "share", "upper"] "bounds_by" s_bounds_by f cdv A outer s H E).A) : ∃ ts, XSs (cxF P w K mg base ["answer", "row", "top", "under", "share", "upper"] "bounds_by" s_bounds_by f cdv A outer s H E) (defBody s_bounds_by) ts dt_bounds_by := by
  have nd : (cxF P w K mg base ["answer", "row", "top", "under", "share", "upper"] "bounds_by" s_bounds_by f cdv A outer s H E).N.Nodup := sc_bounds_by.nd
  exact ⟨_, (xs_cons (w_asg (x_var 0) (xg_tup (K := K) rfl (xgs_cons (xg_name 2 nd) (xgs_cons (xg_name 3 nd) xgs_nil)))) (xs_cons (w_set 4 nd (x_call (K := K) F_sizes_by hr (xa_cons (x_call (K := K) F_lessened hr (xa_cons (x_cst c.k_UNIT) (xa_cons (x_call (K := K) F_multiplied hr (xa_cons (x_var 3) (xa_cons (x_var 1) xa_nil))) xa_nil))) xa_nil))) (xs_cons (w_if (y_not (y_of (x_call (K := K) F_is_below hr (xa_cons (x_var 4) (xa_cons (x_cst c.k_ONE) xa_nil))))) (xs_one (w_ret x_non)) xs_nil) (xs_cons (w_set 5 nd (x_call (K := K) F_sizes_by hr (xa_cons (x_call (K := K) F_multiplied hr (xa_cons (x_var 2) (xa_cons (x_var 1) xa_nil))) xa_nil))) (xs_one (w_ret (x_tup (xd_cons (x_call (K := K) F_over hr (xa_cons (x_var 5) (xa_cons (x_call (K := K) F_plus hr (xa_cons (x_cst c.k_ONE) (xa_cons (x_var 4) xa_nil))) xa_nil))) (xd_cons (x_call (K := K) F_over hr (xa_cons (x_var 5) (xa_cons (x_call (K := K) F_minus hr (xa_cons (x_cst c.k_ONE) (xa_cons (x_var 4) xa_nil))) xa_nil))) xd_nil)))))))))⟩
end DL
namespace DL
open PySem PySem.Spec PyProof.Rows L2
noncomputable def z_scaled : { s : Stmt // s = top 28 } := by
  refine ⟨?x, ?h⟩
  rotate_left
  · conv => rhs; whnf
noncomputable abbrev s_scaled : Stmt := z_scaled.val
theorem sc_scaled : FnScope ["number", "row", "each"] ["number", "row"] (defScope s_scaled) := ⟨rfl, rfl, rfl, by decide +kernel, rfl, by decide +kernel, by decide +kernel⟩
theorem bd_scaled : BindAll "scaled" s_scaled ["number", "row"] := fun _ _ _ _ _ _ us hl => match us, hl with | [_, _], _ => rfl
theorem wk_scaled {P : Program} {w : World} {K : PySem.W.Frag} {mg : PySem.Str → Option Value} {base : Heap} {f : Addr} (B : Fre mg) (c : Csts K mg) (F_trimmed : Has P w K mg base 1 "trimmed" ["numbers"] 1 sp_trimmed) (F_times : Has P w K mg base 4 "times" ["one", "two"] 2 sp_times) (cdv : Value) (A : Around) (outer : List Env) (s : Shared) (H : Hp) (E : L2.XK)
    (hr : Room 4 (cxF P w K mg base ["number", "row", "each"] "scaled" s_scaled f cdv A outer s H E).A) : ∃ ts, XSs (cxF P w K mg base ["number", "row", "each"] "scaled" s_scaled f cdv A outer s H E) (defBody s_scaled) ts dt_scaled := by
  have nd : (cxF P w K mg base ["number", "row", "each"] "scaled" s_scaled f cdv A outer s H E).N.Nodup := sc_scaled.nd
  exact ⟨_, (xs_one (w_ret (x_call (K := K) F_trimmed hr (xa_cons (x_lc rfl nd (xi_seq (x_var 1)) (blkOk_by (N := ["number", "row", "each"]) (sc := defScope s_scaled) (own := [("each", 2)]) (by decide +kernel)) (fun _ _ _ _ _ => (xg_name 2 (by exact nd))) (fun _ _ _ _ _ => xif_nil) (fun _ _ _ _ _ => (x_call (K := K) F_times (by exact hr) (xa_cons (x_var 0) (xa_cons (x_var 2) xa_nil))))) xa_nil))))⟩
end DL
namespace DL
open PySem PySem.Spec PyProof.Rows L2
noncomputable def z_first_of : { s : Stmt // s = top 33 } := by
  refine ⟨?x, ?h⟩
  rotate_left
  · conv => rhs; whnf
noncomputable abbrev s_first_of : Stmt := z_first_of.val
theorem sc_first_of : FnScope ["row", "each"] ["row"] (defScope s_first_of) := ⟨rfl, rfl, rfl, by decide +kernel, rfl, by decide +kernel, by decide +kernel⟩
theorem bd_first_of : BindAll "first_of" s_first_of ["row"] := fun _ _ _ _ _ _ us hl => match us, hl with | [_], _ => rfl
theorem wk_first_of {P : Program} {w : World} {K : PySem.W.Frag} {mg : PySem.Str → Option Value} {base : Heap} {f : Addr} (B : Fre mg) (c : Csts K mg) (cdv : Value) (A : Around) (outer : List Env) (s : Shared) (H : Hp) (E : L2.XK)
    (hr : Room 0 (cxF P w K mg base ["row", "each"] "first_of" s_first_of f cdv A outer s H E).A) : ∃ ts, XSs (cxF P w K mg base ["row", "each"] "first_of" s_first_of f cdv A outer s H E) (defBody s_first_of) ts dt_first_of := by
  have nd : (cxF P w K mg base ["row", "each"] "first_of" s_first_of f cdv A outer s H E).N.Nodup := sc_first_of.nd
  exact ⟨_, (xs_one (w_ret (x_ix (K := K) (x_lc rfl nd (xi_seq (x_var 0)) (blkOk_by (N := ["row", "each"]) (sc := defScope s_first_of) (own := [("each", 1)]) (by decide +kernel)) (fun _ _ _ _ _ => (xg_name 1 (by exact nd))) (fun _ _ _ _ _ => xif_one (y_ne (K := K) (by exact hr) (x_var 1) (x_cst c.k_ZERO))) (fun _ _ _ _ _ => (x_var 1))) x_int)))⟩
end DL
namespace DL
open PySem PySem.Spec PyProof.Rows L2
noncomputable def z_parted_by : { s : Stmt // s = top 31 } := by
  refine ⟨?x, ?h⟩
  rotate_left
  · conv => rhs; whnf
noncomputable abbrev s_parted_by : Stmt := z_parted_by.val
theorem sc_parted_by : FnScope ["row", "other", "left", "found", "shift", "at", "number"] ["row", "other"] (defScope s_parted_by) := ⟨rfl, rfl, rfl, by decide +kernel, rfl, by decide +kernel, by decide +kernel⟩
theorem bd_parted_by : BindAll "parted_by" s_parted_by ["row", "other"] := fun _ _ _ _ _ _ us hl => match us, hl with | [_, _], _ => rfl
theorem wk_parted_by {P : Program} {w : World} {K : PySem.W.Frag} {mg : PySem.Str → Option Value} {base : Heap} {f : Addr} (B : Fre mg) (c : Csts K mg) (F_over : Has P w K mg base 4 "over" ["one", "two"] 2 sp_over) (F_minus : Has P w K mg base 4 "minus" ["one", "two"] 2 sp_minus) (F_times : Has P w K mg base 4 "times" ["one", "two"] 2 sp_times) (F_trimmed : Has P w K mg base 1 "trimmed" ["numbers"] 1 sp_trimmed) (cdv : Value) (A : Around) (outer : List Env) (s : Shared) (H : Hp) (E : L2.XK)
    (hr : Room 4 (cxF P w K mg base ["row", "other", "left", "found", "shift", "at", "number"] "parted_by" s_parted_by f cdv A outer s H E).A) : ∃ ts, XSs (cxF P w K mg base ["row", "other", "left", "found", "shift", "at", "number"] "parted_by" s_parted_by f cdv A outer s H E) (defBody s_parted_by) ts dt_parted_by := by
  have nd : (cxF P w K mg base ["row", "other", "left", "found", "shift", "at", "number"] "parted_by" s_parted_by f cdv A outer s H E).N.Nodup := sc_parted_by.nd
  exact ⟨_, (xs_cons (w_par 2 3 rfl nd (x_list (K := K) B.list (xa_cons (x_var 0) xa_nil)) (x_rep (x_lst (xd_cons (x_cst c.k_ZERO) xd_nil)) (x_max2 rfl B.max (xa_cons x_int (xa_cons (x_add (x_sub (x_len (K := K) B.len (xa_cons (x_var 0) xa_nil)) (x_len (K := K) B.len (xa_cons (x_var 1) xa_nil))) x_int) xa_nil))))) (xs_cons (w_for rfl rfl (xi_revR B.reversed B.range (x_len (K := K) B.len (xa_cons (x_var 3) xa_nil))) (xg_name 4 nd) (xs_cons (w_setIx 3 (x_call (K := K) F_over hr (xa_cons (x_ix (K := K) (x_var 2) (x_sub (x_add (x_var 4) (x_len (K := K) B.len (xa_cons (x_var 1) xa_nil))) x_int)) (xa_cons (x_ix (K := K) (x_var 1) (x_neg x_int)) xa_nil))) (x_var 4)) (xs_one (w_for rfl rfl (xi_enumT B.enumerate (x_var 1)) (xg_tup (K := K) rfl (xgs_cons (xg_name 5 nd) (xgs_cons (xg_name 6 nd) xgs_nil))) (xs_one (w_setIx 2 (x_call (K := K) F_minus hr (xa_cons (x_ix (K := K) (x_var 2) (x_add (x_var 4) (x_var 5))) (xa_cons (x_call (K := K) F_times hr (xa_cons (x_ix (K := K) (x_var 3) (x_var 4)) (xa_cons (x_var 6) xa_nil))) xa_nil))) (x_add (x_var 4) (x_var 5)))))))) (xs_one (w_ret (x_tup (xd_cons (x_call (K := K) F_trimmed hr (xa_cons (x_var 3) xa_nil)) (xd_cons (x_call (K := K) F_trimmed hr (xa_cons (x_var 2) xa_nil)) xd_nil)))))))⟩
end DL
namespace DL
open PySem PySem.Spec PyProof.Rows L2
noncomputable def z_divisor_by : { s : Stmt // s = top 34 } := by
  refine ⟨?x, ?h⟩
  rotate_left
  · conv => rhs; whnf
noncomputable abbrev s_divisor_by : Stmt := z_divisor_by.val
theorem sc_divisor_by : FnScope ["row", "other"] ["row", "other"] (defScope s_divisor_by) := ⟨rfl, rfl, rfl, by decide +kernel, rfl, by decide +kernel, by decide +kernel⟩
theorem bd_divisor_by : BindAll "divisor_by" s_divisor_by ["row", "other"] := fun _ _ _ _ _ _ us hl => match us, hl with | [_, _], _ => rfl
theorem wk_divisor_by {P : Program} {w : World} {K : PySem.W.Frag} {mg : PySem.Str → Option Value} {base : Heap} {f : Addr} (B : Fre mg) (c : Csts K mg) (F_parted_by : Has P w K mg base 5 "parted_by" ["row", "other"] 2 sp_parted_by) (F_scaled : Has P w K mg base 5 "scaled" ["number", "row"] 2 sp_scaled) (F_over : Has P w K mg base 4 "over" ["one", "two"] 2 sp_over) (F_first_of : Has P w K mg base 1 "first_of" ["row"] 1 sp_first_of) (cdv : Value) (A : Around) (outer : List Env) (s : Shared) (H : Hp) (E : L2.XK)
    (hr : Room 5 (cxF P w K mg base ["row", "other"] "divisor_by" s_divisor_by f cdv A outer s H E).A) : ∃ ts, XSs (cxF P w K mg base ["row", "other"] "divisor_by" s_divisor_by f cdv A outer s H E) (defBody s_divisor_by) ts dt_divisor_by := by
  have nd : (cxF P w K mg base ["row", "other"] "divisor_by" s_divisor_by f cdv A outer s H E).N.Nodup := sc_divisor_by.nd
  exact ⟨_, (xs_cons (w_while rfl (y_ne (K := K) hr (x_var 1) (x_tup xd_nil)) (xs_one (w_par 0 1 rfl nd (x_var 1) (x_ix (K := K) (x_call (K := K) F_parted_by hr (xa_cons (x_var 0) (xa_cons (x_var 1) xa_nil))) x_int)))) (xs_one (w_ret (x_call (K := K) F_scaled hr (xa_cons (x_call (K := K) F_over hr (xa_cons (x_cst c.k_ONE) (xa_cons (x_call (K := K) F_first_of hr (xa_cons (x_var 0) xa_nil)) xa_nil))) (xa_cons (x_var 0) xa_nil))))))⟩
end DL
namespace DL
open PySem PySem.Spec PyProof.Rows L2
noncomputable def z_quotient_of : { s : Stmt // s = top 32 } := by
  refine ⟨?x, ?h⟩
  rotate_left
  · conv => rhs; whnf
noncomputable abbrev s_quotient_of : Stmt := z_quotient_of.val
theorem sc_quotient_of : FnScope ["row", "other"] ["row", "other"] (defScope s_quotient_of) := ⟨rfl, rfl, rfl, by decide +kernel, rfl, by decide +kernel, by decide +kernel⟩
theorem bd_quotient_of : BindAll "quotient_of" s_quotient_of ["row", "other"] := fun _ _ _ _ _ _ us hl => match us, hl with | [_, _], _ => rfl
theorem wk_quotient_of {P : Program} {w : World} {K : PySem.W.Frag} {mg : PySem.Str → Option Value} {base : Heap} {f : Addr} (B : Fre mg) (c : Csts K mg) (F_parted_by : Has P w K mg base 5 "parted_by" ["row", "other"] 2 sp_parted_by) (cdv : Value) (A : Around) (outer : List Env) (s : Shared) (H : Hp) (E : L2.XK)
    (hr : Room 5 (cxF P w K mg base ["row", "other"] "quotient_of" s_quotient_of f cdv A outer s H E).A) : ∃ ts, XSs (cxF P w K mg base ["row", "other"] "quotient_of" s_quotient_of f cdv A outer s H E) (defBody s_quotient_of) ts dt_quotient_of := by
  have nd : (cxF P w K mg base ["row", "other"] "quotient_of" s_quotient_of f cdv A outer s H E).N.Nodup := sc_quotient_of.nd
  exact ⟨_, (xs_one (w_ret (x_ix (K := K) (x_call (K := K) F_parted_by hr (xa_cons (x_var 0) (xa_cons (x_var 1) xa_nil))) x_int)))⟩
end DL
namespace DL
open PySem PySem.Spec PyProof.Rows L2
noncomputable def z_normal_of : { s : Stmt // s = top 40 } := by
  refine ⟨?x, ?h⟩
  rotate_left
  · conv => rhs; whnf
noncomputable abbrev s_normal_of : Stmt := z_normal_of.val
theorem sc_normal_of : FnScope ["top", "under", "common", "by"] ["top", "under"] (defScope s_normal_of) := ⟨rfl, rfl, rfl, by decide +kernel, rfl, by decide +kernel, by decide +kernel⟩
theorem bd_normal_of : BindAll "normal_of" s_normal_of ["top", "under"] := fun _ _ _ _ _ _ us hl => match us, hl with | [_, _], _ => rfl
theorem wk_normal_of {P : Program} {w : World} {K : PySem.W.Frag} {mg : PySem.Str → Option Value} {base : Heap} {f : Addr} (B : Fre mg) (c : Csts K mg) (F_divisor_by : Has P w K mg base 6 "divisor_by" ["row", "other"] 2 sp_divisor_by) (F_quotient_of : Has P w K mg base 6 "quotient_of" ["row", "other"] 2 sp_quotient_of) (F_over : Has P w K mg base 4 "over" ["one", "two"] 2 sp_over) (F_scaled : Has P w K mg base 5 "scaled" ["number", "row"] 2 sp_scaled) (cdv : Value) (A : Around) (outer : List Env) (s : Shared) (H : Hp) (E : L2.XK)
    (hr : Room 6 (cxF P w K mg base ["top", "under", "common", "by"] "normal_of" s_normal_of f cdv A outer s H E).A) : ∃ ts, XSs (cxF P w K mg base ["top", "under", "common", "by"] "normal_of" s_normal_of f cdv A outer s H E) (defBody s_normal_of) ts dt_normal_of := by
  have nd : (cxF P w K mg base ["top", "under", "common", "by"] "normal_of" s_normal_of f cdv A outer s H E).N.Nodup := sc_normal_of.nd
  exact ⟨_, (xs_cons (w_if (y_eq (K := K) hr (x_var 0) (x_tup xd_nil)) (xs_one (w_ret (x_tup (xd_cons (x_tup xd_nil) (xd_cons (x_cst c.k_UNIT) xd_nil))))) xs_nil) (xs_cons (w_set 2 nd (x_call (K := K) F_divisor_by hr (xa_cons (x_var 0) (xa_cons (x_var 1) xa_nil)))) (xs_cons (w_par 0 1 rfl nd (x_call (K := K) F_quotient_of hr (xa_cons (x_var 0) (xa_cons (x_var 2) xa_nil))) (x_call (K := K) F_quotient_of hr (xa_cons (x_var 1) (xa_cons (x_var 2) xa_nil)))) (xs_cons (w_set 3 nd (x_call (K := K) F_over hr (xa_cons (x_cst c.k_ONE) (xa_cons (x_ix (K := K) (x_var 1) x_int) xa_nil)))) (xs_one (w_ret (x_tup (xd_cons (x_call (K := K) F_scaled hr (xa_cons (x_var 3) (xa_cons (x_var 0) xa_nil))) (xd_cons (x_call (K := K) F_scaled hr (xa_cons (x_var 3) (xa_cons (x_var 1) xa_nil))) xd_nil)))))))))⟩
end DL
namespace DL
open PySem PySem.Spec PyProof.Rows L2
noncomputable def z_is_whole : { s : Stmt // s = top 7 } := by
  refine ⟨?x, ?h⟩
  rotate_left
  · conv => rhs; whnf
noncomputable abbrev s_is_whole : Stmt := z_is_whole.val
theorem sc_is_whole : FnScope ["value"] ["value"] (defScope s_is_whole) := ⟨rfl, rfl, rfl, by decide +kernel, rfl, by decide +kernel, by decide +kernel⟩
theorem bd_is_whole : BindAll "is_whole" s_is_whole ["value"] := fun _ _ _ _ _ _ us hl => match us, hl with | [_], _ => rfl
theorem wk_is_whole {P : Program} {w : World} {K : PySem.W.Frag} {mg : PySem.Str → Option Value} {base : Heap} {f : Addr} (B : Fre mg) (c : Csts K mg) (cdv : Value) (A : Around) (outer : List Env) (s : Shared) (H : Hp) (E : L2.XK)
    (hr : Room 0 (cxF P w K mg base ["value"] "is_whole" s_is_whole f cdv A outer s H E).A) : ∃ ts, XSs (cxF P w K mg base ["value"] "is_whole" s_is_whole f cdv A outer s H E) (defBody s_is_whole) ts dt_is_whole := by
  have nd : (cxF P w K mg base ["value"] "is_whole" s_is_whole f cdv A outer s H E).N.Nodup := sc_is_whole.nd
  exact ⟨_, (xs_one (w_ret (x_and (x_isi (K := K) B.isinstance B.int (by decide +kernel) (x_var 0)) (x_one (x_not (x_isi (K := K) B.isinstance B.bool (by decide +kernel) (x_var 0)))))))⟩
end DL
namespace DL
open PySem PySem.Spec PyProof.Rows L2
noncomputable def z_are_wholes : { s : Stmt // s = top 9 } := by
  refine ⟨?x, ?h⟩
  rotate_left
  · conv => rhs; whnf
noncomputable abbrev s_are_wholes : Stmt := z_are_wholes.val
theorem sc_are_wholes : FnScope ["value", "many", "each"] ["value", "many"] (defScope s_are_wholes) := ⟨rfl, rfl, rfl, by decide +kernel, rfl, by decide +kernel, by decide +kernel⟩
theorem bd_are_wholes : BindAll "are_wholes" s_are_wholes ["value", "many"] := fun _ _ _ _ _ _ us hl => match us, hl with | [_, _], _ => rfl
theorem wk_are_wholes {P : Program} {w : World} {K : PySem.W.Frag} {mg : PySem.Str → Option Value} {base : Heap} {f : Addr} (B : Fre mg) (c : Csts K mg) (F_is_whole : Has P w K mg base 1 "is_whole" ["value"] 1 sp_is_whole) (cdv : Value) (A : Around) (outer : List Env) (s : Shared) (H : Hp) (E : L2.XK)
    (hr : Room 1 (cxF P w K mg base ["value", "many", "each"] "are_wholes" s_are_wholes f cdv A outer s H E).A) : ∃ ts, XSs (cxF P w K mg base ["value", "many", "each"] "are_wholes" s_are_wholes f cdv A outer s H E) (defBody s_are_wholes) ts dt_are_wholes := by
  have nd : (cxF P w K mg base ["value", "many", "each"] "are_wholes" s_are_wholes f cdv A outer s H E).N.Nodup := sc_are_wholes.nd
  exact ⟨_, (xs_one (w_ret (x_and (x_isi (K := K) B.isinstance B.tuple (by decide +kernel) (x_var 0)) (x_and (x_eq (K := K) hr (x_len (K := K) B.len (xa_cons (x_var 0) xa_nil)) (x_var 1)) (x_one (x_all (K := K) rfl B.all (xa_cons (x_lc rfl nd (xi_seq (x_var 0)) (blkOk_by (N := ["value", "many", "each"]) (sc := defScope s_are_wholes) (own := [("each", 2)]) (by decide +kernel)) (fun _ _ _ _ _ => (xg_name 2 (by exact nd))) (fun _ _ _ _ _ => xif_nil) (fun _ _ _ _ _ => (x_call (K := K) F_is_whole (by exact hr) (xa_cons (x_var 2) xa_nil)))) xa_nil)))))))⟩
end DL
namespace DL
open PySem PySem.Spec PyProof.Rows L2
noncomputable def z_is_ratio : { s : Stmt // s = top 15 } := by
  refine ⟨?x, ?h⟩
  rotate_left
  · conv => rhs; whnf
noncomputable abbrev s_is_ratio : Stmt := z_is_ratio.val
theorem sc_is_ratio : FnScope ["value"] ["value"] (defScope s_is_ratio) := ⟨rfl, rfl, rfl, by decide +kernel, rfl, by decide +kernel, by decide +kernel⟩
theorem bd_is_ratio : BindAll "is_ratio" s_is_ratio ["value"] := fun _ _ _ _ _ _ us hl => match us, hl with | [_], _ => rfl
theorem wk_is_ratio {P : Program} {w : World} {K : PySem.W.Frag} {mg : PySem.Str → Option Value} {base : Heap} {f : Addr} (B : Fre mg) (c : Csts K mg) (F_are_wholes : Has P w K mg base 2 "are_wholes" ["value", "many"] 2 sp_are_wholes) (F_divisor_of : Has P w K mg base 1 "divisor_of" ["numbers"] 1 sp_divisor_of) (cdv : Value) (A : Around) (outer : List Env) (s : Shared) (H : Hp) (E : L2.XK)
    (hr : Room 2 (cxF P w K mg base ["value"] "is_ratio" s_is_ratio f cdv A outer s H E).A) : ∃ ts, XSs (cxF P w K mg base ["value"] "is_ratio" s_is_ratio f cdv A outer s H E) (defBody s_is_ratio) ts dt_is_ratio := by
  have nd : (cxF P w K mg base ["value"] "is_ratio" s_is_ratio f cdv A outer s H E).N.Nodup := sc_is_ratio.nd
  exact ⟨_, (xs_one (w_ret (x_and (x_call (K := K) F_are_wholes hr (xa_cons (x_var 0) (xa_cons x_int xa_nil))) (x_and (x_gt (x_ix (K := K) (x_var 0) x_int) x_int) (x_one (x_eq (K := K) hr (x_call (K := K) F_divisor_of hr (xa_cons (x_var 0) xa_nil)) x_int))))))⟩
end DL
namespace DL
open PySem PySem.Spec PyProof.Rows L2
noncomputable def z_is_row : { s : Stmt // s = top 43 } := by
  refine ⟨?x, ?h⟩
  rotate_left
  · conv => rhs; whnf
noncomputable abbrev s_is_row : Stmt := z_is_row.val
theorem sc_is_row : FnScope ["value", "each"] ["value"] (defScope s_is_row) := ⟨rfl, rfl, rfl, by decide +kernel, rfl, by decide +kernel, by decide +kernel⟩
theorem bd_is_row : BindAll "is_row" s_is_row ["value"] := fun _ _ _ _ _ _ us hl => match us, hl with | [_], _ => rfl
theorem wk_is_row {P : Program} {w : World} {K : PySem.W.Frag} {mg : PySem.Str → Option Value} {base : Heap} {f : Addr} (B : Fre mg) (c : Csts K mg) (F_is_ratio : Has P w K mg base 3 "is_ratio" ["value"] 1 sp_is_ratio) (cdv : Value) (A : Around) (outer : List Env) (s : Shared) (H : Hp) (E : L2.XK)
    (hr : Room 3 (cxF P w K mg base ["value", "each"] "is_row" s_is_row f cdv A outer s H E).A) : ∃ ts, XSs (cxF P w K mg base ["value", "each"] "is_row" s_is_row f cdv A outer s H E) (defBody s_is_row) ts dt_is_row := by
  have nd : (cxF P w K mg base ["value", "each"] "is_row" s_is_row f cdv A outer s H E).N.Nodup := sc_is_row.nd
  exact ⟨_, (xs_cons (w_if (y_w (y_or (y_not (y_of (x_isi (K := K) B.isinstance B.tuple (by decide +kernel) (x_var 0)))) (y_or1 (y_not (y_of (x_all (K := K) rfl B.all (xa_cons (x_lc rfl nd (xi_seq (x_var 0)) (blkOk_by (N := ["value", "each"]) (sc := defScope s_is_row) (own := [("each", 1)]) (by decide +kernel)) (fun _ _ _ _ _ => (xg_name 1 (by exact nd))) (fun _ _ _ _ _ => xif_nil) (fun _ _ _ _ _ => (x_call (K := K) F_is_ratio (by exact hr) (xa_cons (x_var 1) xa_nil)))) xa_nil))))))) (xs_one (w_ret x_bl)) xs_nil) (xs_one (w_ret (x_or (x_eq (K := K) hr (x_var 0) (x_tup xd_nil)) (x_one (x_ne (K := K) hr (x_ix (K := K) (x_var 0) (x_neg x_int)) (x_cst c.k_ZERO)))))))⟩
end DL
namespace DL
open PySem PySem.Spec PyProof.Rows L2
noncomputable def z_is_led_by : { s : Stmt // s = top 35 } := by
  refine ⟨?x, ?h⟩
  rotate_left
  · conv => rhs; whnf
noncomputable abbrev s_is_led_by : Stmt := z_is_led_by.val
theorem sc_is_led_by : FnScope ["row"] ["row"] (defScope s_is_led_by) := ⟨rfl, rfl, rfl, by decide +kernel, rfl, by decide +kernel, by decide +kernel⟩
theorem bd_is_led_by : BindAll "is_led_by" s_is_led_by ["row"] := fun _ _ _ _ _ _ us hl => match us, hl with | [_], _ => rfl
theorem wk_is_led_by {P : Program} {w : World} {K : PySem.W.Frag} {mg : PySem.Str → Option Value} {base : Heap} {f : Addr} (B : Fre mg) (c : Csts K mg) (cdv : Value) (A : Around) (outer : List Env) (s : Shared) (H : Hp) (E : L2.XK)
    (hr : Room 0 (cxF P w K mg base ["row"] "is_led_by" s_is_led_by f cdv A outer s H E).A) : ∃ ts, XSs (cxF P w K mg base ["row"] "is_led_by" s_is_led_by f cdv A outer s H E) (defBody s_is_led_by) ts dt_is_led_by := by
  have nd : (cxF P w K mg base ["row"] "is_led_by" s_is_led_by f cdv A outer s H E).N.Nodup := sc_is_led_by.nd
  exact ⟨_, (xs_one (w_ret (x_and (x_ne (K := K) hr (x_var 0) (x_tup xd_nil)) (x_one (x_eq (K := K) hr (x_ix (K := K) (x_var 0) x_int) (x_cst c.k_ONE))))))⟩
end DL
namespace DL
open PySem PySem.Spec PyProof.Rows L2
noncomputable def z_is_led : { s : Stmt // s = top 44 } := by
  refine ⟨?x, ?h⟩
  rotate_left
  · conv => rhs; whnf
noncomputable abbrev s_is_led : Stmt := z_is_led.val
theorem sc_is_led : FnScope ["value"] ["value"] (defScope s_is_led) := ⟨rfl, rfl, rfl, by decide +kernel, rfl, by decide +kernel, by decide +kernel⟩
theorem bd_is_led : BindAll "is_led" s_is_led ["value"] := fun _ _ _ _ _ _ us hl => match us, hl with | [_], _ => rfl
theorem wk_is_led {P : Program} {w : World} {K : PySem.W.Frag} {mg : PySem.Str → Option Value} {base : Heap} {f : Addr} (B : Fre mg) (c : Csts K mg) (F_is_row : Has P w K mg base 4 "is_row" ["value"] 1 sp_is_row) (F_is_led_by : Has P w K mg base 1 "is_led_by" ["row"] 1 sp_is_led_by) (cdv : Value) (A : Around) (outer : List Env) (s : Shared) (H : Hp) (E : L2.XK)
    (hr : Room 4 (cxF P w K mg base ["value"] "is_led" s_is_led f cdv A outer s H E).A) : ∃ ts, XSs (cxF P w K mg base ["value"] "is_led" s_is_led f cdv A outer s H E) (defBody s_is_led) ts dt_is_led := by
  have nd : (cxF P w K mg base ["value"] "is_led" s_is_led f cdv A outer s H E).N.Nodup := sc_is_led.nd
  exact ⟨_, (xs_one (w_ret (x_and (x_call (K := K) F_is_row hr (xa_cons (x_var 0) xa_nil)) (x_one (x_call (K := K) F_is_led_by hr (xa_cons (x_var 0) xa_nil))))))⟩
end DL
namespace DL
open PySem PySem.Spec PyProof.Rows L2
noncomputable def z_is_answer : { s : Stmt // s = top 46 } := by
  refine ⟨?x, ?h⟩
  rotate_left
  · conv => rhs; whnf
noncomputable abbrev s_is_answer : Stmt := z_is_answer.val
theorem sc_is_answer : FnScope ["value"] ["value"] (defScope s_is_answer) := ⟨rfl, rfl, rfl, by decide +kernel, rfl, by decide +kernel, by decide +kernel⟩
theorem bd_is_answer : BindAll "is_answer" s_is_answer ["value"] := fun _ _ _ _ _ _ us hl => match us, hl with | [_], _ => rfl
theorem wk_is_answer {P : Program} {w : World} {K : PySem.W.Frag} {mg : PySem.Str → Option Value} {base : Heap} {f : Addr} (B : Fre mg) (c : Csts K mg) (F_is_row : Has P w K mg base 4 "is_row" ["value"] 1 sp_is_row) (F_is_led : Has P w K mg base 5 "is_led" ["value"] 1 sp_is_led) (F_normal_of : Has P w K mg base 7 "normal_of" ["top", "under"] 2 sp_normal_of) (cdv : Value) (A : Around) (outer : List Env) (s : Shared) (H : Hp) (E : L2.XK)
    (hr : Room 7 (cxF P w K mg base ["value"] "is_answer" s_is_answer f cdv A outer s H E).A) : ∃ ts, XSs (cxF P w K mg base ["value"] "is_answer" s_is_answer f cdv A outer s H E) (defBody s_is_answer) ts dt_is_answer := by
  have nd : (cxF P w K mg base ["value"] "is_answer" s_is_answer f cdv A outer s H E).N.Nodup := sc_is_answer.nd
  exact ⟨_, (xs_cons (w_if (y_w (y_or (y_not (y_of (x_isi (K := K) B.isinstance B.tuple (by decide +kernel) (x_var 0)))) (y_or (y_ne (K := K) hr (x_len (K := K) B.len (xa_cons (x_var 0) xa_nil)) x_int) (y_or (y_not (y_of (x_call (K := K) F_is_row hr (xa_cons (x_ix (K := K) (x_var 0) x_int) xa_nil)))) (y_or1 (y_not (y_of (x_call (K := K) F_is_led hr (xa_cons (x_ix (K := K) (x_var 0) x_int) xa_nil))))))))) (xs_one (w_ret x_bl)) xs_nil) (xs_one (w_ret (x_eq (K := K) hr (x_call (K := K) F_normal_of hr (xa_cons (x_ix (K := K) (x_var 0) x_int) (xa_cons (x_ix (K := K) (x_var 0) x_int) xa_nil))) (x_var 0)))))⟩
end DL
namespace DL
open PySem PySem.Spec PyProof.Rows L2
noncomputable def z_check_answer : { s : Stmt // s = top 47 } := by
  refine ⟨?x, ?h⟩
  rotate_left
  · conv => rhs; whnf
noncomputable abbrev s_check_answer : Stmt := z_check_answer.val
theorem sc_check_answer : FnScope ["value"] ["value"] (defScope s_check_answer) := ⟨rfl, rfl, rfl, by decide +kernel, rfl, by decide +kernel, by decide +kernel⟩
theorem bd_check_answer : BindAll "check_answer" s_check_answer ["value"] := fun _ _ _ _ _ _ us hl => match us, hl with | [_], _ => rfl
theorem wk_check_answer {P : Program} {w : World} {K : PySem.W.Frag} {mg : PySem.Str → Option Value} {base : Heap} {f : Addr} (B : Fre mg) (c : Csts K mg) (F_is_answer : Has P w K mg base 8 "is_answer" ["value"] 1 sp_is_answer) (cdv : Value) (A : Around) (outer : List Env) (s : Shared) (H : Hp) (E : L2.XK)
    (hr : Room 8 (cxF P w K mg base ["value"] "check_answer" s_check_answer f cdv A outer s H E).A) : ∃ ts, XSs (cxF P w K mg base ["value"] "check_answer" s_check_answer f cdv A outer s H E) (defBody s_check_answer) ts dt_check_answer := by
  have nd : (cxF P w K mg base ["value"] "check_answer" s_check_answer f cdv A outer s H E).N.Nodup := sc_check_answer.nd
  exact ⟨_, (xs_one (w_if (y_not (y_of (x_call (K := K) F_is_answer hr (xa_cons (x_var 0) xa_nil)))) xs_never xs_nil))⟩
end DL
namespace DL
open PySem PySem.Spec PyProof.Rows L2
noncomputable def z_is_between : { s : Stmt // s = top 8 } := by
  refine ⟨?x, ?h⟩
  rotate_left
  · conv => rhs; whnf
noncomputable abbrev s_is_between : Stmt := z_is_between.val
theorem sc_is_between : FnScope ["value", "low", "high"] ["value", "low", "high"] (defScope s_is_between) := ⟨rfl, rfl, rfl, by decide +kernel, rfl, by decide +kernel, by decide +kernel⟩
theorem bd_is_between : BindAll "is_between" s_is_between ["value", "low", "high"] := fun _ _ _ _ _ _ us hl => match us, hl with | [_, _, _], _ => rfl
theorem wk_is_between {P : Program} {w : World} {K : PySem.W.Frag} {mg : PySem.Str → Option Value} {base : Heap} {f : Addr} (B : Fre mg) (c : Csts K mg) (F_is_whole : Has P w K mg base 1 "is_whole" ["value"] 1 sp_is_whole) (cdv : Value) (A : Around) (outer : List Env) (s : Shared) (H : Hp) (E : L2.XK)
    (hr : Room 1 (cxF P w K mg base ["value", "low", "high"] "is_between" s_is_between f cdv A outer s H E).A) : ∃ ts, XSs (cxF P w K mg base ["value", "low", "high"] "is_between" s_is_between f cdv A outer s H E) (defBody s_is_between) ts dt_is_between := by
  have nd : (cxF P w K mg base ["value", "low", "high"] "is_between" s_is_between f cdv A outer s H E).N.Nodup := sc_is_between.nd
  exact ⟨_, (xs_one (w_ret (x_and (x_call (K := K) F_is_whole hr (xa_cons (x_var 0) xa_nil)) (x_and (x_le (x_var 1) (x_var 0)) (x_one (x_le (x_var 0) (x_var 2)))))))⟩
end DL
namespace DL
open PySem PySem.Spec PyProof.Rows L2
noncomputable def z_check_many : { s : Stmt // s = top 50 } := by
  refine ⟨?x, ?h⟩
  rotate_left
  · conv => rhs; whnf
noncomputable abbrev s_check_many : Stmt := z_check_many.val
theorem sc_check_many : FnScope ["value"] ["value"] (defScope s_check_many) := ⟨rfl, rfl, rfl, by decide +kernel, rfl, by decide +kernel, by decide +kernel⟩
theorem bd_check_many : BindAll "check_many" s_check_many ["value"] := fun _ _ _ _ _ _ us hl => match us, hl with | [_], _ => rfl
theorem wk_check_many {P : Program} {w : World} {K : PySem.W.Frag} {mg : PySem.Str → Option Value} {base : Heap} {f : Addr} (B : Fre mg) (c : Csts K mg) (F_is_between : Has P w K mg base 2 "is_between" ["value", "low", "high"] 3 sp_is_between) (cdv : Value) (A : Around) (outer : List Env) (s : Shared) (H : Hp) (E : L2.XK)
    (hr : Room 2 (cxF P w K mg base ["value"] "check_many" s_check_many f cdv A outer s H E).A) : ∃ ts, XSs (cxF P w K mg base ["value"] "check_many" s_check_many f cdv A outer s H E) (defBody s_check_many) ts dt_check_many := by
  have nd : (cxF P w K mg base ["value"] "check_many" s_check_many f cdv A outer s H E).N.Nodup := sc_check_many.nd
  exact ⟨_, (xs_one (w_if (y_not (y_of (x_call (K := K) F_is_between hr (xa_cons (x_var 0) (xa_cons x_int (xa_cons (x_cst c.k_MOST_MANY) xa_nil)))))) xs_never xs_nil))⟩
end DL
namespace DL
open PySem PySem.Spec PyProof.Rows L2
noncomputable def z_are_near : { s : Stmt // s = top 53 } := by
  refine ⟨?x, ?h⟩
  rotate_left
  · conv => rhs; whnf
noncomputable abbrev s_are_near : Stmt := z_are_near.val
theorem sc_are_near : FnScope ["bounds", "many"] ["bounds", "many"] (defScope s_are_near) := ⟨rfl, rfl, rfl, by decide +kernel, rfl, by decide +kernel, by decide +kernel⟩
theorem bd_are_near : BindAll "are_near" s_are_near ["bounds", "many"] := fun _ _ _ _ _ _ us hl => match us, hl with | [_, _], _ => rfl
theorem wk_are_near {P : Program} {w : World} {K : PySem.W.Frag} {mg : PySem.Str → Option Value} {base : Heap} {f : Addr} (B : Fre mg) (c : Csts K mg) (F_is_below : Has P w K mg base 1 "is_below" ["one", "two"] 2 sp_is_below) (F_minus : Has P w K mg base 4 "minus" ["one", "two"] 2 sp_minus) (cdv : Value) (A : Around) (outer : List Env) (s : Shared) (H : Hp) (E : L2.XK)
    (hr : Room 4 (cxF P w K mg base ["bounds", "many"] "are_near" s_are_near f cdv A outer s H E).A) : ∃ ts, XSs (cxF P w K mg base ["bounds", "many"] "are_near" s_are_near f cdv A outer s H E) (defBody s_are_near) ts dt_are_near := by
  have nd : (cxF P w K mg base ["bounds", "many"] "are_near" s_are_near f cdv A outer s H E).N.Nodup := sc_are_near.nd
  exact ⟨_, (xs_one (w_ret (x_and (x_notN (x_var 0)) (x_one (x_not (x_call (K := K) F_is_below hr (xa_cons (x_tup (xd_cons x_int (xd_cons (x_var 1) xd_nil))) (xa_cons (x_call (K := K) F_minus hr (xa_cons (x_ix (K := K) (x_var 0) x_int) (xa_cons (x_ix (K := K) (x_var 0) x_int) xa_nil))) xa_nil))))))))⟩
end DL
namespace DL
open PySem PySem.Spec PyProof.Rows L2
noncomputable def z_numbers_by : { s : Stmt // s = top 41 } := by
  refine ⟨?x, ?h⟩
  rotate_left
  · conv => rhs; whnf
noncomputable abbrev s_numbers_by : Stmt := z_numbers_by.val
theorem sc_numbers_by : FnScope ["answer", "many", "top", "under", "found", "place", "number", "at"] ["answer", "many"] (defScope s_numbers_by) := ⟨rfl, rfl, rfl, by decide +kernel, rfl, by decide +kernel, by decide +kernel⟩
theorem bd_numbers_by : BindAll "numbers_by" s_numbers_by ["answer", "many"] := fun _ _ _ _ _ _ us hl => match us, hl with | [_, _], _ => rfl
theorem wk_numbers_by {P : Program} {w : World} {K : PySem.W.Frag} {mg : PySem.Str → Option Value} {base : Heap} {f : Addr} (B : Fre mg) (c : Csts K mg) (F_number_at : Has P w K mg base 1 "number_at" ["row", "place"] 2 sp_number_at) (F_minus : Has P w K mg base 4 "minus" ["one", "two"] 2 sp_minus) (F_times : Has P w K mg base 4 "times" ["one", "two"] 2 sp_times) (cdv : Value) (A : Around) (outer : List Env) (s : Shared) (H : Hp) (E : L2.XK)
    (hr : Room 4 (cxF P w K mg base ["answer", "many", "top", "under", "found", "place", "number", "at"] "numbers_by" s_numbers_by f cdv A outer s H E).A) : ∃ ts, XSs (cxF P w K mg base ["answer", "many", "top", "under", "found", "place", "number", "at"] "numbers_by" s_numbers_by f cdv A outer s H E) (defBody s_numbers_by) ts dt_numbers_by := by
  have nd : (cxF P w K mg base ["answer", "many", "top", "under", "found", "place", "number", "at"] "numbers_by" s_numbers_by f cdv A outer s H E).N.Nodup := sc_numbers_by.nd
  exact ⟨_, (xs_cons (w_asg (x_var 0) (xg_tup (K := K) rfl (xgs_cons (xg_name 2 nd) (xgs_cons (xg_name 3 nd) xgs_nil)))) (xs_cons (w_set 4 nd (x_lst xd_nil)) (xs_cons (w_for rfl rfl (xi_r1 B.range (x_var 1)) (xg_name 5 nd) (xs_cons (w_set 6 nd (x_call (K := K) F_number_at hr (xa_cons (x_var 2) (xa_cons (x_var 5) xa_nil)))) (xs_cons (w_for rfl rfl (xi_r2 B.range x_int (x_add (x_min2 rfl B.min (xa_cons (x_var 5) (xa_cons (x_sub (x_len (K := K) B.len (xa_cons (x_var 3) xa_nil)) x_int) xa_nil))) x_int)) (xg_name 7 nd) (xs_one (w_set 6 nd (x_call (K := K) F_minus hr (xa_cons (x_var 6) (xa_cons (x_call (K := K) F_times hr (xa_cons (x_ix (K := K) (x_var 3) (x_var 7)) (xa_cons (x_ix (K := K) (x_var 4) (x_sub (x_var 5) (x_var 7))) xa_nil))) xa_nil)))))) (xs_one (w_append 4 (x_var 6)))))) (xs_one (w_ret (x_tuple (K := K) B.tuple (xa_cons (x_var 4) xa_nil)))))))⟩
end DL
namespace DL
open PySem PySem.Spec PyProof.Rows L2
noncomputable def z_bounding_by : { s : Stmt // s = top 54 } := by
  refine ⟨?x, ?h⟩
  rotate_left
  · conv => rhs; whnf
noncomputable abbrev s_bounding_by : Stmt := z_bounding_by.val
theorem sc_bounding_by : FnScope ["answer", "many", "row", "wanted"] ["answer", "many"] (defScope s_bounding_by) := ⟨rfl, rfl, rfl, by decide +kernel, rfl, by decide +kernel, by decide +kernel⟩
theorem bd_bounding_by : BindAll "bounding_by" s_bounding_by ["answer", "many"] := fun _ _ _ _ _ _ us hl => match us, hl with | [_, _], _ => rfl
theorem wk_bounding_by {P : Program} {w : World} {K : PySem.W.Frag} {mg : PySem.Str → Option Value} {base : Heap} {f : Addr} (B : Fre mg) (c : Csts K mg) (F_are_near : Has P w K mg base 5 "are_near" ["bounds", "many"] 2 sp_are_near) (F_bounds_by : Has P w K mg base 7 "bounds_by" ["answer", "row"] 2 sp_bounds_by) (F_trimmed : Has P w K mg base 1 "trimmed" ["numbers"] 1 sp_trimmed) (F_numbers_by : Has P w K mg base 5 "numbers_by" ["answer", "many"] 2 sp_numbers_by) (cdv : Value) (A : Around) (outer : List Env) (s : Shared) (H : Hp) (E : L2.XK)
    (hr : Room 7 (cxF P w K mg base ["answer", "many", "row", "wanted"] "bounding_by" s_bounding_by f cdv A outer s H E).A) : ∃ ts, XSs (cxF P w K mg base ["answer", "many", "row", "wanted"] "bounding_by" s_bounding_by f cdv A outer s H E) (defBody s_bounding_by) ts dt_bounding_by := by
  have nd : (cxF P w K mg base ["answer", "many", "row", "wanted"] "bounding_by" s_bounding_by f cdv A outer s H E).N.Nodup := sc_bounding_by.nd
  exact ⟨_, (xs_cons (w_par 2 3 rfl nd (x_cst c.k_UNIT) x_int) (xs_cons (w_while rfl (y_not (y_of (x_call (K := K) F_are_near hr (xa_cons (x_call (K := K) F_bounds_by hr (xa_cons (x_var 0) (xa_cons (x_var 2) xa_nil))) (xa_cons (x_var 1) xa_nil))))) (xs_cons (w_set 3 nd (x_mul x_int (x_var 3))) (xs_one (w_set 2 nd (x_call (K := K) F_trimmed hr (xa_cons (x_call (K := K) F_numbers_by hr (xa_cons (x_tup (xd_cons (x_cst c.k_UNIT) (xd_cons (x_ix (K := K) (x_var 0) x_int) xd_nil))) (xa_cons (x_var 3) xa_nil))) xa_nil)))))) (xs_one (w_retV 2))))⟩
end DL
namespace DL
open PySem PySem.Spec PyProof.Rows L2
noncomputable def z_next_numbers : { s : Stmt // s = top 37 } := by
  refine ⟨?x, ?h⟩
  rotate_left
  · conv => rhs; whnf
noncomputable abbrev s_next_numbers : Stmt := z_next_numbers.val
theorem sc_next_numbers : FnScope ["numbers", "bend", "under", "back", "one", "two"] ["numbers", "bend"] (defScope s_next_numbers) := ⟨rfl, rfl, rfl, by decide +kernel, rfl, by decide +kernel, by decide +kernel⟩
theorem bd_next_numbers : BindAll "next_numbers" s_next_numbers ["numbers", "bend"] := fun _ _ _ _ _ _ us hl => match us, hl with | [_, _], _ => rfl
theorem wk_next_numbers {P : Program} {w : World} {K : PySem.W.Frag} {mg : PySem.Str → Option Value} {base : Heap} {f : Addr} (B : Fre mg) (c : Csts K mg) (F_minus : Has P w K mg base 4 "minus" ["one", "two"] 2 sp_minus) (F_times : Has P w K mg base 4 "times" ["one", "two"] 2 sp_times) (F_over : Has P w K mg base 4 "over" ["one", "two"] 2 sp_over) (cdv : Value) (A : Around) (outer : List Env) (s : Shared) (H : Hp) (E : L2.XK)
    (hr : Room 4 (cxF P w K mg base ["numbers", "bend", "under", "back", "one", "two"] "next_numbers" s_next_numbers f cdv A outer s H E).A) : ∃ ts, XSs (cxF P w K mg base ["numbers", "bend", "under", "back", "one", "two"] "next_numbers" s_next_numbers f cdv A outer s H E) (defBody s_next_numbers) ts dt_next_numbers := by
  have nd : (cxF P w K mg base ["numbers", "bend", "under", "back", "one", "two"] "next_numbers" s_next_numbers f cdv A outer s H E).N.Nodup := sc_next_numbers.nd
  exact ⟨_, (xs_cons (w_set 2 nd (x_call (K := K) F_minus hr (xa_cons (x_cst c.k_ONE) (xa_cons (x_call (K := K) F_times hr (xa_cons (x_var 1) (xa_cons (x_var 1) xa_nil))) xa_nil)))) (xs_cons (w_set 3 nd (x_revL (K := K) (x_var 0))) (xs_fz 3 (xs_one (w_ret (x_lc rfl nd (xi_zip B.zip (x_sl (K := K) (x_var 0) xo_none (xo_some (x_neg x_int))) (x_var 3)) (blkOk_by (N := ["numbers", "bend", "under", "back", "one", "two"]) (sc := defScope s_next_numbers) (own := [("one", 4), ("two", 5)]) (by decide +kernel)) (fun _ _ _ _ _ => (xg_tup (K := K) rfl (xgs_cons (xg_name 4 (by exact nd)) (xgs_cons (xg_name 5 (by exact nd)) xgs_nil)))) (fun _ _ _ _ _ => xif_nil) (fun _ _ _ _ _ => (x_call (K := K) F_over (by exact hr) (xa_cons (x_call (K := K) F_minus (by exact hr) (xa_cons (x_var 4) (xa_cons (x_call (K := K) F_times (by exact hr) (xa_cons (x_var 1) (xa_cons (x_var 5) xa_nil))) xa_nil))) (xa_cons (x_var 2) xa_nil))))))))))⟩
end DL
namespace DL
open PySem PySem.Spec PyProof.Rows L2
noncomputable def z_led_by : { s : Stmt // s = top 36 } := by
  refine ⟨?x, ?h⟩
  rotate_left
  · conv => rhs; whnf
noncomputable abbrev s_led_by : Stmt := z_led_by.val
theorem sc_led_by : FnScope ["row"] ["row"] (defScope s_led_by) := ⟨rfl, rfl, rfl, by decide +kernel, rfl, by decide +kernel, by decide +kernel⟩
theorem bd_led_by : BindAll "led_by" s_led_by ["row"] := fun _ _ _ _ _ _ us hl => match us, hl with | [_], _ => rfl
theorem wk_led_by {P : Program} {w : World} {K : PySem.W.Frag} {mg : PySem.Str → Option Value} {base : Heap} {f : Addr} (B : Fre mg) (c : Csts K mg) (F_scaled : Has P w K mg base 5 "scaled" ["number", "row"] 2 sp_scaled) (F_over : Has P w K mg base 4 "over" ["one", "two"] 2 sp_over) (cdv : Value) (A : Around) (outer : List Env) (s : Shared) (H : Hp) (E : L2.XK)
    (hr : Room 5 (cxF P w K mg base ["row"] "led_by" s_led_by f cdv A outer s H E).A) : ∃ ts, XSs (cxF P w K mg base ["row"] "led_by" s_led_by f cdv A outer s H E) (defBody s_led_by) ts dt_led_by := by
  have nd : (cxF P w K mg base ["row"] "led_by" s_led_by f cdv A outer s H E).N.Nodup := sc_led_by.nd
  exact ⟨_, (xs_one (w_ret (x_call (K := K) F_scaled hr (xa_cons (x_call (K := K) F_over hr (xa_cons (x_cst c.k_ONE) (xa_cons (x_ix (K := K) (x_var 0) x_int) xa_nil))) (xa_cons (x_var 0) xa_nil)))))⟩
end DL
namespace DL
open PySem PySem.Spec PyProof.Rows L2
noncomputable def z_bends_by : { s : Stmt // s = top 38 } := by
  refine ⟨?x, ?h⟩
  rotate_left
  · conv => rhs; whnf
noncomputable abbrev s_bends_by : Stmt := z_bends_by.val
theorem sc_bends_by : FnScope ["row", "numbers", "found", "bend"] ["row"] (defScope s_bends_by) := ⟨rfl, rfl, rfl, by decide +kernel, rfl, by decide +kernel, by decide +kernel⟩
theorem bd_bends_by : BindAll "bends_by" s_bends_by ["row"] := fun _ _ _ _ _ _ us hl => match us, hl with | [_], _ => rfl
theorem wk_bends_by {P : Program} {w : World} {K : PySem.W.Frag} {mg : PySem.Str → Option Value} {base : Heap} {f : Addr} (B : Fre mg) (c : Csts K mg) (F_led_by : Has P w K mg base 6 "led_by" ["row"] 1 sp_led_by) (F_next_numbers : Has P w K mg base 5 "next_numbers" ["numbers", "bend"] 2 sp_next_numbers) (cdv : Value) (A : Around) (outer : List Env) (s : Shared) (H : Hp) (E : L2.XK)
    (hr : Room 6 (cxF P w K mg base ["row", "numbers", "found", "bend"] "bends_by" s_bends_by f cdv A outer s H E).A) : ∃ ts, XSs (cxF P w K mg base ["row", "numbers", "found", "bend"] "bends_by" s_bends_by f cdv A outer s H E) (defBody s_bends_by) ts dt_bends_by := by
  have nd : (cxF P w K mg base ["row", "numbers", "found", "bend"] "bends_by" s_bends_by f cdv A outer s H E).N.Nodup := sc_bends_by.nd
  exact ⟨_, (xs_cons (w_if (y_eq (K := K) hr (x_ix (K := K) (x_var 0) x_int) (x_cst c.k_ZERO)) (xs_one (w_ret x_non)) xs_nil) (xs_cons (w_par 1 2 rfl nd (x_list (K := K) B.list (xa_cons (x_call (K := K) F_led_by hr (xa_cons (x_var 0) xa_nil)) xa_nil)) (x_lst xd_nil)) (xs_cons (w_while rfl (y_gt (x_len (K := K) B.len (xa_cons (x_var 1) xa_nil)) x_int) (xs_cons (w_set 3 nd (x_ix (K := K) (x_var 1) (x_neg x_int))) (xs_cons (w_if (y_ge (x_abs B.abs (xa_cons (x_ix (K := K) (x_var 3) x_int) xa_nil)) (x_ix (K := K) (x_var 3) x_int)) (xs_one (w_ret x_non)) xs_nil) (xs_cons (w_append 2 (x_var 3)) (xs_one (w_set 1 nd (x_call (K := K) F_next_numbers hr (xa_cons (x_var 1) (xa_cons (x_var 3) xa_nil))))))))) (xs_one (w_ret (x_tuple (K := K) B.tuple (xa_cons (x_var 2) xa_nil)))))))⟩
end DL
namespace DL
open PySem PySem.Spec PyProof.Rows L2
noncomputable def z_is_steady_by : { s : Stmt // s = top 39 } := by
  refine ⟨?x, ?h⟩
  rotate_left
  · conv => rhs; whnf
noncomputable abbrev s_is_steady_by : Stmt := z_is_steady_by.val
theorem sc_is_steady_by : FnScope ["row"] ["row"] (defScope s_is_steady_by) := ⟨rfl, rfl, rfl, by decide +kernel, rfl, by decide +kernel, by decide +kernel⟩
theorem bd_is_steady_by : BindAll "is_steady_by" s_is_steady_by ["row"] := fun _ _ _ _ _ _ us hl => match us, hl with | [_], _ => rfl
theorem wk_is_steady_by {P : Program} {w : World} {K : PySem.W.Frag} {mg : PySem.Str → Option Value} {base : Heap} {f : Addr} (B : Fre mg) (c : Csts K mg) (F_bends_by : Has P w K mg base 7 "bends_by" ["row"] 1 sp_bends_by) (cdv : Value) (A : Around) (outer : List Env) (s : Shared) (H : Hp) (E : L2.XK)
    (hr : Room 7 (cxF P w K mg base ["row"] "is_steady_by" s_is_steady_by f cdv A outer s H E).A) : ∃ ts, XSs (cxF P w K mg base ["row"] "is_steady_by" s_is_steady_by f cdv A outer s H E) (defBody s_is_steady_by) ts dt_is_steady_by := by
  have nd : (cxF P w K mg base ["row"] "is_steady_by" s_is_steady_by f cdv A outer s H E).N.Nodup := sc_is_steady_by.nd
  exact ⟨_, (xs_one (w_ret (x_and (x_ne (K := K) hr (x_var 0) (x_tup xd_nil)) (x_one (x_notN (x_call (K := K) F_bends_by hr (xa_cons (x_var 0) xa_nil)))))))⟩
end DL
namespace DL
open PySem PySem.Spec PyProof.Rows L2
noncomputable def z_worst_row : { s : Stmt // s = top 56 } := by
  refine ⟨?x, ?h⟩
  rotate_left
  · conv => rhs; whnf
noncomputable abbrev s_worst_row : Stmt := z_worst_row.val
theorem sc_worst_row : FnScope ["answer", "many"] ["answer", "many"] (defScope s_worst_row) := ⟨rfl, rfl, rfl, by decide +kernel, rfl, by decide +kernel, by decide +kernel⟩
theorem bd_worst_row : BindAll "worst_row" s_worst_row ["answer", "many"] := fun _ _ _ _ _ _ us hl => match us, hl with | [_, _], _ => rfl
theorem wk_worst_row {P : Program} {w : World} {K : PySem.W.Frag} {mg : PySem.Str → Option Value} {base : Heap} {f : Addr} (B : Fre mg) (c : Csts K mg) (F_check_answer : Has P w K mg base 9 "check_answer" ["value"] 1 sp_check_answer) (F_check_many : Has P w K mg base 3 "check_many" ["value"] 1 sp_check_many) (F_is_steady_by : Has P w K mg base 8 "is_steady_by" ["row"] 1 sp_is_steady_by) (F_bounding_by : Has P w K mg base 8 "bounding_by" ["answer", "many"] 2 sp_bounding_by) (cdv : Value) (A : Around) (outer : List Env) (s : Shared) (H : Hp) (E : L2.XK)
    (hr : Room 9 (cxF P w K mg base ["answer", "many"] "worst_row" s_worst_row f cdv A outer s H E).A) : ∃ ts, XSs (cxF P w K mg base ["answer", "many"] "worst_row" s_worst_row f cdv A outer s H E) (defBody s_worst_row) ts dt_worst_row := by
  have nd : (cxF P w K mg base ["answer", "many"] "worst_row" s_worst_row f cdv A outer s H E).N.Nodup := sc_worst_row.nd
  exact ⟨_, (xs_cons (w_expr (x_call (K := K) F_check_answer hr (xa_cons (x_var 0) xa_nil))) (xs_cons (w_expr (x_call (K := K) F_check_many hr (xa_cons (x_var 1) xa_nil))) (xs_cons (w_if (y_not (y_of (x_call (K := K) F_is_steady_by hr (xa_cons (x_ix (K := K) (x_var 0) x_int) xa_nil)))) xs_never xs_nil) (xs_one (w_ret (x_call (K := K) F_bounding_by hr (xa_cons (x_var 0) (xa_cons (x_var 1) xa_nil))))))))⟩
end DL
namespace DL
open PySem PySem.Spec PyProof.Rows L2
noncomputable def z_worst_near : { s : Stmt // s = top 55 } := by
  refine ⟨?x, ?h⟩
  rotate_left
  · conv => rhs; whnf
noncomputable abbrev s_worst_near : Stmt := z_worst_near.val
theorem sc_worst_near : FnScope ["answer", "many"] ["answer", "many"] (defScope s_worst_near) := ⟨rfl, rfl, rfl, by decide +kernel, rfl, by decide +kernel, by decide +kernel⟩
theorem bd_worst_near : BindAll "worst_near" s_worst_near ["answer", "many"] := fun _ _ _ _ _ _ us hl => match us, hl with | [_, _], _ => rfl
theorem bk_worst_near : BindRev "worst_near" s_worst_near ["answer", "many"] ["many", "answer"] := fun _ _ _ _ _ _ us hl => match us, hl with | [_, _], _ => rfl
theorem wk_worst_near {P : Program} {w : World} {K : PySem.W.Frag} {mg : PySem.Str → Option Value} {base : Heap} {f : Addr} (B : Fre mg) (c : Csts K mg) (F_bounds_by : Has P w K mg base 7 "bounds_by" ["answer", "row"] 2 sp_bounds_by) (F_worst_row : Has P w K mg base 10 "worst_row" ["answer", "many"] 2 sp_worst_row) (cdv : Value) (A : Around) (outer : List Env) (s : Shared) (H : Hp) (E : L2.XK)
    (hr : Room 10 (cxF P w K mg base ["answer", "many"] "worst_near" s_worst_near f cdv A outer s H E).A) : ∃ ts, XSs (cxF P w K mg base ["answer", "many"] "worst_near" s_worst_near f cdv A outer s H E) (defBody s_worst_near) ts dt_worst_near := by
  have nd : (cxF P w K mg base ["answer", "many"] "worst_near" s_worst_near f cdv A outer s H E).N.Nodup := sc_worst_near.nd
  exact ⟨_, (xs_one (w_ret (x_call (K := K) F_bounds_by hr (xa_cons (x_var 0) (xa_cons (x_call (K := K) F_worst_row hr (xa_cons (x_var 0) (xa_cons (x_var 1) xa_nil))) xa_nil)))))⟩
end DL
namespace DL
open PySem PySem.Spec PyProof.Rows L2
noncomputable def z__law_plus : { s : Stmt // s = top 63 } := by
  refine ⟨?x, ?h⟩
  rotate_left
  · conv => rhs; whnf
noncomputable abbrev s__law_plus : Stmt := z__law_plus.val
theorem sc__law_plus : FnScope ["one", "two"] ["one", "two"] (defScope s__law_plus) := ⟨rfl, rfl, rfl, by decide +kernel, rfl, by decide +kernel, by decide +kernel⟩
theorem bd__law_plus : BindAll "_law_plus" s__law_plus ["one", "two"] := fun _ _ _ _ _ _ us hl => match us, hl with | [_, _], _ => rfl
theorem wk__law_plus {P : Program} {w : World} {K : PySem.W.Frag} {mg : PySem.Str → Option Value} {base : Heap} {f : Addr} (B : Fre mg) (c : Csts K mg) (F__law_low : Has P w K mg base 2 "_law_low" ["top", "under"] 2 sp__law_low) (cdv : Value) (A : Around) (outer : List Env) (s : Shared) (H : Hp) (E : L2.XK)
    (hr : Room 2 (cxF P w K mg base ["one", "two"] "_law_plus" s__law_plus f cdv A outer s H E).A) : ∃ ts, XSs (cxF P w K mg base ["one", "two"] "_law_plus" s__law_plus f cdv A outer s H E) (defBody s__law_plus) ts dt__law_plus := by
  have nd : (cxF P w K mg base ["one", "two"] "_law_plus" s__law_plus f cdv A outer s H E).N.Nodup := sc__law_plus.nd
  exact ⟨_, (xs_one (w_ret (x_call (K := K) F__law_low hr (xa_cons (x_add (x_mul (x_ix (K := K) (x_var 0) x_int) (x_ix (K := K) (x_var 1) x_int)) (x_mul (x_ix (K := K) (x_var 1) x_int) (x_ix (K := K) (x_var 0) x_int))) (xa_cons (x_mul (x_ix (K := K) (x_var 0) x_int) (x_ix (K := K) (x_var 1) x_int)) xa_nil)))))⟩
end DL
namespace DL
open PySem PySem.Spec PyProof.Rows L2
noncomputable def z__law_add : { s : Stmt // s = top 75 } := by
  refine ⟨?x, ?h⟩
  rotate_left
  · conv => rhs; whnf
noncomputable abbrev s__law_add : Stmt := z__law_add.val
theorem sc__law_add : FnScope ["one", "two", "wide", "nil", "ones", "twos", "k"] ["one", "two"] (defScope s__law_add) := ⟨rfl, rfl, rfl, by decide +kernel, rfl, by decide +kernel, by decide +kernel⟩
theorem bd__law_add : BindAll "_law_add" s__law_add ["one", "two"] := fun _ _ _ _ _ _ us hl => match us, hl with | [_, _], _ => rfl
theorem wk__law_add {P : Program} {w : World} {K : PySem.W.Frag} {mg : PySem.Str → Option Value} {base : Heap} {f : Addr} (B : Fre mg) (c : Csts K mg) (F__law_cut : Has P w K mg base 1 "_law_cut" ["some"] 1 sp__law_cut) (F__law_plus : Has P w K mg base 3 "_law_plus" ["one", "two"] 2 sp__law_plus) (cdv : Value) (A : Around) (outer : List Env) (s : Shared) (H : Hp) (E : L2.XK)
    (hr : Room 3 (cxF P w K mg base ["one", "two", "wide", "nil", "ones", "twos", "k"] "_law_add" s__law_add f cdv A outer s H E).A) : ∃ ts, XSs (cxF P w K mg base ["one", "two", "wide", "nil", "ones", "twos", "k"] "_law_add" s__law_add f cdv A outer s H E) (defBody s__law_add) ts dt__law_add := by
  have nd : (cxF P w K mg base ["one", "two", "wide", "nil", "ones", "twos", "k"] "_law_add" s__law_add f cdv A outer s H E).N.Nodup := sc__law_add.nd
  exact ⟨_, (xs_cons (w_par 2 3 rfl nd (x_max2 rfl B.max (xa_cons (x_len (K := K) B.len (xa_cons (x_var 0) xa_nil)) (xa_cons (x_len (K := K) B.len (xa_cons (x_var 1) xa_nil)) xa_nil))) (x_tup (xd_cons x_int (xd_cons x_int xd_nil)))) (xs_cons (w_par2 4 5 (x_cat (x_list (K := K) B.list (xa_cons (x_var 0) xa_nil)) (x_rep (x_lst (xd_cons (x_var 3) xd_nil)) (x_sub (x_var 2) (x_len (K := K) B.len (xa_cons (x_var 0) xa_nil))))) (x_cat (x_list (K := K) B.list (xa_cons (x_var 1) xa_nil)) (x_rep (x_lst (xd_cons (x_var 3) xd_nil)) (x_sub (x_var 2) (x_len (K := K) B.len (xa_cons (x_var 1) xa_nil))))) (xg_tup (K := K) rfl (xgs_cons (xg_name 4 nd) (xgs_cons (xg_name 5 nd) xgs_nil)))) (xs_one (w_ret (x_call (K := K) F__law_cut hr (xa_cons (x_lc rfl nd (xi_r1 B.range (x_var 2)) (blkOk_by (N := ["one", "two", "wide", "nil", "ones", "twos", "k"]) (sc := defScope s__law_add) (own := [("k", 6)]) (by decide +kernel)) (fun _ _ _ _ _ => (xg_name 6 (by exact nd))) (fun _ _ _ _ _ => xif_nil) (fun _ _ _ _ _ => (x_call (K := K) F__law_plus (by exact hr) (xa_cons (x_ix (K := K) (x_var 4) (x_var 6)) (xa_cons (x_ix (K := K) (x_var 5) (x_var 6)) xa_nil))))) xa_nil))))))⟩
end DL
namespace DL
open PySem PySem.Spec PyProof.Rows L2
noncomputable def z__law_less : { s : Stmt // s = top 76 } := by
  refine ⟨?x, ?h⟩
  rotate_left
  · conv => rhs; whnf
noncomputable abbrev s__law_less : Stmt := z__law_less.val
theorem sc__law_less : FnScope ["one", "two"] ["one", "two"] (defScope s__law_less) := ⟨rfl, rfl, rfl, by decide +kernel, rfl, by decide +kernel, by decide +kernel⟩
theorem bd__law_less : BindAll "_law_less" s__law_less ["one", "two"] := fun _ _ _ _ _ _ us hl => match us, hl with | [_, _], _ => rfl
theorem wk__law_less {P : Program} {w : World} {K : PySem.W.Frag} {mg : PySem.Str → Option Value} {base : Heap} {f : Addr} (B : Fre mg) (c : Csts K mg) (F__law_add : Has P w K mg base 4 "_law_add" ["one", "two"] 2 sp__law_add) (F__law_times : Has P w K mg base 4 "_law_times" ["one", "by"] 2 sp__law_times) (cdv : Value) (A : Around) (outer : List Env) (s : Shared) (H : Hp) (E : L2.XK)
    (hr : Room 4 (cxF P w K mg base ["one", "two"] "_law_less" s__law_less f cdv A outer s H E).A) : ∃ ts, XSs (cxF P w K mg base ["one", "two"] "_law_less" s__law_less f cdv A outer s H E) (defBody s__law_less) ts dt__law_less := by
  have nd : (cxF P w K mg base ["one", "two"] "_law_less" s__law_less f cdv A outer s H E).N.Nodup := sc__law_less.nd
  exact ⟨_, (xs_one (w_ret (x_call (K := K) F__law_add hr (xa_cons (x_var 0) (xa_cons (x_call (K := K) F__law_times hr (xa_cons (x_var 1) (xa_cons (x_tup (xd_cons (x_neg x_int) (xd_cons x_int xd_nil))) xa_nil))) xa_nil)))))⟩
end DL
namespace DL
open PySem PySem.Spec PyProof.Rows L2
noncomputable def z__law_numbers : { s : Stmt // s = top 81 } := by
  refine ⟨?x, ?h⟩
  rotate_left
  · conv => rhs; whnf
noncomputable abbrev s__law_numbers : Stmt := z__law_numbers.val
theorem sc__law_numbers : FnScope ["answer2", "many2", "top", "under", "found", "k", "here", "j"] ["answer2", "many2"] (defScope s__law_numbers) := ⟨rfl, rfl, rfl, by decide +kernel, rfl, by decide +kernel, by decide +kernel⟩
theorem bd__law_numbers : BindAll "_law_numbers" s__law_numbers ["answer2", "many2"] := fun _ _ _ _ _ _ us hl => match us, hl with | [_, _], _ => rfl
theorem wk__law_numbers {P : Program} {w : World} {K : PySem.W.Frag} {mg : PySem.Str → Option Value} {base : Heap} {f : Addr} (B : Fre mg) (c : Csts K mg) (F__law_minus : Has P w K mg base 3 "_law_minus" ["one", "two"] 2 sp__law_minus) (F__law_prod : Has P w K mg base 3 "_law_prod" ["one", "two"] 2 sp__law_prod) (cdv : Value) (A : Around) (outer : List Env) (s : Shared) (H : Hp) (E : L2.XK)
    (hr : Room 3 (cxF P w K mg base ["answer2", "many2", "top", "under", "found", "k", "here", "j"] "_law_numbers" s__law_numbers f cdv A outer s H E).A) : ∃ ts, XSs (cxF P w K mg base ["answer2", "many2", "top", "under", "found", "k", "here", "j"] "_law_numbers" s__law_numbers f cdv A outer s H E) (defBody s__law_numbers) ts dt__law_numbers := by
  have nd : (cxF P w K mg base ["answer2", "many2", "top", "under", "found", "k", "here", "j"] "_law_numbers" s__law_numbers f cdv A outer s H E).N.Nodup := sc__law_numbers.nd
  exact ⟨_, (xs_cons (w_par3 2 3 4 rfl nd (x_ix (K := K) (x_var 0) x_int) (x_ix (K := K) (x_var 0) x_int) (x_lst xd_nil)) (xs_cons (w_for rfl rfl (xi_r1 B.range (x_var 1)) (xg_name 5 nd) (xs_cons (w_set 6 nd (x_ifx (y_lt (x_var 5) (x_len (K := K) B.len (xa_cons (x_var 2) xa_nil))) (x_ix (K := K) (x_var 2) (x_var 5)) (x_tup (xd_cons x_int (xd_cons x_int xd_nil))))) (xs_cons (w_for rfl rfl (xi_r2 B.range x_int (x_add (x_min2 rfl B.min (xa_cons (x_var 5) (xa_cons (x_sub (x_len (K := K) B.len (xa_cons (x_var 3) xa_nil)) x_int) xa_nil))) x_int)) (xg_name 7 nd) (xs_one (w_set 6 nd (x_call (K := K) F__law_minus hr (xa_cons (x_var 6) (xa_cons (x_call (K := K) F__law_prod hr (xa_cons (x_ix (K := K) (x_var 3) (x_var 7)) (xa_cons (x_ix (K := K) (x_var 4) (x_sub (x_var 5) (x_var 7))) xa_nil))) xa_nil)))))) (xs_one (w_append 4 (x_var 6)))))) (xs_one (w_retV 4))))⟩
end DL
namespace DL
open PySem PySem.Spec PyProof.Rows L2
noncomputable def z__law_ints : { s : Stmt // s = top 71 } := by
  refine ⟨?x, ?h⟩
  rotate_left
  · conv => rhs; whnf
noncomputable abbrev s__law_ints : Stmt := z__law_ints.val
theorem sc__law_ints : FnScope ["some", "under", "each"] ["some"] (defScope s__law_ints) := ⟨rfl, rfl, rfl, by decide +kernel, rfl, by decide +kernel, by decide +kernel⟩
theorem bd__law_ints : BindAll "_law_ints" s__law_ints ["some"] := fun _ _ _ _ _ _ us hl => match us, hl with | [_], _ => rfl
theorem wk__law_ints {P : Program} {w : World} {K : PySem.W.Frag} {mg : PySem.Str → Option Value} {base : Heap} {f : Addr} (B : Fre mg) (c : Csts K mg) (F__law_deep : Has P w K mg base 1 "_law_deep" ["one", "two"] 2 sp__law_deep) (cdv : Value) (A : Around) (outer : List Env) (s : Shared) (H : Hp) (E : L2.XK)
    (hr : Room 1 (cxF P w K mg base ["some", "under", "each"] "_law_ints" s__law_ints f cdv A outer s H E).A) : ∃ ts, XSs (cxF P w K mg base ["some", "under", "each"] "_law_ints" s__law_ints f cdv A outer s H E) (defBody s__law_ints) ts dt__law_ints := by
  have nd : (cxF P w K mg base ["some", "under", "each"] "_law_ints" s__law_ints f cdv A outer s H E).N.Nodup := sc__law_ints.nd
  exact ⟨_, (xs_cons (w_set 1 nd x_int) (xs_cons (w_for rfl rfl (xi_seq (x_var 0)) (xg_name 2 nd) (xs_one (w_set 1 nd (x_mul (x_var 1) (x_fdivX (x_ix (K := K) (x_var 2) x_int) (x_call (K := K) F__law_deep hr (xa_cons (x_var 1) (xa_cons (x_ix (K := K) (x_var 2) x_int) xa_nil)))))))) (xs_one (w_ret (x_tup (xd_cons (x_lc rfl nd (xi_seq (x_var 0)) (blkOk_by (N := ["some", "under", "each"]) (sc := defScope s__law_ints) (own := [("each", 2)]) (by decide +kernel)) (fun _ _ _ _ _ => (xg_name 2 (by exact nd))) (fun _ _ _ _ _ => xif_nil) (fun _ _ _ _ _ => (x_mul (x_ix (K := K) (x_var 2) x_int) (x_fdivX (x_var 1) (x_ix (K := K) (x_var 2) x_int))))) (xd_cons (x_var 1) xd_nil)))))))⟩
end DL
namespace DL
open PySem PySem.Spec PyProof.Rows L2
noncomputable def z__law_mul : { s : Stmt // s = top 73 } := by
  refine ⟨?x, ?h⟩
  rotate_left
  · conv => rhs; whnf
noncomputable abbrev s__law_mul : Stmt := z__law_mul.val
theorem sc__law_mul : FnScope ["one", "two", "ones", "under", "twos", "below", "some", "i", "j", "each"] ["one", "two"] (defScope s__law_mul) := ⟨rfl, rfl, rfl, by decide +kernel, rfl, by decide +kernel, by decide +kernel⟩
theorem bd__law_mul : BindAll "_law_mul" s__law_mul ["one", "two"] := fun _ _ _ _ _ _ us hl => match us, hl with | [_, _], _ => rfl
theorem wk__law_mul {P : Program} {w : World} {K : PySem.W.Frag} {mg : PySem.Str → Option Value} {base : Heap} {f : Addr} (B : Fre mg) (c : Csts K mg) (F__law_ints : Has P w K mg base 2 "_law_ints" ["some"] 1 sp__law_ints) (F__law_low : Has P w K mg base 2 "_law_low" ["top", "under"] 2 sp__law_low) (cdv : Value) (A : Around) (outer : List Env) (s : Shared) (H : Hp) (E : L2.XK)
    (hr : Room 2 (cxF P w K mg base ["one", "two", "ones", "under", "twos", "below", "some", "i", "j", "each"] "_law_mul" s__law_mul f cdv A outer s H E).A) : ∃ ts, XSs (cxF P w K mg base ["one", "two", "ones", "under", "twos", "below", "some", "i", "j", "each"] "_law_mul" s__law_mul f cdv A outer s H E) (defBody s__law_mul) ts dt__law_mul := by
  have nd : (cxF P w K mg base ["one", "two", "ones", "under", "twos", "below", "some", "i", "j", "each"] "_law_mul" s__law_mul f cdv A outer s H E).N.Nodup := sc__law_mul.nd
  exact ⟨_, (xs_cons (w_if (y_w (y_or (y_eq (K := K) hr (x_var 0) (x_tup xd_nil)) (y_or1 (y_eq (K := K) hr (x_var 1) (x_tup xd_nil))))) (xs_one (w_ret (x_tup xd_nil))) xs_nil) (xs_cons (w_asg (x_call (K := K) F__law_ints hr (xa_cons (x_var 0) xa_nil)) (xg_tup (K := K) rfl (xgs_cons (xg_name 2 nd) (xgs_cons (xg_name 3 nd) xgs_nil)))) (xs_cons (w_asg (x_call (K := K) F__law_ints hr (xa_cons (x_var 1) xa_nil)) (xg_tup (K := K) rfl (xgs_cons (xg_name 4 nd) (xgs_cons (xg_name 5 nd) xgs_nil)))) (xs_cons (w_set 6 nd (x_rep (x_lst (xd_cons x_int xd_nil)) (x_sub (x_add (x_len (K := K) B.len (xa_cons (x_var 2) xa_nil)) (x_len (K := K) B.len (xa_cons (x_var 4) xa_nil))) x_int))) (xs_cons (w_for rfl rfl (xi_r1 B.range (x_len (K := K) B.len (xa_cons (x_var 2) xa_nil))) (xg_name 7 nd) (xs_one (w_for rfl rfl (xi_r1 B.range (x_len (K := K) B.len (xa_cons (x_var 4) xa_nil))) (xg_name 8 nd) (xs_one (w_setIx 6 (x_add (x_ix (K := K) (x_var 6) (x_add (x_var 7) (x_var 8))) (x_mul (x_ix (K := K) (x_var 2) (x_var 7)) (x_ix (K := K) (x_var 4) (x_var 8)))) (x_add (x_var 7) (x_var 8))))))) (xs_fz 6 (xs_one (w_ret (x_tuple (K := K) B.tuple (xa_cons (x_lc rfl nd (xi_seq (x_var 6)) (blkOk_by (N := ["one", "two", "ones", "under", "twos", "below", "some", "i", "j", "each"]) (sc := defScope s__law_mul) (own := [("each", 9)]) (by decide +kernel)) (fun _ _ _ _ _ => (xg_name 9 (by exact nd))) (fun _ _ _ _ _ => xif_nil) (fun _ _ _ _ _ => (x_call (K := K) F__law_low (by exact hr) (xa_cons (x_var 9) (xa_cons (x_mul (x_var 3) (x_var 5)) xa_nil))))) xa_nil))))))))))⟩
end DL
namespace DL
open PySem PySem.Spec PyProof.Rows L2
noncomputable def z__law_all : { s : Stmt // s = top 69 } := by
  refine ⟨?x, ?h⟩
  rotate_left
  · conv => rhs; whnf
noncomputable abbrev s__law_all : Stmt := z__law_all.val
theorem sc__law_all : FnScope ["some", "found", "each"] ["some"] (defScope s__law_all) := ⟨rfl, rfl, rfl, by decide +kernel, rfl, by decide +kernel, by decide +kernel⟩
theorem bd__law_all : BindAll "_law_all" s__law_all ["some"] := fun _ _ _ _ _ _ us hl => match us, hl with | [_], _ => rfl
theorem wk__law_all {P : Program} {w : World} {K : PySem.W.Frag} {mg : PySem.Str → Option Value} {base : Heap} {f : Addr} (B : Fre mg) (c : Csts K mg) (F__law_plus : Has P w K mg base 3 "_law_plus" ["one", "two"] 2 sp__law_plus) (cdv : Value) (A : Around) (outer : List Env) (s : Shared) (H : Hp) (E : L2.XK)
    (hr : Room 3 (cxF P w K mg base ["some", "found", "each"] "_law_all" s__law_all f cdv A outer s H E).A) : ∃ ts, XSs (cxF P w K mg base ["some", "found", "each"] "_law_all" s__law_all f cdv A outer s H E) (defBody s__law_all) ts dt__law_all := by
  have nd : (cxF P w K mg base ["some", "found", "each"] "_law_all" s__law_all f cdv A outer s H E).N.Nodup := sc__law_all.nd
  exact ⟨_, (xs_cons (w_set 1 nd (x_tup (xd_cons x_int (xd_cons x_int xd_nil)))) (xs_cons (w_for rfl rfl (xi_seq (x_var 0)) (xg_name 2 nd) (xs_one (w_set 1 nd (x_call (K := K) F__law_plus hr (xa_cons (x_var 1) (xa_cons (x_var 2) xa_nil)))))) (xs_one (w_retV 1))))⟩
end DL
namespace DL
open PySem PySem.Spec PyProof.Rows L2
noncomputable def z__law_size : { s : Stmt // s = top 68 } := by
  refine ⟨?x, ?h⟩
  rotate_left
  · conv => rhs; whnf
noncomputable abbrev s__law_size : Stmt := z__law_size.val
theorem sc__law_size : FnScope ["one"] ["one"] (defScope s__law_size) := ⟨rfl, rfl, rfl, by decide +kernel, rfl, by decide +kernel, by decide +kernel⟩
theorem bd__law_size : BindAll "_law_size" s__law_size ["one"] := fun _ _ _ _ _ _ us hl => match us, hl with | [_], _ => rfl
theorem wk__law_size {P : Program} {w : World} {K : PySem.W.Frag} {mg : PySem.Str → Option Value} {base : Heap} {f : Addr} (B : Fre mg) (c : Csts K mg) (cdv : Value) (A : Around) (outer : List Env) (s : Shared) (H : Hp) (E : L2.XK)
    (hr : Room 0 (cxF P w K mg base ["one"] "_law_size" s__law_size f cdv A outer s H E).A) : ∃ ts, XSs (cxF P w K mg base ["one"] "_law_size" s__law_size f cdv A outer s H E) (defBody s__law_size) ts dt__law_size := by
  have nd : (cxF P w K mg base ["one"] "_law_size" s__law_size f cdv A outer s H E).N.Nodup := sc__law_size.nd
  exact ⟨_, (xs_one (w_ret (x_tup (xd_cons (x_abs B.abs (xa_cons (x_ix (K := K) (x_var 0) x_int) xa_nil)) (xd_cons (x_ix (K := K) (x_var 0) x_int) xd_nil)))))⟩
end DL
namespace DL
open PySem PySem.Spec PyProof.Rows L2
noncomputable def z__law_sizes : { s : Stmt // s = top 70 } := by
  refine ⟨?x, ?h⟩
  rotate_left
  · conv => rhs; whnf
noncomputable abbrev s__law_sizes : Stmt := z__law_sizes.val
theorem sc__law_sizes : FnScope ["some", "each"] ["some"] (defScope s__law_sizes) := ⟨rfl, rfl, rfl, by decide +kernel, rfl, by decide +kernel, by decide +kernel⟩
theorem bd__law_sizes : BindAll "_law_sizes" s__law_sizes ["some"] := fun _ _ _ _ _ _ us hl => match us, hl with | [_], _ => rfl
theorem wk__law_sizes {P : Program} {w : World} {K : PySem.W.Frag} {mg : PySem.Str → Option Value} {base : Heap} {f : Addr} (B : Fre mg) (c : Csts K mg) (F__law_all : Has P w K mg base 4 "_law_all" ["some"] 1 sp__law_all) (F__law_size : Has P w K mg base 1 "_law_size" ["one"] 1 sp__law_size) (cdv : Value) (A : Around) (outer : List Env) (s : Shared) (H : Hp) (E : L2.XK)
    (hr : Room 4 (cxF P w K mg base ["some", "each"] "_law_sizes" s__law_sizes f cdv A outer s H E).A) : ∃ ts, XSs (cxF P w K mg base ["some", "each"] "_law_sizes" s__law_sizes f cdv A outer s H E) (defBody s__law_sizes) ts dt__law_sizes := by
  have nd : (cxF P w K mg base ["some", "each"] "_law_sizes" s__law_sizes f cdv A outer s H E).N.Nodup := sc__law_sizes.nd
  exact ⟨_, (xs_one (w_ret (x_call (K := K) F__law_all hr (xa_cons (x_lc rfl nd (xi_seq (x_var 0)) (blkOk_by (N := ["some", "each"]) (sc := defScope s__law_sizes) (own := [("each", 1)]) (by decide +kernel)) (fun _ _ _ _ _ => (xg_name 1 (by exact nd))) (fun _ _ _ _ _ => xif_nil) (fun _ _ _ _ _ => (x_call (K := K) F__law_size (by exact hr) (xa_cons (x_var 1) xa_nil)))) xa_nil))))⟩
end DL
namespace DL
open PySem PySem.Spec PyProof.Rows L2
noncomputable def z__law_below : { s : Stmt // s = top 67 } := by
  refine ⟨?x, ?h⟩
  rotate_left
  · conv => rhs; whnf
noncomputable abbrev s__law_below : Stmt := z__law_below.val
theorem sc__law_below : FnScope ["one", "two"] ["one", "two"] (defScope s__law_below) := ⟨rfl, rfl, rfl, by decide +kernel, rfl, by decide +kernel, by decide +kernel⟩
theorem bd__law_below : BindAll "_law_below" s__law_below ["one", "two"] := fun _ _ _ _ _ _ us hl => match us, hl with | [_, _], _ => rfl
theorem wk__law_below {P : Program} {w : World} {K : PySem.W.Frag} {mg : PySem.Str → Option Value} {base : Heap} {f : Addr} (B : Fre mg) (c : Csts K mg) (cdv : Value) (A : Around) (outer : List Env) (s : Shared) (H : Hp) (E : L2.XK)
    (hr : Room 0 (cxF P w K mg base ["one", "two"] "_law_below" s__law_below f cdv A outer s H E).A) : ∃ ts, XSs (cxF P w K mg base ["one", "two"] "_law_below" s__law_below f cdv A outer s H E) (defBody s__law_below) ts dt__law_below := by
  have nd : (cxF P w K mg base ["one", "two"] "_law_below" s__law_below f cdv A outer s H E).N.Nodup := sc__law_below.nd
  exact ⟨_, (xs_one (w_ret (x_lt (x_mul (x_ix (K := K) (x_var 0) x_int) (x_ix (K := K) (x_var 1) x_int)) (x_mul (x_ix (K := K) (x_var 1) x_int) (x_ix (K := K) (x_var 0) x_int)))))⟩
end DL
namespace DL
open PySem PySem.Spec PyProof.Rows L2
noncomputable def z__law_own_bounds : { s : Stmt // s = top 92 } := by
  refine ⟨?x, ?h⟩
  rotate_left
  · conv => rhs; whnf
noncomputable abbrev s__law_own_bounds : Stmt := z__law_own_bounds.val
theorem sc__law_own_bounds : FnScope ["answer2", "many2", "h", "rest", "f", "s"] ["answer2", "many2"] (defScope s__law_own_bounds) := ⟨rfl, rfl, rfl, by decide +kernel, rfl, by decide +kernel, by decide +kernel⟩
theorem bd__law_own_bounds : BindAll "_law_own_bounds" s__law_own_bounds ["answer2", "many2"] := fun _ _ _ _ _ _ us hl => match us, hl with | [_, _], _ => rfl
theorem wk__law_own_bounds {P : Program} {w : World} {K : PySem.W.Frag} {mg : PySem.Str → Option Value} {base : Heap} {f : Addr} (B : Fre mg) (c : Csts K mg) (F__law_cut : Has P w K mg base 1 "_law_cut" ["some"] 1 sp__law_cut) (F__law_numbers : Has P w K mg base 4 "_law_numbers" ["answer2", "many2"] 2 sp__law_numbers) (F__law_less : Has P w K mg base 5 "_law_less" ["one", "two"] 2 sp__law_less) (F__law_mul : Has P w K mg base 3 "_law_mul" ["one", "two"] 2 sp__law_mul) (F__law_sizes : Has P w K mg base 5 "_law_sizes" ["some"] 1 sp__law_sizes) (F__law_below : Has P w K mg base 1 "_law_below" ["one", "two"] 2 sp__law_below) (F__law_per : Has P w K mg base 3 "_law_per" ["one", "two"] 2 sp__law_per) (F__law_minus : Has P w K mg base 3 "_law_minus" ["one", "two"] 2 sp__law_minus) (F__law_plus : Has P w K mg base 3 "_law_plus" ["one", "two"] 2 sp__law_plus) (cdv : Value) (A : Around) (outer : List Env) (s : Shared) (H : Hp) (E : L2.XK)
    (hr : Room 5 (cxF P w K mg base ["answer2", "many2", "h", "rest", "f", "s"] "_law_own_bounds" s__law_own_bounds f cdv A outer s H E).A) : ∃ ts, XSs (cxF P w K mg base ["answer2", "many2", "h", "rest", "f", "s"] "_law_own_bounds" s__law_own_bounds f cdv A outer s H E) (defBody s__law_own_bounds) ts dt__law_own_bounds := by
  have nd : (cxF P w K mg base ["answer2", "many2", "h", "rest", "f", "s"] "_law_own_bounds" s__law_own_bounds f cdv A outer s H E).N.Nodup := sc__law_own_bounds.nd
  exact ⟨_, (xs_cons (w_set 2 nd (x_call (K := K) F__law_cut hr (xa_cons (x_call (K := K) F__law_numbers hr (xa_cons (x_tup (xd_cons (x_tup (xd_cons (x_tup (xd_cons x_int (xd_cons x_int xd_nil))) xd_nil)) (xd_cons (x_ix (K := K) (x_var 0) x_int) xd_nil))) (xa_cons (x_var 1) xa_nil))) xa_nil))) (xs_cons (w_set 3 nd (x_call (K := K) F__law_less hr (xa_cons (x_tup (xd_cons (x_tup (xd_cons x_int (xd_cons x_int xd_nil))) xd_nil)) (xa_cons (x_call (K := K) F__law_mul hr (xa_cons (x_ix (K := K) (x_var 0) x_int) (xa_cons (x_var 2) xa_nil))) xa_nil)))) (xs_cons (w_par 4 5 rfl nd (x_call (K := K) F__law_sizes hr (xa_cons (x_var 3) xa_nil)) (x_call (K := K) F__law_sizes hr (xa_cons (x_call (K := K) F__law_mul hr (xa_cons (x_ix (K := K) (x_var 0) x_int) (xa_cons (x_var 2) xa_nil))) xa_nil))) (xs_cons (w_if (y_not (y_of (x_call (K := K) F__law_below hr (xa_cons (x_var 4) (xa_cons (x_tup (xd_cons x_int (xd_cons x_int xd_nil))) xa_nil))))) (xs_one (w_ret x_non)) xs_nil) (xs_one (w_ret (x_tup (xd_cons (x_call (K := K) F__law_per hr (xa_cons (x_var 5) (xa_cons (x_call (K := K) F__law_plus hr (xa_cons (x_tup (xd_cons x_int (xd_cons x_int xd_nil))) (xa_cons (x_var 4) xa_nil))) xa_nil))) (xd_cons (x_call (K := K) F__law_per hr (xa_cons (x_var 5) (xa_cons (x_call (K := K) F__law_minus hr (xa_cons (x_tup (xd_cons x_int (xd_cons x_int xd_nil))) (xa_cons (x_var 4) xa_nil))) xa_nil))) xd_nil)))))))))⟩
end DL
namespace DL
open PySem PySem.Spec PyProof.Rows L2
noncomputable def z__law_some : { s : Stmt // s = top 83 } := by
  refine ⟨?x, ?h⟩
  rotate_left
  · conv => rhs; whnf
noncomputable abbrev s__law_some : Stmt := z__law_some.val
theorem sc__law_some : FnScope ["well", "top"] ["well"] (defScope s__law_some) := ⟨rfl, rfl, rfl, by decide +kernel, rfl, by decide +kernel, by decide +kernel⟩
theorem bd__law_some : BindAll "_law_some" s__law_some ["well"] := fun _ _ _ _ _ _ us hl => match us, hl with | [_], _ => rfl
theorem wk__law_some {P : Program} {w : World} {K : PySem.W.Frag} {mg : PySem.Str → Option Value} {base : Heap} {f : Addr} (B : Fre mg) (c : Csts K mg) (F__law_draw : Has P w K mg base 1 "_law_draw" ["well", "top"] 2 sp__law_draw) (F__law_pick : Has P w K mg base 2 "_law_pick" ["well", "some"] 2 sp__law_pick) (F__law_low : Has P w K mg base 2 "_law_low" ["top", "under"] 2 sp__law_low) (cdv : Value) (A : Around) (outer : List Env) (s : Shared) (H : Hp) (E : L2.XK)
    (hr : Room 2 (cxF P w K mg base ["well", "top"] "_law_some" s__law_some f cdv A outer s H E).A) : ∃ ts, XSs (cxF P w K mg base ["well", "top"] "_law_some" s__law_some f cdv A outer s H E) (defBody s__law_some) ts dt__law_some := by
  have nd : (cxF P w K mg base ["well", "top"] "_law_some" s__law_some f cdv A outer s H E).N.Nodup := sc__law_some.nd
  exact ⟨_, (xs_cons (w_set 1 nd (x_add x_int (x_call (K := K) F__law_draw hr (xa_cons (x_var 0) (xa_cons (x_call (K := K) F__law_pick hr (xa_cons (x_var 0) (xa_cons (x_lst (xd_cons x_int (xd_cons x_int (xd_cons x_int (xd_cons x_int (xd_cons x_int (xd_cons x_int xd_nil))))))) xa_nil))) xa_nil))))) (xs_one (w_ret (x_call (K := K) F__law_low hr (xa_cons (x_ifx (y_eq (K := K) hr (x_call (K := K) F__law_draw hr (xa_cons (x_var 0) (xa_cons x_int xa_nil))) x_int) (x_var 1) (x_sub x_int (x_var 1))) (xa_cons (x_call (K := K) F__law_pick hr (xa_cons (x_var 0) (xa_cons (x_lst (xd_cons x_int (xd_cons x_int (xd_cons x_int (xd_cons x_int (xd_cons x_int (xd_cons x_int (xd_cons x_int xd_nil)))))))) xa_nil))) xa_nil))))))⟩
end DL
namespace DL
open PySem PySem.Spec PyProof.Rows L2
noncomputable def z__law_any : { s : Stmt // s = top 82 } := by
  refine ⟨?x, ?h⟩
  rotate_left
  · conv => rhs; whnf
noncomputable abbrev s__law_any : Stmt := z__law_any.val
theorem sc__law_any : FnScope ["well", "wide"] ["well"] (defScope s__law_any) := ⟨rfl, rfl, rfl, by decide +kernel, rfl, by decide +kernel, by decide +kernel⟩
theorem bd__law_any : BindAll "_law_any" s__law_any ["well"] := fun _ _ _ _ _ _ us hl => match us, hl with | [_], _ => rfl
theorem wk__law_any {P : Program} {w : World} {K : PySem.W.Frag} {mg : PySem.Str → Option Value} {base : Heap} {f : Addr} (B : Fre mg) (c : Csts K mg) (F__law_pick : Has P w K mg base 2 "_law_pick" ["well", "some"] 2 sp__law_pick) (F__law_low : Has P w K mg base 2 "_law_low" ["top", "under"] 2 sp__law_low) (F__law_draw : Has P w K mg base 1 "_law_draw" ["well", "top"] 2 sp__law_draw) (cdv : Value) (A : Around) (outer : List Env) (s : Shared) (H : Hp) (E : L2.XK)
    (hr : Room 2 (cxF P w K mg base ["well", "wide"] "_law_any" s__law_any f cdv A outer s H E).A) : ∃ ts, XSs (cxF P w K mg base ["well", "wide"] "_law_any" s__law_any f cdv A outer s H E) (defBody s__law_any) ts dt__law_any := by
  have nd : (cxF P w K mg base ["well", "wide"] "_law_any" s__law_any f cdv A outer s H E).N.Nodup := sc__law_any.nd
  exact ⟨_, (xs_cons (w_set 1 nd (x_call (K := K) F__law_pick hr (xa_cons (x_var 0) (xa_cons (x_lst (xd_cons x_int (xd_cons x_int (xd_cons x_int (xd_cons x_int (xd_cons x_int (xd_cons x_int xd_nil))))))) xa_nil)))) (xs_one (w_ret (x_call (K := K) F__law_low hr (xa_cons (x_sub (x_call (K := K) F__law_draw hr (xa_cons (x_var 0) (xa_cons (x_add (x_mul x_int (x_var 1)) x_int) xa_nil))) (x_var 1)) (xa_cons (x_call (K := K) F__law_pick hr (xa_cons (x_var 0) (xa_cons (x_lst (xd_cons x_int (xd_cons x_int (xd_cons x_int (xd_cons x_int (xd_cons x_int (xd_cons x_int (xd_cons x_int xd_nil)))))))) xa_nil))) xa_nil))))))⟩
end DL
namespace DL
open PySem PySem.Spec PyProof.Rows L2
noncomputable def z__law_row : { s : Stmt // s = top 84 } := by
  refine ⟨?x, ?h⟩
  rotate_left
  · conv => rhs; whnf
noncomputable abbrev s__law_row : Stmt := z__law_row.val
theorem sc__law_row : FnScope ["well", "most", "some", "lap"] ["well", "most"] (defScope s__law_row) := ⟨rfl, rfl, rfl, by decide +kernel, rfl, by decide +kernel, by decide +kernel⟩
theorem bd__law_row : BindAll "_law_row" s__law_row ["well", "most"] := fun _ _ _ _ _ _ us hl => match us, hl with | [_, _], _ => rfl
theorem wk__law_row {P : Program} {w : World} {K : PySem.W.Frag} {mg : PySem.Str → Option Value} {base : Heap} {f : Addr} (B : Fre mg) (c : Csts K mg) (F__law_draw : Has P w K mg base 1 "_law_draw" ["well", "top"] 2 sp__law_draw) (F__law_any : Has P w K mg base 3 "_law_any" ["well"] 1 sp__law_any) (F__law_some : Has P w K mg base 3 "_law_some" ["well"] 1 sp__law_some) (cdv : Value) (A : Around) (outer : List Env) (s : Shared) (H : Hp) (E : L2.XK)
    (hr : Room 3 (cxF P w K mg base ["well", "most", "some", "lap"] "_law_row" s__law_row f cdv A outer s H E).A) : ∃ ts, XSs (cxF P w K mg base ["well", "most", "some", "lap"] "_law_row" s__law_row f cdv A outer s H E) (defBody s__law_row) ts dt__law_row := by
  have nd : (cxF P w K mg base ["well", "most", "some", "lap"] "_law_row" s__law_row f cdv A outer s H E).N.Nodup := sc__law_row.nd
  exact ⟨_, (xs_cons (w_set 2 nd (x_lst xd_nil)) (xs_cons (w_for rfl rfl (xi_r1 B.range (x_call (K := K) F__law_draw hr (xa_cons (x_var 0) (xa_cons (x_var 1) xa_nil)))) (xg_name 3 nd) (xs_one (w_append 2 (x_call (K := K) F__law_any hr (xa_cons (x_var 0) xa_nil))))) (xs_cons (w_append 2 (x_call (K := K) F__law_some hr (xa_cons (x_var 0) xa_nil))) (xs_one (w_ret (x_tuple (K := K) B.tuple (xa_cons (x_var 2) xa_nil)))))))⟩
end DL
namespace DL
open PySem PySem.Spec PyProof.Rows L2
noncomputable def z__law_is_int : { s : Stmt // s = top 90 } := by
  refine ⟨?x, ?h⟩
  rotate_left
  · conv => rhs; whnf
noncomputable abbrev s__law_is_int : Stmt := z__law_is_int.val
theorem sc__law_is_int : FnScope ["some"] ["some"] (defScope s__law_is_int) := ⟨rfl, rfl, rfl, by decide +kernel, rfl, by decide +kernel, by decide +kernel⟩
theorem bd__law_is_int : BindAll "_law_is_int" s__law_is_int ["some"] := fun _ _ _ _ _ _ us hl => match us, hl with | [_], _ => rfl
theorem wk__law_is_int {P : Program} {w : World} {K : PySem.W.Frag} {mg : PySem.Str → Option Value} {base : Heap} {f : Addr} (B : Fre mg) (c : Csts K mg) (cdv : Value) (A : Around) (outer : List Env) (s : Shared) (H : Hp) (E : L2.XK)
    (hr : Room 0 (cxF P w K mg base ["some"] "_law_is_int" s__law_is_int f cdv A outer s H E).A) : ∃ ts, XSs (cxF P w K mg base ["some"] "_law_is_int" s__law_is_int f cdv A outer s H E) (defBody s__law_is_int) ts dt__law_is_int := by
  have nd : (cxF P w K mg base ["some"] "_law_is_int" s__law_is_int f cdv A outer s H E).N.Nodup := sc__law_is_int.nd
  exact ⟨_, (xs_one (w_ret (x_and (x_isi (K := K) B.isinstance B.int (by decide +kernel) (x_var 0)) (x_one (x_not (x_isi (K := K) B.isinstance B.bool (by decide +kernel) (x_var 0)))))))⟩
end DL
namespace DL
open PySem PySem.Spec PyProof.Rows L2
noncomputable def z__law_is_part : { s : Stmt // s = top 91 } := by
  refine ⟨?x, ?h⟩
  rotate_left
  · conv => rhs; whnf
noncomputable abbrev s__law_is_part : Stmt := z__law_is_part.val
theorem sc__law_is_part : FnScope ["some"] ["some"] (defScope s__law_is_part) := ⟨rfl, rfl, rfl, by decide +kernel, rfl, by decide +kernel, by decide +kernel⟩
theorem bd__law_is_part : BindAll "_law_is_part" s__law_is_part ["some"] := fun _ _ _ _ _ _ us hl => match us, hl with | [_], _ => rfl
theorem wk__law_is_part {P : Program} {w : World} {K : PySem.W.Frag} {mg : PySem.Str → Option Value} {base : Heap} {f : Addr} (B : Fre mg) (c : Csts K mg) (F__law_is_int : Has P w K mg base 1 "_law_is_int" ["some"] 1 sp__law_is_int) (F__law_deep : Has P w K mg base 1 "_law_deep" ["one", "two"] 2 sp__law_deep) (cdv : Value) (A : Around) (outer : List Env) (s : Shared) (H : Hp) (E : L2.XK)
    (hr : Room 1 (cxF P w K mg base ["some"] "_law_is_part" s__law_is_part f cdv A outer s H E).A) : ∃ ts, XSs (cxF P w K mg base ["some"] "_law_is_part" s__law_is_part f cdv A outer s H E) (defBody s__law_is_part) ts dt__law_is_part := by
  have nd : (cxF P w K mg base ["some"] "_law_is_part" s__law_is_part f cdv A outer s H E).N.Nodup := sc__law_is_part.nd
  exact ⟨_, (xs_cons (w_if (y_w (y_or (y_not (y_of (x_isi (K := K) B.isinstance B.tuple (by decide +kernel) (x_var 0)))) (y_or (y_ne (K := K) hr (x_len (K := K) B.len (xa_cons (x_var 0) xa_nil)) x_int) (y_or (y_not (y_of (x_call (K := K) F__law_is_int hr (xa_cons (x_ix (K := K) (x_var 0) x_int) xa_nil)))) (y_or1 (y_not (y_of (x_call (K := K) F__law_is_int hr (xa_cons (x_ix (K := K) (x_var 0) x_int) xa_nil))))))))) (xs_one (w_ret x_bl)) xs_nil) (xs_one (w_ret (x_and (x_gt (x_ix (K := K) (x_var 0) x_int) x_int) (x_one (x_eq (K := K) hr (x_call (K := K) F__law_deep hr (xa_cons (x_ix (K := K) (x_var 0) x_int) (xa_cons (x_ix (K := K) (x_var 0) x_int) xa_nil))) x_int))))))⟩
end DL
namespace DL
open PySem PySem.Spec PyProof.Rows L2
noncomputable def z__law_are_bounds : { s : Stmt // s = top 93 } := by
  refine ⟨?x, ?h⟩
  rotate_left
  · conv => rhs; whnf
noncomputable abbrev s__law_are_bounds : Stmt := z__law_are_bounds.val
theorem sc__law_are_bounds : FnScope ["some", "many2"] ["some", "many2"] (defScope s__law_are_bounds) := ⟨rfl, rfl, rfl, by decide +kernel, rfl, by decide +kernel, by decide +kernel⟩
theorem bd__law_are_bounds : BindAll "_law_are_bounds" s__law_are_bounds ["some", "many2"] := fun _ _ _ _ _ _ us hl => match us, hl with | [_, _], _ => rfl
theorem wk__law_are_bounds {P : Program} {w : World} {K : PySem.W.Frag} {mg : PySem.Str → Option Value} {base : Heap} {f : Addr} (B : Fre mg) (c : Csts K mg) (F__law_is_part : Has P w K mg base 2 "_law_is_part" ["some"] 1 sp__law_is_part) (F__law_below : Has P w K mg base 1 "_law_below" ["one", "two"] 2 sp__law_below) (F__law_minus : Has P w K mg base 3 "_law_minus" ["one", "two"] 2 sp__law_minus) (cdv : Value) (A : Around) (outer : List Env) (s : Shared) (H : Hp) (E : L2.XK)
    (hr : Room 3 (cxF P w K mg base ["some", "many2"] "_law_are_bounds" s__law_are_bounds f cdv A outer s H E).A) : ∃ ts, XSs (cxF P w K mg base ["some", "many2"] "_law_are_bounds" s__law_are_bounds f cdv A outer s H E) (defBody s__law_are_bounds) ts dt__law_are_bounds := by
  have nd : (cxF P w K mg base ["some", "many2"] "_law_are_bounds" s__law_are_bounds f cdv A outer s H E).N.Nodup := sc__law_are_bounds.nd
  exact ⟨_, (xs_cons (w_if (y_w (y_or (y_not (y_of (x_isi (K := K) B.isinstance B.tuple (by decide +kernel) (x_var 0)))) (y_or (y_ne (K := K) hr (x_len (K := K) B.len (xa_cons (x_var 0) xa_nil)) x_int) (y_or (y_not (y_of (x_call (K := K) F__law_is_part hr (xa_cons (x_ix (K := K) (x_var 0) x_int) xa_nil)))) (y_or1 (y_not (y_of (x_call (K := K) F__law_is_part hr (xa_cons (x_ix (K := K) (x_var 0) x_int) xa_nil))))))))) (xs_one (w_ret x_bl)) xs_nil) (xs_one (w_ret (x_and (x_not (x_call (K := K) F__law_below hr (xa_cons (x_tup (xd_cons x_int (xd_cons (x_var 1) xd_nil))) (xa_cons (x_call (K := K) F__law_minus hr (xa_cons (x_ix (K := K) (x_var 0) x_int) (xa_cons (x_ix (K := K) (x_var 0) x_int) xa_nil))) xa_nil)))) (x_one (x_not (x_call (K := K) F__law_below hr (xa_cons (x_ix (K := K) (x_var 0) x_int) (xa_cons (x_ix (K := K) (x_var 0) x_int) xa_nil)))))))))⟩
end DL
namespace DL
open PySem PySem.Spec PyProof.Rows L2
noncomputable def z__law_do_meet : { s : Stmt // s = top 94 } := by
  refine ⟨?x, ?h⟩
  rotate_left
  · conv => rhs; whnf
noncomputable abbrev s__law_do_meet : Stmt := z__law_do_meet.val
theorem sc__law_do_meet : FnScope ["one", "two"] ["one", "two"] (defScope s__law_do_meet) := ⟨rfl, rfl, rfl, by decide +kernel, rfl, by decide +kernel, by decide +kernel⟩
theorem bd__law_do_meet : BindAll "_law_do_meet" s__law_do_meet ["one", "two"] := fun _ _ _ _ _ _ us hl => match us, hl with | [_, _], _ => rfl
theorem wk__law_do_meet {P : Program} {w : World} {K : PySem.W.Frag} {mg : PySem.Str → Option Value} {base : Heap} {f : Addr} (B : Fre mg) (c : Csts K mg) (F__law_below : Has P w K mg base 1 "_law_below" ["one", "two"] 2 sp__law_below) (cdv : Value) (A : Around) (outer : List Env) (s : Shared) (H : Hp) (E : L2.XK)
    (hr : Room 1 (cxF P w K mg base ["one", "two"] "_law_do_meet" s__law_do_meet f cdv A outer s H E).A) : ∃ ts, XSs (cxF P w K mg base ["one", "two"] "_law_do_meet" s__law_do_meet f cdv A outer s H E) (defBody s__law_do_meet) ts dt__law_do_meet := by
  have nd : (cxF P w K mg base ["one", "two"] "_law_do_meet" s__law_do_meet f cdv A outer s H E).N.Nodup := sc__law_do_meet.nd
  exact ⟨_, (xs_one (w_ret (x_and (x_not (x_call (K := K) F__law_below hr (xa_cons (x_ix (K := K) (x_var 0) x_int) (xa_cons (x_ix (K := K) (x_var 1) x_int) xa_nil)))) (x_one (x_not (x_call (K := K) F__law_below hr (xa_cons (x_ix (K := K) (x_var 1) x_int) (xa_cons (x_ix (K := K) (x_var 0) x_int) xa_nil))))))))⟩
end DL
namespace DL
open PySem PySem.Spec PyProof.Rows L2
noncomputable def z__law_pair_factor : { s : Stmt // s = top 88 } := by
  refine ⟨?x, ?h⟩
  rotate_left
  · conv => rhs; whnf
noncomputable abbrev s__law_pair_factor : Stmt := z__law_pair_factor.val
theorem sc__law_pair_factor : FnScope ["t", "c"] ["t", "c"] (defScope s__law_pair_factor) := ⟨rfl, rfl, rfl, by decide +kernel, rfl, by decide +kernel, by decide +kernel⟩
theorem bd__law_pair_factor : BindAll "_law_pair_factor" s__law_pair_factor ["t", "c"] := fun _ _ _ _ _ _ us hl => match us, hl with | [_, _], _ => rfl
theorem wk__law_pair_factor {P : Program} {w : World} {K : PySem.W.Frag} {mg : PySem.Str → Option Value} {base : Heap} {f : Addr} (B : Fre mg) (c : Csts K mg) (F__law_prod : Has P w K mg base 3 "_law_prod" ["one", "two"] 2 sp__law_prod) (cdv : Value) (A : Around) (outer : List Env) (s : Shared) (H : Hp) (E : L2.XK)
    (hr : Room 3 (cxF P w K mg base ["t", "c"] "_law_pair_factor" s__law_pair_factor f cdv A outer s H E).A) : ∃ ts, XSs (cxF P w K mg base ["t", "c"] "_law_pair_factor" s__law_pair_factor f cdv A outer s H E) (defBody s__law_pair_factor) ts dt__law_pair_factor := by
  have nd : (cxF P w K mg base ["t", "c"] "_law_pair_factor" s__law_pair_factor f cdv A outer s H E).N.Nodup := sc__law_pair_factor.nd
  exact ⟨_, (xs_one (w_ret (x_tup (xd_cons (x_tup (xd_cons x_int (xd_cons x_int xd_nil))) (xd_cons (x_call (K := K) F__law_prod hr (xa_cons (x_tup (xd_cons (x_neg x_int) (xd_cons x_int xd_nil))) (xa_cons (x_call (K := K) F__law_prod hr (xa_cons (x_var 0) (xa_cons (x_var 1) xa_nil))) xa_nil))) (xd_cons (x_call (K := K) F__law_prod hr (xa_cons (x_var 0) (xa_cons (x_var 0) xa_nil))) xd_nil))))))⟩
end DL
namespace DL
open PySem PySem.Spec PyProof.Rows L2
noncomputable def z__law_within : { s : Stmt // s = top 85 } := by
  refine ⟨?x, ?h⟩
  rotate_left
  · conv => rhs; whnf
noncomputable abbrev s__law_within : Stmt := z__law_within.val
theorem sc__law_within : FnScope ["well", "wide", "under", "top"] ["well", "wide"] (defScope s__law_within) := ⟨rfl, rfl, rfl, by decide +kernel, rfl, by decide +kernel, by decide +kernel⟩
theorem bd__law_within : BindAll "_law_within" s__law_within ["well", "wide"] := fun _ _ _ _ _ _ us hl => match us, hl with | [_, _], _ => rfl
theorem wk__law_within {P : Program} {w : World} {K : PySem.W.Frag} {mg : PySem.Str → Option Value} {base : Heap} {f : Addr} (B : Fre mg) (c : Csts K mg) (F__law_draw : Has P w K mg base 1 "_law_draw" ["well", "top"] 2 sp__law_draw) (F__law_pick : Has P w K mg base 2 "_law_pick" ["well", "some"] 2 sp__law_pick) (F__law_low : Has P w K mg base 2 "_law_low" ["top", "under"] 2 sp__law_low) (cdv : Value) (A : Around) (outer : List Env) (s : Shared) (H : Hp) (E : L2.XK)
    (hr : Room 2 (cxF P w K mg base ["well", "wide", "under", "top"] "_law_within" s__law_within f cdv A outer s H E).A) : ∃ ts, XSs (cxF P w K mg base ["well", "wide", "under", "top"] "_law_within" s__law_within f cdv A outer s H E) (defBody s__law_within) ts dt__law_within := by
  have nd : (cxF P w K mg base ["well", "wide", "under", "top"] "_law_within" s__law_within f cdv A outer s H E).N.Nodup := sc__law_within.nd
  exact ⟨_, (xs_cons (w_set 2 nd (x_add x_int (x_call (K := K) F__law_draw hr (xa_cons (x_var 0) (xa_cons (x_call (K := K) F__law_pick hr (xa_cons (x_var 0) (xa_cons (x_lst (xd_cons x_int (xd_cons x_int (xd_cons x_int (xd_cons (x_var 1) xd_nil))))) xa_nil))) xa_nil))))) (xs_cons (w_set 3 nd (x_add x_int (x_call (K := K) F__law_draw hr (xa_cons (x_var 0) (xa_cons (x_sub (x_var 2) x_int) xa_nil))))) (xs_one (w_ret (x_call (K := K) F__law_low hr (xa_cons (x_ifx (y_gt (x_call (K := K) F__law_draw hr (xa_cons (x_var 0) (xa_cons x_int xa_nil))) x_int) (x_var 3) (x_sub x_int (x_var 3))) (xa_cons (x_var 2) xa_nil)))))))⟩
end DL
namespace DL
open PySem PySem.Spec PyProof.Rows L2
noncomputable def z__law_factor : { s : Stmt // s = top 87 } := by
  refine ⟨?x, ?h⟩
  rotate_left
  · conv => rhs; whnf
noncomputable abbrev s__law_factor : Stmt := z__law_factor.val
theorem sc__law_factor : FnScope ["z"] ["z"] (defScope s__law_factor) := ⟨rfl, rfl, rfl, by decide +kernel, rfl, by decide +kernel, by decide +kernel⟩
theorem bd__law_factor : BindAll "_law_factor" s__law_factor ["z"] := fun _ _ _ _ _ _ us hl => match us, hl with | [_], _ => rfl
theorem wk__law_factor {P : Program} {w : World} {K : PySem.W.Frag} {mg : PySem.Str → Option Value} {base : Heap} {f : Addr} (B : Fre mg) (c : Csts K mg) (F__law_per : Has P w K mg base 3 "_law_per" ["one", "two"] 2 sp__law_per) (cdv : Value) (A : Around) (outer : List Env) (s : Shared) (H : Hp) (E : L2.XK)
    (hr : Room 3 (cxF P w K mg base ["z"] "_law_factor" s__law_factor f cdv A outer s H E).A) : ∃ ts, XSs (cxF P w K mg base ["z"] "_law_factor" s__law_factor f cdv A outer s H E) (defBody s__law_factor) ts dt__law_factor := by
  have nd : (cxF P w K mg base ["z"] "_law_factor" s__law_factor f cdv A outer s H E).N.Nodup := sc__law_factor.nd
  exact ⟨_, (xs_one (w_ret (x_tup (xd_cons (x_tup (xd_cons x_int (xd_cons x_int xd_nil))) (xd_cons (x_call (K := K) F__law_per hr (xa_cons (x_tup (xd_cons (x_neg x_int) (xd_cons x_int xd_nil))) (xa_cons (x_var 0) xa_nil))) xd_nil)))))⟩
end DL
namespace DL
open PySem PySem.Spec PyProof.Rows L2
noncomputable def z__law_beyond : { s : Stmt // s = top 86 } := by
  refine ⟨?x, ?h⟩
  rotate_left
  · conv => rhs; whnf
noncomputable abbrev s__law_beyond : Stmt := z__law_beyond.val
theorem sc__law_beyond : FnScope ["well", "under", "top"] ["well"] (defScope s__law_beyond) := ⟨rfl, rfl, rfl, by decide +kernel, rfl, by decide +kernel, by decide +kernel⟩
theorem bd__law_beyond : BindAll "_law_beyond" s__law_beyond ["well"] := fun _ _ _ _ _ _ us hl => match us, hl with | [_], _ => rfl
theorem wk__law_beyond {P : Program} {w : World} {K : PySem.W.Frag} {mg : PySem.Str → Option Value} {base : Heap} {f : Addr} (B : Fre mg) (c : Csts K mg) (F__law_draw : Has P w K mg base 1 "_law_draw" ["well", "top"] 2 sp__law_draw) (F__law_low : Has P w K mg base 2 "_law_low" ["top", "under"] 2 sp__law_low) (cdv : Value) (A : Around) (outer : List Env) (s : Shared) (H : Hp) (E : L2.XK)
    (hr : Room 2 (cxF P w K mg base ["well", "under", "top"] "_law_beyond" s__law_beyond f cdv A outer s H E).A) : ∃ ts, XSs (cxF P w K mg base ["well", "under", "top"] "_law_beyond" s__law_beyond f cdv A outer s H E) (defBody s__law_beyond) ts dt__law_beyond := by
  have nd : (cxF P w K mg base ["well", "under", "top"] "_law_beyond" s__law_beyond f cdv A outer s H E).N.Nodup := sc__law_beyond.nd
  exact ⟨_, (xs_cons (w_set 1 nd (x_add x_int (x_call (K := K) F__law_draw hr (xa_cons (x_var 0) (xa_cons x_int xa_nil))))) (xs_cons (w_set 2 nd (x_add (x_add (x_var 1) x_int) (x_call (K := K) F__law_draw hr (xa_cons (x_var 0) (xa_cons x_int xa_nil))))) (xs_one (w_ret (x_call (K := K) F__law_low hr (xa_cons (x_ifx (y_eq (K := K) hr (x_call (K := K) F__law_draw hr (xa_cons (x_var 0) (xa_cons x_int xa_nil))) x_int) (x_var 2) (x_sub x_int (x_var 2))) (xa_cons (x_var 1) xa_nil)))))))⟩
end DL
namespace DL
open PySem PySem.Spec PyProof.Rows L2
noncomputable def z__law_calm : { s : Stmt // s = top 89 } := by
  refine ⟨?x, ?h⟩
  rotate_left
  · conv => rhs; whnf
noncomputable abbrev s__law_calm : Stmt := z__law_calm.val
theorem sc__law_calm : FnScope ["well", "most", "way", "t", "found", "lap"] ["well", "most"] (defScope s__law_calm) := ⟨rfl, rfl, rfl, by decide +kernel, rfl, by decide +kernel, by decide +kernel⟩
theorem bd__law_calm : BindAll "_law_calm" s__law_calm ["well", "most"] := fun _ _ _ _ _ _ us hl => match us, hl with | [_, _], _ => rfl
theorem wk__law_calm {P : Program} {w : World} {K : PySem.W.Frag} {mg : PySem.Str → Option Value} {base : Heap} {f : Addr} (B : Fre mg) (c : Csts K mg) (F__law_draw : Has P w K mg base 1 "_law_draw" ["well", "top"] 2 sp__law_draw) (F__law_size : Has P w K mg base 1 "_law_size" ["one"] 1 sp__law_size) (F__law_within : Has P w K mg base 3 "_law_within" ["well", "wide"] 2 sp__law_within) (F__law_pair_factor : Has P w K mg base 4 "_law_pair_factor" ["t", "c"] 2 sp__law_pair_factor) (F__law_pick : Has P w K mg base 2 "_law_pick" ["well", "some"] 2 sp__law_pick) (F__law_mul : Has P w K mg base 3 "_law_mul" ["one", "two"] 2 sp__law_mul) (F__law_factor : Has P w K mg base 4 "_law_factor" ["z"] 1 sp__law_factor) (F__law_beyond : Has P w K mg base 3 "_law_beyond" ["well"] 1 sp__law_beyond) (cdv : Value) (A : Around) (outer : List Env) (s : Shared) (H : Hp) (E : L2.XK)
    (hr : Room 4 (cxF P w K mg base ["well", "most", "way", "t", "found", "lap"] "_law_calm" s__law_calm f cdv A outer s H E).A) : ∃ ts, XSs (cxF P w K mg base ["well", "most", "way", "t", "found", "lap"] "_law_calm" s__law_calm f cdv A outer s H E) (defBody s__law_calm) ts dt__law_calm := by
  have nd : (cxF P w K mg base ["well", "most", "way", "t", "found", "lap"] "_law_calm" s__law_calm f cdv A outer s H E).N.Nodup := sc__law_calm.nd
  exact ⟨_, (xs_cons (w_set 2 nd (x_call (K := K) F__law_draw hr (xa_cons (x_var 0) (xa_cons x_int xa_nil)))) (xs_cons (w_if (y_w (y_and (y_eq (K := K) hr (x_var 2) x_int) (y_and1 (y_gt (x_var 1) x_int)))) (xs_cons (w_set 3 nd (x_call (K := K) F__law_size hr (xa_cons (x_call (K := K) F__law_within hr (xa_cons (x_var 0) (xa_cons x_int xa_nil))) xa_nil))) (xs_one (w_ret (x_call (K := K) F__law_pair_factor hr (xa_cons (x_var 3) (xa_cons (x_call (K := K) F__law_pick hr (xa_cons (x_var 0) (xa_cons (x_lst (xd_cons (x_tup (xd_cons x_int (xd_cons x_int xd_nil))) (xd_cons (x_tup (xd_cons x_int (xd_cons x_int xd_nil))) (xd_cons (x_tup (xd_cons (x_neg x_int) (xd_cons x_int xd_nil))) (xd_cons (x_tup (xd_cons x_int (xd_cons x_int xd_nil))) (xd_cons (x_tup (xd_cons (x_neg x_int) (xd_cons x_int xd_nil))) (xd_cons (x_tup (xd_cons x_int (xd_cons x_int xd_nil))) xd_nil))))))) xa_nil))) xa_nil)))))) xs_nil) (xs_cons (w_set 4 nd (x_tup (xd_cons (x_tup (xd_cons x_int (xd_cons x_int xd_nil))) xd_nil))) (xs_cons (w_for rfl rfl (xi_r1 B.range (x_call (K := K) F__law_draw hr (xa_cons (x_var 0) (xa_cons (x_add (x_var 1) x_int) xa_nil)))) (xg_name 5 nd) (xs_one (w_set 4 nd (x_call (K := K) F__law_mul hr (xa_cons (x_var 4) (xa_cons (x_call (K := K) F__law_factor hr (xa_cons (x_call (K := K) F__law_beyond hr (xa_cons (x_var 0) xa_nil)) xa_nil)) xa_nil)))))) (xs_one (w_retV 4))))))⟩
end DL
namespace DL
open PySem PySem.Spec PyProof.Rows L2
noncomputable def z__law_same : { s : Stmt // s = top 95 } := by
  refine ⟨?x, ?h⟩
  rotate_left
  · conv => rhs; whnf
noncomputable abbrev s__law_same : Stmt := z__law_same.val
theorem sc__law_same : FnScope ["told", "due", "is_kin", "k"] ["told", "due"] (defScope s__law_same) := ⟨rfl, rfl, rfl, by decide +kernel, rfl, by decide +kernel, by decide +kernel⟩
theorem bd__law_same : BindAll "_law_same" s__law_same ["told", "due"] := fun _ _ _ _ _ _ us hl => match us, hl with | [_, _], _ => rfl
theorem wk__law_same {P : Program} {w : World} {K : PySem.W.Frag} {mg : PySem.Str → Option Value} {base : Heap} {f : Addr} (B : Fre mg) (c : Csts K mg) {kk : Nat} {Sp0 : FSpec} (F__law_same : Has P w K mg base kk "_law_same" ["told", "due"] 2 Sp0) (cdv : Value) (A : Around) (outer : List Env) (s : Shared) (H : Hp) (E : L2.XK)
    (hr : Room kk (cxF P w K mg base ["told", "due", "is_kin", "k"] "_law_same" s__law_same f cdv A outer s H E).A) : ∃ ts, XSs (cxF P w K mg base ["told", "due", "is_kin", "k"] "_law_same" s__law_same f cdv A outer s H E) (defBody s__law_same) ts (dt__law_same Sp0) := by
  have nd : (cxF P w K mg base ["told", "due", "is_kin", "k"] "_law_same" s__law_same f cdv A outer s H E).N.Nodup := sc__law_same.nd
  exact ⟨_, (xs_cons (w_if (y_of (x_isi (K := K) B.isinstance B.tuple (by decide +kernel) (x_var 1))) (xs_cons (w_if (y_w (y_or (y_not (y_of (x_isi (K := K) B.isinstance B.tuple (by decide +kernel) (x_var 0)))) (y_or1 (y_ne (K := K) hr (x_len (K := K) B.len (xa_cons (x_var 0) xa_nil)) (x_len (K := K) B.len (xa_cons (x_var 1) xa_nil)))))) (xs_one (w_ret x_bl)) xs_nil) (xs_one (w_ret (x_all (K := K) rfl B.all (xa_cons (x_lc rfl nd (xi_r1 B.range (x_len (K := K) B.len (xa_cons (x_var 1) xa_nil))) (blkOk_by (N := ["told", "due", "is_kin", "k"]) (sc := defScope s__law_same) (own := [("k", 3)]) (by decide +kernel)) (fun _ _ _ _ _ => (xg_name 3 (by exact nd))) (fun _ _ _ _ _ => xif_nil) (fun _ _ _ _ _ => (x_call (K := K) (hk := Nat.le_refl _) F__law_same (by exact hr) (xa_cons (x_ix (K := K) (x_var 0) (x_var 3)) (xa_cons (x_ix (K := K) (x_var 1) (x_var 3)) xa_nil))))) xa_nil))))) xs_nil) (xs_cons (w_if (y_w (y_or (y_isN (x_var 1)) (y_or1 (y_isN (x_var 0))))) (xs_one (w_ret (x_and (x_isN (x_var 1)) (x_one (x_isN (x_var 0)))))) xs_nil) (xs_cons (w_set 2 nd (x_and (x_eq (K := K) hr (x_isi (K := K) B.isinstance B.bool (by decide +kernel) (x_var 0)) (x_isi (K := K) B.isinstance B.bool (by decide +kernel) (x_var 1))) (x_one (x_eq (K := K) hr (x_isi (K := K) B.isinstance B.int (by decide +kernel) (x_var 0)) (x_isi (K := K) B.isinstance B.int (by decide +kernel) (x_var 1)))))) (xs_one (w_ret (x_and (x_var 2) (x_one (x_eq (K := K) hr (x_var 0) (x_var 1)))))))))⟩
end DL
namespace DL
open PySem PySem.Spec PyProof.Rows L2
noncomputable def z__law_right : { s : Stmt // s = top 96 } := by
  refine ⟨?x, ?h⟩
  rotate_left
  · conv => rhs; whnf
noncomputable abbrev s__law_right : Stmt := z__law_right.val
theorem sc__law_right : FnScope ["well", "answer2", "many2", "told", "own", "total_v", "each", "by", "scaled_v", "part", "wider"] ["well"] (defScope s__law_right) := ⟨rfl, rfl, rfl, by decide +kernel, rfl, by decide +kernel, by decide +kernel⟩
theorem bd__law_right : BindAll "_law_right" s__law_right ["well"] := fun _ _ _ _ _ _ us hl => match us, hl with | [_], _ => rfl
theorem wk__law_right {P : Program} {w : World} {K : PySem.W.Frag} {mg : PySem.Str → Option Value} {base : Heap} {f : Addr} (B : Fre mg) (c : Csts K mg) (F__law_answer : Has P w K mg base 7 "_law_answer" ["top", "under"] 2 sp__law_answer) (F__law_mul : Has P w K mg base 3 "_law_mul" ["one", "two"] 2 sp__law_mul) (F__law_calm : Has P w K mg base 5 "_law_calm" ["well", "most"] 2 sp__law_calm) (F__law_row : Has P w K mg base 4 "_law_row" ["well", "most"] 2 sp__law_row) (F__law_pick : Has P w K mg base 2 "_law_pick" ["well", "some"] 2 sp__law_pick) (F__law_draw : Has P w K mg base 1 "_law_draw" ["well", "top"] 2 sp__law_draw) (F_worst_near : Has P w K mg base 11 "worst_near" ["answer", "many"] 2 sp_worst_near) (F__law_are_bounds : Has P w K mg base 4 "_law_are_bounds" ["some", "many2"] 2 sp__law_are_bounds) (F__law_same : Has P w K mg base 3 "_law_same" ["told", "due"] 2 sp__law_same) (K_worst_near : HasK P w K mg base 11 "worst_near" ["answer", "many"] ["many", "answer"] 2 sp_worst_near) (F__law_own_bounds : Has P w K mg base 6 "_law_own_bounds" ["answer2", "many2"] 2 sp__law_own_bounds) (F__law_do_meet : Has P w K mg base 2 "_law_do_meet" ["one", "two"] 2 sp__law_do_meet) (F__law_numbers : Has P w K mg base 4 "_law_numbers" ["answer2", "many2"] 2 sp__law_numbers) (F__law_plus : Has P w K mg base 3 "_law_plus" ["one", "two"] 2 sp__law_plus) (F__law_size : Has P w K mg base 1 "_law_size" ["one"] 1 sp__law_size) (F__law_below : Has P w K mg base 1 "_law_below" ["one", "two"] 2 sp__law_below) (F__law_some : Has P w K mg base 3 "_law_some" ["well"] 1 sp__law_some) (F__law_times : Has P w K mg base 4 "_law_times" ["one", "by"] 2 sp__law_times) (F__law_prod : Has P w K mg base 3 "_law_prod" ["one", "two"] 2 sp__law_prod) (cdv : Value) (A : Around) (outer : List Env) (s : Shared) (H : Hp) (E : L2.XK)
    (hr : Room 11 (cxF P w K mg base ["well", "answer2", "many2", "told", "own", "total_v", "each", "by", "scaled_v", "part", "wider"] "_law_right" s__law_right f cdv A outer s H E).A) : ∃ ts, XSs (cxF P w K mg base ["well", "answer2", "many2", "told", "own", "total_v", "each", "by", "scaled_v", "part", "wider"] "_law_right" s__law_right f cdv A outer s H E) (defBody s__law_right) ts dt__law_right := by
  have nd : (cxF P w K mg base ["well", "answer2", "many2", "told", "own", "total_v", "each", "by", "scaled_v", "part", "wider"] "_law_right" s__law_right f cdv A outer s H E).N.Nodup := sc__law_right.nd
  exact ⟨_, (xs_cons (w_set 1 nd (x_call (K := K) F__law_answer hr (xa_cons (x_call (K := K) F__law_row hr (xa_cons (x_var 0) (xa_cons x_int xa_nil))) (xa_cons (x_call (K := K) F__law_mul hr (xa_cons (x_call (K := K) F__law_calm hr (xa_cons (x_var 0) (xa_cons x_int xa_nil))) (xa_cons (x_call (K := K) F__law_calm hr (xa_cons (x_var 0) (xa_cons x_int xa_nil))) xa_nil))) xa_nil)))) (xs_cons (w_set 2 nd (x_call (K := K) F__law_pick hr (xa_cons (x_var 0) (xa_cons (x_lst (xd_cons x_int (xd_cons x_int (xd_cons x_int (xd_cons x_int (xd_cons x_int (xd_cons x_int (xd_cons (x_add x_int (x_call (K := K) F__law_draw hr (xa_cons (x_var 0) (xa_cons x_int xa_nil)))) xd_nil)))))))) xa_nil)))) (xs_cons (w_set 3 nd (x_call (K := K) F_worst_near hr (xa_cons (x_var 1) (xa_cons (x_var 2) xa_nil)))) (xs_cons (w_if (y_w (y_or (y_not (y_of (x_call (K := K) F__law_are_bounds hr (xa_cons (x_var 3) (xa_cons (x_var 2) xa_nil))))) (y_or1 (y_not (y_of (x_call (K := K) F__law_same hr (xa_cons (x_callK (K := K) K_worst_near hr (xk_cons (x_var 2) (xk_cons (x_var 1) xk_nil))) (xa_cons (x_var 3) xa_nil)))))))) (xs_one (w_ret x_bl)) xs_nil) (xs_cons (w_set 4 nd (x_call (K := K) F__law_own_bounds hr (xa_cons (x_var 1) (xa_cons x_int xa_nil)))) (xs_cons (w_if (y_w (y_and (y_notN (x_var 4)) (y_and1 (y_not (y_of (x_call (K := K) F__law_do_meet hr (xa_cons (x_var 4) (xa_cons (x_var 3) xa_nil)))))))) (xs_one (w_ret x_bl)) xs_nil) (xs_cons (w_set 5 nd (x_tup (xd_cons x_int (xd_cons x_int xd_nil)))) (xs_cons (w_for rfl rfl (xi_seq (x_call (K := K) F__law_numbers hr (xa_cons (x_var 1) (xa_cons x_int xa_nil)))) (xg_name 6 nd) (xs_cons (w_set 5 nd (x_call (K := K) F__law_plus hr (xa_cons (x_var 5) (xa_cons (x_call (K := K) F__law_size hr (xa_cons (x_var 6) xa_nil)) xa_nil)))) (xs_one (w_if (y_of (x_call (K := K) F__law_below hr (xa_cons (x_ix (K := K) (x_var 3) x_int) (xa_cons (x_var 5) xa_nil)))) (xs_one (w_ret x_bl)) xs_nil)))) (xs_cons (w_set 7 nd (x_call (K := K) F__law_some hr (xa_cons (x_var 0) xa_nil))) (xs_cons (w_set 8 nd (x_call (K := K) F_worst_near hr (xa_cons (x_tup (xd_cons (x_call (K := K) F__law_times hr (xa_cons (x_ix (K := K) (x_var 1) x_int) (xa_cons (x_var 7) xa_nil))) (xd_cons (x_ix (K := K) (x_var 1) x_int) xd_nil))) (xa_cons x_int xa_nil)))) (xs_cons (w_set 9 nd (x_call (K := K) F__law_size hr (xa_cons (x_var 7) xa_nil))) (xs_cons (w_if (y_w (y_or (y_not (y_of (x_call (K := K) F__law_are_bounds hr (xa_cons (x_var 8) (xa_cons x_int xa_nil))))) (y_or1 (y_not (y_of (x_call (K := K) F__law_do_meet hr (xa_cons (x_var 8) (xa_cons (x_tup (xd_cons (x_call (K := K) F__law_prod hr (xa_cons (x_ix (K := K) (x_var 3) x_int) (xa_cons (x_var 9) xa_nil))) (xd_cons (x_call (K := K) F__law_prod hr (xa_cons (x_ix (K := K) (x_var 3) x_int) (xa_cons (x_var 9) xa_nil))) xd_nil))) xa_nil)))))))) (xs_one (w_ret x_bl)) xs_nil) (xs_cons (w_set 10 nd (x_call (K := K) F_worst_near hr (xa_cons (x_var 1) (xa_cons x_int xa_nil)))) (xs_one (w_ret (x_and (x_call (K := K) F__law_are_bounds hr (xa_cons (x_var 10) (xa_cons x_int xa_nil))) (x_one (x_call (K := K) F__law_do_meet hr (xa_cons (x_var 10) (xa_cons (x_var 3) xa_nil))))))))))))))))))))⟩
end DL
namespace DL
open PySem PySem.Spec PyProof.Rows L2
noncomputable def z__law_well : { s : Stmt // s = top 58 } := by
  refine ⟨?x, ?h⟩
  rotate_left
  · conv => rhs; whnf
noncomputable abbrev s__law_well : Stmt := z__law_well.val
theorem sc__law_well : FnScope ["script", "nth", "cell", "stir", "each"] ["script", "nth"] (defScope s__law_well) := ⟨rfl, rfl, rfl, by decide +kernel, rfl, by decide +kernel, by decide +kernel⟩
theorem bd__law_well : BindAll "_law_well" s__law_well ["script", "nth"] := fun _ _ _ _ _ _ us hl => match us, hl with | [_, _], _ => rfl
theorem wk__law_well {P : Program} {w : World} {K : PySem.W.Frag} {mg : PySem.Str → Option Value} {base : Heap} {f : Addr} (B : Fre mg) (c : Csts K mg) (cdv : Value) (A : Around) (outer : List Env) (s : Shared) (H : Hp) (E : L2.XK)
    (hr : Room 0 (cxF P w K mg base ["script", "nth", "cell", "stir", "each"] "_law_well" s__law_well f cdv A outer s H E).A) : ∃ ts, XSs (cxF P w K mg base ["script", "nth", "cell", "stir", "each"] "_law_well" s__law_well f cdv A outer s H E) (defBody s__law_well) ts dt__law_well := by
  have nd : (cxF P w K mg base ["script", "nth", "cell", "stir", "each"] "_law_well" s__law_well f cdv A outer s H E).N.Nodup := sc__law_well.nd
  exact ⟨_, (xs_cons (w_set 2 nd (x_ifx (y_lt (x_var 1) (x_len (K := K) B.len (xa_cons (x_var 0) xa_nil))) (x_toint B.int (xa_cons (x_ix (K := K) (x_var 0) (x_var 1)) xa_nil)) (x_add (x_add (x_mul x_int (x_var 1)) x_int) (x_mod (x_toint B.int (xa_cons (x_sum (K := K) rfl B.sum (xa_cons (x_sl (K := K) (x_var 0) xo_none (xo_some x_int)) xa_nil)) xa_nil)) x_int)))) (xs_cons (w_set 3 nd (x_add x_int (x_mul x_int (x_var 1)))) (xs_cons (w_for rfl rfl (xi_seq (x_cat (x_sl (K := K) (x_var 0) xo_none (xo_some x_int)) (x_lst (xd_cons (x_var 2) xd_nil)))) (xg_name 4 nd) (xs_one (w_set 3 nd (x_mod (x_toint B.int (xa_cons (x_add (x_add (x_mul (x_var 3) x_int) (x_mod (x_toint B.int (xa_cons (x_var 4) xa_nil)) x_int)) x_int) xa_nil)) x_int)))) (xs_one (w_ret (x_lst (xd_cons (x_ifx (y_w (y_or (y_lt (x_var 2) x_int) (y_or1 (y_ge (x_var 2) (x_pow x_int x_int))))) (x_abs B.abs (xa_cons (x_var 2) xa_nil)) x_int) (xd_cons (x_var 3) (xd_cons x_int xd_nil)))))))))⟩
end DL
namespace DL
open PySem PySem.Spec PyProof.Rows L2
noncomputable def z_law : { s : Stmt // s = top 97 } := by
  refine ⟨?x, ?h⟩
  rotate_left
  · conv => rhs; whnf
noncomputable abbrev s_law : Stmt := z_law.val
theorem sc_law : FnScope ["script", "nth"] ["script"] (defScope s_law) := ⟨rfl, rfl, rfl, by decide +kernel, rfl, by decide +kernel, by decide +kernel⟩
theorem bd_law : BindAll "law" s_law ["script"] := fun _ _ _ _ _ _ us hl => match us, hl with | [_], _ => rfl
theorem wk_law {P : Program} {w : World} {K : PySem.W.Frag} {mg : PySem.Str → Option Value} {base : Heap} {f : Addr} (B : Fre mg) (c : Csts K mg) (G__law_right : HasG P w K mg base 12 "_law_right" ["well"] 1 sp__law_right) (F__law_well : Has P w K mg base 1 "_law_well" ["script", "nth"] 2 sp__law_well) (cdv : Value) (A : Around) (outer : List Env) (s : Shared) (H : Hp) (E : L2.XK)
    (hr : Room 12 (cxF P w K mg base ["script", "nth"] "law" s_law f cdv A outer s H E).A) (hgd : (cxF P w K mg base ["script", "nth"] "law" s_law f cdv A outer s H E).A.guards = some []) : ∃ ts, XSs (cxF P w K mg base ["script", "nth"] "law" s_law f cdv A outer s H E) (defBody s_law) ts dt_law := by
  have nd : (cxF P w K mg base ["script", "nth"] "law" s_law f cdv A outer s H E).N.Nodup := sc_law.nd
  exact ⟨_, (xs_one (w_ret (x_all (K := K) rfl B.all (xa_cons (x_lc rfl nd (xi_r1 B.range x_int) (blkOk_by (N := ["script", "nth"]) (sc := defScope s_law) (own := [("nth", 1)]) (by decide +kernel)) (fun _ _ _ _ _ => (xg_name 1 (by exact nd))) (fun _ _ _ _ _ => xif_nil) (fun _ _ _ _ _ => (x_callGW (K := K) G__law_right (by exact hr) (by exact hgd) (x_call (K := K) F__law_well (by exact hr) (xa_cons (x_var 0) (xa_cons (x_var 1) xa_nil)))))) xa_nil))))⟩
end DL
namespace DL
open PySem PySem.Spec PyProof.Rows L2
theorem dZERO_eq : dZERO = fr 0 := rfl
theorem dONE_eq : dONE = fr 1 := rfl
theorem dUNIT_eq : dUNIT = row [1] := rfl
section
variable {R : Rv → Prop} {x y : Rat} {xs ys : List Rat}
theorem fEq_r0 : fEq false (.d (row xs)) (.d (.tuple [])) R = R (.d (.bool (decide (xs = [])))) := fEq_rr (ys := [])
theorem fNe_r0 : fEq true (.d (row xs)) (.d (.tuple [])) R = R (.d (.bool (!decide (xs = [])))) := fNe_rr (ys := [])
theorem stay_row {k : List PyData → Prop} : stay (.d (row xs)) k = k (xs.map fr) := rfl
theorem fList_row : fList [.d (row xs)] R = R (.l (xs.map fr)) := rfl
theorem fTuple_row : fTuple [.d (row xs)] R = R (.d (row xs)) := rfl
theorem isQ_row {k : Bool → Prop} : isQ "tuple" (.d (row xs)) k = k true := isQ_tt
end
end DL
namespace DL
open PySem PySem.Spec PyProof.Rows L2
local macro_rules | `(tactic| walk_at "dx") => `(tactic| simp -implicitDefEqProofs only [wl_eq, var_eq, vq_d, vq_l, vq_a, vq_w, c_eq, op_eq_, un_eq_, fI_eq, fI0_eq, fU_eq, f1I_eq, f2I_eq, fIx_t0, fIx_t1, fIx_fr0, fIx_fr1, daNil_eq, daCons_eq, argOf_d, argOf_l, argOf_a, argOf_p, argOf_w, ddNil_eq, ddCons_eq, kp_d, kp_l, call1_eq, call2_eq, call3_eq, cB_eq,
  tup_eq, lst_eq, small0, small1, small2, small3, small4, small6, small7, seq_eq, next_eq, never_eq, ret_eq, retk_d, retk_l, retV_eq, set_eq, par_eq, sto_d, sto_l, sto_a, asg_eq, tgN_eq, tgTup2_eq, ifS_eq, ifx_eq, tst_eq, tru_eq, andT_eq, orT_eq, notT_eq, andV_eq, orV_eq, notV_eq, drop_eq, isN_eq, sp2_eq,
  for_eq, diSeq_eq, diRng1_eq, diRng2_eq, diRevR_eq, diRev_eq, diZip_eq, revL_eq, lsQ_dl, lsQ_a, lsQ_l, lsQ_p, revT_eq, tpQ_t, tpQ_row, sl_eq, doNone_eq, doSome_eq, fSl_t, fSl_dl, fSl_a, fSl_l, fSl_p, fz_own, diEnumT_eq2, enQ_row, fRep_l, fCat_ll, fCat_lp, asInt_eq, stay_dl, stay_dt, stay_l, stay_a, stayL_dl, stayL_l, stayL_a, comp_eq, yes_eq, isI_eq, isQ_ii, isQ_ib, isQ_tt, isQ_row, fTuple_dl, fTuple_dt, fTuple_a, fList_row, fTuple_row, fList_dl, fList_dt, fList_a, fLen_row, fLen_lr, fLen_ar, fLen_dl, fLen_dt, fLen_a, wipeD,
  sp_plus, sp_minus, sp_times, sp_over, sp__law_plus, sp__law_minus, sp__law_prod, sp__law_per, fEq_ff, fNe_ff, fEq_i, fNe_i, fEq_rr, fNe_rr, fEq_r0, fNe_r0, fNe_pe, setIx_eq, own_eq, oq_l, append_eq, dZERO_eq, dONE_eq, dUNIT_eq, stay_row,
  List.getElem?_cons_zero, List.getElem?_cons_succ, List.set_cons_zero, List.set_cons_succ, if_true, Bool.false_eq_true, if_false, Bool.not_true, Bool.not_false])
/-- what is to be shown of a def -/
abbrev Pr (t : TSD) (N n : Nat) (Sp : FSpec) : Prop := ∀ rs w k, rs.length = n → Sp rs w k → t { nx := fun s => k (.d .none) s.w, rt := k } ⟨initS N rs, w⟩
section
variable {Q : Rv → W3 → Prop} {w : W3}
theorem low_i {a b : Int} (h : b ≠ 0) (h2 : b.natAbs < 2 ^ 9000) (q : Q (.d (fr ((a : Rat) / (b : Rat)))) w) : sp__law_low [.d (.int a), .d (.int b)] w Q := ⟨a, b, rfl, ⟨h, h2⟩, q⟩
theorem ratio_i {a b : Int} (h : b ≠ 0) (h2 : b.natAbs < 2 ^ 9000) (q : Q (.d (fr ((a : Rat) / (b : Rat)))) w) : sp_ratio [.d (.int a), .d (.int b)] w Q := ⟨a, b, rfl, ⟨h, h2⟩, q⟩
theorem den_ne (x : Rat) : (x.den : Int) ≠ 0 := by have := x.den_nz; omega
theorem dd_ne (x y : Rat) : (x.den * y.den : Int) ≠ 0 := Int.mul_ne_zero (den_ne x) (den_ne y)
theorem dd_lt {x y : Rat} (hx : sm 4000 x) (hy : sm 4000 y) : (x.den * y.den : Int).natAbs < 2 ^ 9000 := lt_two_pow_mono (lt_two_pow_mul hx.d hy.d) (by decide)
theorem m_nd {x y : Rat} (hx : sm 4000 x) (hy : sm 4000 y) : CMulW x.num (y.den : Int) := cmulW_of hx.1 hy.d (by decide)
theorem m_dd {x y : Rat} (hx : sm 4000 x) (hy : sm 4000 y) : CMulW (x.den : Int) (y.den : Int) := cmulW_of hx.d hy.d (by decide)
theorem m_dn {x y : Rat} (hx : sm 4000 x) (hy : sm 4000 y) : CMulW (x.den : Int) y.num := cmulW_of hx.d hy.1 (by decide)
theorem m_nn {x y : Rat} (hx : sm 4000 x) (hy : sm 4000 y) : CMulW x.num y.num := cmulW_of hx.1 hy.1 (by decide)
end
theorem pr__law_plus : Pr dt__law_plus 2 2 sp__law_plus := by
  rintro rs w k - ⟨x, y, rfl, ⟨hx, hy⟩, q⟩
  show dt__law_plus _ ⟨[some (.d (fr x)), some (.d (fr y))], w⟩
  unfold dt__law_plus
  walk_at "dx"
  exact ⟨m_nd hx hy, m_nd hy hx, m_dd hx hy, low_i (dd_ne x y) (dd_lt hx hy) (by rw [add_nd]; exact q)⟩
theorem pr__law_minus : Pr dt__law_minus 2 2 sp__law_minus := by
  rintro rs w k - ⟨x, y, rfl, ⟨hx, hy⟩, q⟩
  show dt__law_minus _ ⟨[some (.d (fr x)), some (.d (fr y))], w⟩
  unfold dt__law_minus
  walk_at "dx"
  exact ⟨m_nd hx hy, m_nd hy hx, m_dd hx hy, low_i (dd_ne x y) (dd_lt hx hy) (by rw [sub_nd]; exact q)⟩
theorem pr__law_prod : Pr dt__law_prod 2 2 sp__law_prod := by
  rintro rs w k - ⟨x, y, rfl, ⟨hx, hy⟩, q⟩
  show dt__law_prod _ ⟨[some (.d (fr x)), some (.d (fr y))], w⟩
  unfold dt__law_prod
  walk_at "dx"
  exact ⟨m_nn hx hy, m_dd hx hy, low_i (dd_ne x y) (dd_lt hx hy) (by rw [mul_nd]; exact q)⟩
theorem dn_ne (x : Rat) {y : Rat} (h : y ≠ 0) : (x.den * y.num : Int) ≠ 0 := Int.mul_ne_zero (den_ne x) fun e => h (Rat.num_eq_zero.mp e)
theorem dn_lt {x y : Rat} (hx : sm 4000 x) (hy : sm 4000 y) : (x.den * y.num : Int).natAbs < 2 ^ 9000 := lt_two_pow_mono (lt_two_pow_mul hx.d hy.1) (by decide)
theorem pr__law_per : Pr dt__law_per 2 2 sp__law_per := by
  rintro rs w k - ⟨x, y, rfl, ⟨hx, hy, h0⟩, q⟩
  show dt__law_per _ ⟨[some (.d (fr x)), some (.d (fr y))], w⟩
  unfold dt__law_per
  walk_at "dx"
  exact ⟨m_nd hx hy, m_dn hx hy, low_i (dn_ne x h0) (dn_lt hx hy) (by rw [div_nd h0]; exact q)⟩
theorem pr_plus : Pr dt_plus 2 2 sp_plus := by
  rintro rs w k - ⟨x, y, rfl, ⟨hx, hy⟩, q⟩
  show dt_plus _ ⟨[some (.d (fr x)), some (.d (fr y))], w⟩
  unfold dt_plus
  walk_at "dx"
  exact ⟨m_nd hx hy, m_nd hy hx, m_dd hx hy, ratio_i (dd_ne x y) (dd_lt hx hy) (by rw [add_nd]; exact q)⟩
theorem pr_minus : Pr dt_minus 2 2 sp_minus := by
  rintro rs w k - ⟨x, y, rfl, ⟨hx, hy⟩, q⟩
  show dt_minus _ ⟨[some (.d (fr x)), some (.d (fr y))], w⟩
  unfold dt_minus
  walk_at "dx"
  exact ⟨m_nd hx hy, m_nd hy hx, m_dd hx hy, ratio_i (dd_ne x y) (dd_lt hx hy) (by rw [sub_nd]; exact q)⟩
theorem pr_times : Pr dt_times 2 2 sp_times := by
  rintro rs w k - ⟨x, y, rfl, ⟨hx, hy⟩, q⟩
  show dt_times _ ⟨[some (.d (fr x)), some (.d (fr y))], w⟩
  unfold dt_times
  walk_at "dx"
  exact ⟨m_nn hx hy, m_dd hx hy, ratio_i (dd_ne x y) (dd_lt hx hy) (by rw [mul_nd]; exact q)⟩
theorem pr_over : Pr dt_over 2 2 sp_over := by
  rintro rs w k - ⟨x, y, rfl, ⟨hx, hy, h0⟩, q⟩
  show dt_over _ ⟨[some (.d (fr x)), some (.d (fr y))], w⟩
  unfold dt_over
  walk_at "dx"
  exact ⟨m_nd hx hy, m_dn hx hy, ratio_i (dn_ne x h0) (dn_lt hx hy) (by rw [div_nd h0]; exact q)⟩
theorem pr__law_below : Pr dt__law_below 2 2 sp__law_below := by
  rintro rs w k - ⟨x, y, rfl, ⟨hx, hy⟩, q⟩
  show dt__law_below _ ⟨[some (.d (fr x)), some (.d (fr y))], w⟩
  unfold dt__law_below
  walk_at "dx"
  refine ⟨cmulW_of hx.1 hy.d (by decide), cmulW_of hy.1 hx.d (by decide), ?_⟩
  rw [show decide (x.num * (y.den : Int) < y.num * (x.den : Int)) = decide (x < y) from by simp only [lt_nd]]
  exact q
theorem pr_is_below : Pr dt_is_below 2 2 sp_is_below := by
  rintro rs w k - ⟨x, y, rfl, ⟨hx, hy⟩, q⟩
  show dt_is_below _ ⟨[some (.d (fr x)), some (.d (fr y))], w⟩
  unfold dt_is_below
  walk_at "dx"
  refine ⟨cmulW_of hx.1 hy.d (by decide), cmulW_of hy.1 hx.d (by decide), ?_⟩
  rw [show decide (x.num * (y.den : Int) < y.num * (x.den : Int)) = decide (x < y) from by simp only [lt_nd]]
  exact q
theorem fr_abs (x : Rat) : PyData.tuple [.int (x.num.natAbs : Int), .int (x.den : Int)] = fr (rabs x) := by
  unfold fr rabs
  by_cases h : x < 0
  · rw [if_pos h, Rat.neg_num, Rat.neg_den]
    have : x.num < 0 := by
      have := (Rat.lt_iff x 0).mp h
      simpa using this
    congr 3
    omega
  · rw [if_neg h]
    have : 0 ≤ x.num := by
      have := (Rat.le_iff 0 x).mp (Rat.not_lt.mp h)
      simpa using this
    congr 3
    omega
theorem pr__law_size : Pr dt__law_size 1 1 sp__law_size := by
  rintro rs w k - ⟨x, rfl, q⟩
  show dt__law_size _ ⟨[some (.d (fr x))], w⟩
  unfold dt__law_size
  walk_at "dx"
  rw [fr_abs]
  exact q
theorem pr_size_of : Pr dt_size_of 1 1 sp_size_of := by
  rintro rs w k - ⟨x, rfl, q⟩
  show dt_size_of _ ⟨[some (.d (fr x))], w⟩
  unfold dt_size_of
  walk_at "dx"
  rw [fr_abs]
  exact q
end DL
namespace DL
open PySem PySem.Spec PyProof.Rows L2
local macro_rules | `(tactic| walk_at "dx") => `(tactic| simp -implicitDefEqProofs only [wl_eq, var_eq, vq_d, vq_l, vq_a, vq_w, c_eq, op_eq_, un_eq_, fI_eq, fI0_eq, fU_eq, f1I_eq, f2I_eq, fIx_t0, fIx_t1, fIx_fr0, fIx_fr1, daNil_eq, daCons_eq, argOf_d, argOf_l, argOf_a, argOf_p, argOf_w, ddNil_eq, ddCons_eq, kp_d, kp_l, call1_eq, call2_eq, call3_eq, cB_eq,
  tup_eq, lst_eq, small0, small1, small2, small3, small4, small6, small7, seq_eq, next_eq, never_eq, ret_eq, retk_d, retk_l, retV_eq, set_eq, par_eq, sto_d, sto_l, sto_a, asg_eq, tgN_eq, tgTup2_eq, ifS_eq, ifx_eq, tst_eq, tru_eq, andT_eq, orT_eq, notT_eq, andV_eq, orV_eq, notV_eq, drop_eq, isN_eq, sp2_eq,
  for_eq, diSeq_eq, diRng1_eq, diRng2_eq, diRevR_eq, diRev_eq, diZip_eq, revL_eq, lsQ_dl, lsQ_a, lsQ_l, lsQ_p, revT_eq, tpQ_t, tpQ_row, sl_eq, doNone_eq, doSome_eq, fSl_t, fSl_dl, fSl_a, fSl_l, fSl_p, fz_own, diEnumT_eq2, enQ_row, fRep_l, fCat_ll, fCat_lp, asInt_eq, stay_dl, stay_dt, stay_l, stay_a, stayL_dl, stayL_l, stayL_a, comp_eq, yes_eq, isI_eq, isQ_ii, isQ_ib, isQ_tt, isQ_row, fTuple_dl, fTuple_dt, fTuple_a, fList_row, fTuple_row, fList_dl, fList_dt, fList_a, fLen_row, fLen_lr, fLen_ar, fLen_dl, fLen_dt, fLen_a, wipeD,
  sp_plus, sp_minus, sp_times, sp_over, sp__law_plus, sp__law_minus, sp__law_prod, sp__law_per, fEq_ff, fNe_ff, fEq_i, fNe_i, fEq_rr, fNe_rr, fEq_r0, fNe_r0, fNe_pe, setIx_eq, own_eq, oq_l, append_eq, dZERO_eq, dONE_eq, dUNIT_eq, stay_row,
  List.getElem?_cons_zero, List.getElem?_cons_succ, List.set_cons_zero, List.set_cons_succ, if_true, Bool.false_eq_true, if_false, Bool.not_true, Bool.not_false])
theorem ev_pos {c : Prop} [Decidable c] (h : c) {A B : Prop} (q : A) : if decide c = true then A else B := by rw [if_pos (decide_eq_true h)]; exact q
theorem ev_neg {c : Prop} [Decidable c] (h : ¬ c) {A B : Prop} (q : B) : if decide c = true then A else B := by rw [if_neg (by simp [h])]; exact q
theorem eqv_int {a b : Int} : PyData.eqv (.int a) (.int b) = decide (a = b) := by
  first
  | rfl
  | (simp [PyData.eqv]; done)
  | (rw [PyData.eqv]; simp; done)
theorem fEq_ii {a b : Int} {R : Rv → Prop} : fEq false (.d (.int a)) (.d (.int b)) R = R (.d (.bool (decide (a = b)))) := by
  show ((_ ∧ _) ∧ _) = _
  rw [← eqv_int]
  refine propext ⟨fun h => h.2, fun h => ⟨⟨by rfl, by rfl⟩, h⟩⟩
theorem fNe_ii {a b : Int} {R : Rv → Prop} : fEq true (.d (.int a)) (.d (.int b)) R = R (.d (.bool (!decide (a = b)))) := by
  show ((_ ∧ _) ∧ _) = _
  rw [← eqv_int]
  refine propext ⟨fun h => h.2, fun h => ⟨⟨by rfl, by rfl⟩, h⟩⟩
theorem pr__law_deep : Pr dt__law_deep 2 2 sp__law_deep := by
  rintro rs w k - ⟨a, b, rfl, q⟩
  show dt__law_deep _ ⟨[some (.d (.int a)), some (.d (.int b))], w⟩
  unfold dt__law_deep
  walk_at "dx"
  refine ⟨fun m s => ∃ x y : Nat, s = ⟨[some (.d (.int (x : Int))), some (.d (.int (y : Int)))], w⟩ ∧ Nat.gcd x y = Nat.gcd a.natAbs b.natAbs ∧ y = m, ⟨b.natAbs, a.natAbs, b.natAbs, rfl, rfl, rfl⟩, ?_⟩
  rintro m s ⟨x, y, rfl, hg, rfl⟩
  walk_at "dx"
  by_cases h : (y : Int) = 0
  · have h' : y = 0 := by omega
    subst h'
    rw [Nat.gcd_zero_right] at hg
    simp only [Int.natCast_zero, decide_true, Bool.not_true, Bool.false_eq_true, if_false]
    rw [hg]
    exact q
  · rw [if_pos (by simpa using h)]
    refine ⟨by omega, x % y, Nat.mod_lt _ (by omega), y, x % y, by rw [Int.natCast_emod], ?_, rfl⟩
    rw [Nat.gcd_comm y (x % y), ← Nat.gcd_rec y x, Nat.gcd_comm y x]
    exact hg
theorem deep_i {a b : Int} {Q : Rv → W3 → Prop} {w : W3} (q : Q (.d (.int ((Nat.gcd a.natAbs b.natAbs : Nat) : Int))) w) : sp__law_deep [.d (.int a), .d (.int b)] w Q := ⟨a, b, rfl, q⟩
theorem gcd_facts {a b : Int} (hb : b ≠ 0) (h : b.natAbs < 2 ^ 9000) : 0 < Nat.gcd a.natAbs b.natAbs ∧ Nat.gcd a.natAbs b.natAbs < 2 ^ 9000 :=
  ⟨Nat.gcd_pos_of_pos_right _ (by omega), Nat.lt_of_le_of_lt (Nat.gcd_le_right _ (by omega)) h⟩
theorem cdX {a g : Int} (h : g ≠ 0) (h2 : g.natAbs < 2 ^ 9000) : CDivX a g := ⟨h, log2_of_lt h2 (by decide)⟩
theorem pr__law_low : Pr dt__law_low 3 2 sp__law_low := by
  rintro rs w k - ⟨a, b, rfl, ⟨hb, hl⟩, q⟩
  show dt__law_low _ ⟨[some (.d (.int a)), some (.d (.int b)), none], w⟩
  obtain ⟨g0, g1⟩ := gcd_facts (a := a) hb hl
  unfold dt__law_low
  walk_at "dx"
  by_cases h : 0 < b
  · refine ev_pos h (deep_i ?_)
    walk_at "dx"
    obtain ⟨e1, e2⟩ := div_pos_nd (a := a) h
    rw [e1, e2]
    exact ⟨cdX (by omega) (by simpa using g1), cdX (by omega) (by simpa using g1), q⟩
  · refine ev_neg h (deep_i ?_)
    walk_at "dx"
    obtain ⟨e1, e2⟩ := div_neg_nd (a := a) (b := b) (by omega)
    rw [e1, e2]
    exact ⟨cdX (by omega) (by omega), cdX (by omega) (by omega), q⟩
theorem pr_ratio : Pr dt_ratio 2 2 sp_ratio := by
  rintro rs w k - ⟨a, b, rfl, ⟨hb, hl⟩, q⟩
  show dt_ratio _ ⟨[some (.d (.int a)), some (.d (.int b))], w⟩
  unfold dt_ratio
  walk_at "dx"
  by_cases h : 0 < b
  · exact ev_pos h ⟨a, b, rfl, ⟨h, hl⟩, q⟩
  · refine ev_neg h ⟨-a, -b, rfl, ⟨by omega, by omega⟩, ?_⟩
    have hb' : (b : Rat) ≠ 0 := rat_ne hb
    have e : (((-a : Int) : Rat) / ((-b : Int) : Rat)) = (a : Rat) / (b : Rat) := by
      rw [Rat.intCast_neg, Rat.intCast_neg]
      grind
    rw [e]
    exact q

theorem pr_divisor_of : Pr dt_divisor_of 3 1 sp_divisor_of := by
  rintro rs w k - ⟨a, b, rfl, q⟩
  show dt_divisor_of _ ⟨[some (.d (.tuple [.int a, .int b])), none, none], w⟩
  unfold dt_divisor_of
  walk_at "dx"
  simp only [loopD_cons, loopD_nil]
  walk_at "dx"
  simp only [Int.natAbs_zero, Nat.gcd_zero_left, Int.natAbs_natCast]
  exact q
theorem pr_lowest : Pr dt_lowest 3 1 sp_lowest := by
  rintro rs w k - ⟨a, b, rfl, ⟨hb, hl⟩, q⟩
  show dt_lowest _ ⟨[some (.d (.tuple [.int a, .int b])), none, none], w⟩
  obtain ⟨g0, g1⟩ := gcd_facts (a := a) (b := b) (by omega) hl
  unfold dt_lowest
  walk_at "dx"
  refine ⟨a, b, rfl, ?_⟩
  walk_at "dx"
  refine ev_neg (by omega) ?_
  obtain ⟨e1, e2⟩ := div_pos_nd (a := a) hb
  refine ⟨by show 2 < 16777216; decide, ?_⟩
  simp only [compD]
  walk_at "dx"
  rw [e1, e2]
  exact ⟨cdX (by omega) (by simpa using g1), cdX (by omega) (by simpa using g1), q⟩
theorem pr_is_whole : Pr dt_is_whole 1 1 sp_is_whole := by
  rintro rs w k - ⟨a, rfl, q⟩
  show dt_is_whole _ ⟨[some (.d (.int a))], w⟩
  unfold dt_is_whole
  walk_at "dx"
  exact q
theorem pr__law_is_int : Pr dt__law_is_int 1 1 sp__law_is_int := by
  rintro rs w k - ⟨a, rfl, q⟩
  show dt__law_is_int _ ⟨[some (.d (.int a))], w⟩
  unfold dt__law_is_int
  walk_at "dx"
  exact q
theorem whole_i {a : Int} {Q : Rv → W3 → Prop} {w : W3} (q : Q (.d (.bool true)) w) : sp_is_whole [.d (.int a)] w Q := ⟨a, rfl, q⟩
theorem pr_are_wholes : Pr dt_are_wholes 3 2 sp_are_wholes := by
  rintro rs w k - ⟨a, b, rfl, q⟩
  show dt_are_wholes _ ⟨[some (.d (.tuple [.int a, .int b])), some (.d (.int 2)), none], w⟩
  unfold dt_are_wholes
  walk_at "dx"
  refine ev_pos (by rfl) ⟨by show 2 < 16777216; decide, ?_⟩
  simp only [compD]
  walk_at "dx"
  refine whole_i (whole_i ?_)
  exact q
theorem red_gcd (x : Rat) : Nat.gcd x.num.natAbs ((x.den : Int)).natAbs = 1 := by
  rw [Int.natAbs_natCast]
  exact x.reduced
theorem pr_is_ratio : Pr dt_is_ratio 1 1 sp_is_ratio := by
  rintro rs w k - ⟨x, rfl, q⟩
  show dt_is_ratio _ ⟨[some (.d (fr x))], w⟩
  unfold dt_is_ratio
  walk_at "dx"
  refine ⟨_, _, rfl, ?_⟩
  walk_at "dx"
  have := x.den_pos
  refine ev_pos (by omega) ⟨_, _, rfl, ?_⟩
  rw [red_gcd]
  show fEq false _ _ _
  rw [fEq_ii]
  exact q
theorem int_i {a : Int} {Q : Rv → W3 → Prop} {w : W3} (q : Q (.d (.bool true)) w) : sp__law_is_int [.d (.int a)] w Q := ⟨a, rfl, q⟩
theorem pr__law_is_part : Pr dt__law_is_part 1 1 sp__law_is_part := by
  rintro rs w k - ⟨x, rfl, q⟩
  show dt__law_is_part _ ⟨[some (.d (.tuple [.int x.num, .int (x.den : Int)]))], w⟩
  unfold dt__law_is_part
  walk_at "dx"
  show if (!decide (((2 : Nat) : Int) = 2)) = true then _ else _
  rw [if_neg (by decide)]
  refine int_i ?_
  walk_at "dx"
  refine int_i ?_
  walk_at "dx"
  have := x.den_pos
  refine ev_pos (by omega) (deep_i ?_)
  rw [red_gcd]
  show fEq false _ _ _
  rw [fEq_ii]
  exact q
theorem pr_is_between : Pr dt_is_between 3 3 sp_is_between := by
  rintro rs w k - ⟨a, b, c, rfl, q⟩
  show dt_is_between _ ⟨[some (.d (.int a)), some (.d (.int b)), some (.d (.int c))], w⟩
  unfold dt_is_between
  walk_at "dx"
  refine whole_i ?_
  walk_at "dx"
  by_cases h : b ≤ a
  · refine ev_pos h ?_
    rw [show decide (b ≤ a ∧ a ≤ c) = decide (a ≤ c) from by simp [h]] at q
    exact q
  · refine ev_neg h ?_
    rw [show decide (b ≤ a ∧ a ≤ c) = false from by simp [h]] at q
    exact q
end DL
namespace DL
open PySem PySem.Spec PyProof.Rows L2
local macro_rules | `(tactic| walk_at "dx") => `(tactic| simp -implicitDefEqProofs only [wl_eq, var_eq, vq_d, vq_l, vq_a, vq_w, c_eq, op_eq_, un_eq_, fI_eq, fI0_eq, fU_eq, f1I_eq, f2I_eq, fIx_t0, fIx_t1, fIx_fr0, fIx_fr1, daNil_eq, daCons_eq, argOf_d, argOf_l, argOf_a, argOf_p, argOf_w, ddNil_eq, ddCons_eq, kp_d, kp_l, call1_eq, call2_eq, call3_eq, cB_eq,
  tup_eq, lst_eq, small0, small1, small2, small3, small4, small6, small7, seq_eq, next_eq, never_eq, ret_eq, retk_d, retk_l, retV_eq, set_eq, par_eq, sto_d, sto_l, sto_a, asg_eq, tgN_eq, tgTup2_eq, ifS_eq, ifx_eq, tst_eq, tru_eq, andT_eq, orT_eq, notT_eq, andV_eq, orV_eq, notV_eq, drop_eq, isN_eq, sp2_eq,
  for_eq, diSeq_eq, diRng1_eq, diRng2_eq, diRevR_eq, diRev_eq, diZip_eq, revL_eq, lsQ_dl, lsQ_a, lsQ_l, lsQ_p, revT_eq, tpQ_t, tpQ_row, sl_eq, doNone_eq, doSome_eq, fSl_t, fSl_dl, fSl_a, fSl_l, fSl_p, fz_own, diEnumT_eq2, enQ_row, fRep_l, fCat_ll, fCat_lp, asInt_eq, stay_dl, stay_dt, stay_l, stay_a, stayL_dl, stayL_l, stayL_a, comp_eq, yes_eq, isI_eq, isQ_ii, isQ_ib, isQ_tt, isQ_row, fTuple_dl, fTuple_dt, fTuple_a, fList_row, fTuple_row, fList_dl, fList_dt, fList_a, fLen_row, fLen_lr, fLen_ar, fLen_dl, fLen_dt, fLen_a, wipeD,
  sp_plus, sp_minus, sp_times, sp_over, sp__law_plus, sp__law_minus, sp__law_prod, sp__law_per, fEq_ff, fNe_ff, fEq_i, fNe_i, fEq_rr, fNe_rr, fEq_r0, fNe_r0, fNe_pe, setIx_eq, own_eq, oq_l, append_eq, dZERO_eq, dONE_eq, dUNIT_eq, stay_row,
  List.getElem?_cons_zero, List.getElem?_cons_succ, List.set_cons_zero, List.set_cons_succ, if_true, Bool.false_eq_true, if_false, Bool.not_true, Bool.not_false])
section
variable {Q : Rv → W3 → Prop} {w : W3}
theorem ratio_i' {x : Rat} {Q : Rv → W3 → Prop} {w : W3} (q : Q (.d (.bool true)) w) : sp_is_ratio [.d (fr x)] w Q := ⟨x, rfl, q⟩
theorem trimmed_i {r : Rv} {xs : List Rat} (h : isSeq r (xs.map fr)) (q : Q (.d (row (trim xs))) w) : sp_trimmed [r] w Q := ⟨r, xs, rfl, h, q⟩
theorem size_i {x : Rat} (q : Q (.d (fr (rabs x))) w) : sp_size_of [.d (fr x)] w Q := ⟨x, rfl, q⟩
theorem number_at_i {xs : List Rat} {i : Int} (h : 0 ≤ i) (q : Q (.d (fr (co xs i.toNat))) w) : sp_number_at [.d (row xs), .d (.int i)] w Q := ⟨xs, i, rfl, h, q⟩
end
theorem fr_nil (x : Rat) : fIx (.d (fr x)) = fIx (.d (fr x)) := rfl
theorem pr_trimmed : Pr dt_trimmed 2 1 sp_trimmed := by
  rintro rs w k - ⟨r, xs, rfl, h, q⟩
  show dt_trimmed _ ⟨[some r, none], w⟩
  unfold dt_trimmed
  have core : ∀ r' : Rv, dWhile (dAndT (dTst (dOp (fEq true) (dVar 1) (dLst ddNil))) (dTst (dOp (fEq false) (dOp fIx (dVar 1) (dUn (fU fun i => -i) (dC (.int 1)))) (dC dZERO)))) (dPop 1)
      { nx := fun s => dRet (dCB fTuple (daCons (dVar 1) daNil)) { nx := fun s => k (.d .none) s.w, rt := k } s, rt := k } ⟨[some r', some (.l (xs.map fr))], w⟩ := by
    intro r'
    refine ⟨fun m s => ∃ ys : List Rat, s = ⟨[some r', some (.l (ys.map fr))], w⟩ ∧ trim ys = trim xs ∧ ys.length = m, ⟨xs.length, xs, rfl, rfl, rfl⟩, ?_⟩
    rintro m s ⟨ys, rfl, ht, rfl⟩
    walk_at "dx"
    by_cases hy : ys = []
    · subst hy
      rw [if_neg (by simp)]
      rw [← ht] at q
      exact q
    · rw [if_pos (by simpa using hy)]
      obtain ⟨x, e1, e2⟩ := snoc_of_ne hy
      rw [show (-1 : Int) = -1 from rfl, fIx_prL e1]
      walk_at "dx"
      by_cases hx : x = 0
      · subst hx
        rw [if_pos (by simp)]
        refine ⟨by simpa using hy, ys.dropLast.length, ?_, ys.dropLast, ?_, ?_, rfl⟩
        · have : 0 < ys.length := List.length_pos_iff.mpr hy
          rw [List.length_dropLast]
          omega
        · rw [List.map_dropLast]
          rfl
        · rw [← ht]
          conv => rhs; rw [e2]
          rw [trim_snoc0]
      · rw [if_neg (by simpa using hx)]
        have : trim ys = ys := by
          rw [e2]
          exact trim_snoc hx
        rw [← ht, this] at q
        exact q
  rcases h with rfl | rfl | rfl
  · walk_at "dx"
    exact core _
  · walk_at "dx"
    exact core _
  · walk_at "dx"
    exact core _

theorem pr_number_at : Pr dt_number_at 2 2 sp_number_at := by
  rintro rs w k - ⟨xs, i, rfl, h, q⟩
  show dt_number_at _ ⟨[some (.d (row xs)), some (.d (.int i))], w⟩
  unfold dt_number_at
  walk_at "dx"
  by_cases hi : i < (xs.length : Int)
  · refine ev_pos hi ?_
    rw [fIx_row h (co_some (by omega))]
    exact q
  · refine ev_neg hi ?_
    rw [co_ge (by omega)] at q
    exact q
theorem sum_nil0 : (([] : List Rat)).sum = 0 := rfl
theorem pr_total : Pr dt_total 3 1 sp_total := by
  rintro rs w k - ⟨xs, rfl, ⟨h1, h2⟩, q⟩
  show dt_total _ ⟨[some (.d (.list (xs.map fr))), none, none], w⟩
  unfold dt_total
  walk_at "dx"
  refine loopD_inv (fun i s => i ≤ xs.length ∧ ∃ o, s = ⟨[some (.d (.list (xs.map fr))), some (.d (fr (xs.take i).sum)), o], w⟩) _ ?_ ?_ ⟨Nat.zero_le _, none, rfl⟩
  · rintro i x s K hx ⟨hi, o, rfl⟩ hK
    rw [List.getElem?_map] at hx
    obtain ⟨y, ey, rfl⟩ := Option.map_eq_some_iff.mp hx
    have hl : i < xs.length := (List.getElem?_eq_some_iff.mp ey).1
    walk_at "dx"
    refine ⟨⟨h2 i hi, h1 y (List.mem_of_getElem? ey)⟩, hK _ ⟨hl, some (.d (fr y)), by rw [take_succ_sum ey]⟩⟩
  · rintro s ⟨_, o, rfl⟩
    rw [List.length_map, List.take_length]
    exact q
theorem pr_sizes_by : Pr dt_sizes_by 2 1 sp_sizes_by := by
  rintro rs w k - ⟨xs, rfl, ⟨hl, hs⟩, q⟩
  show dt_sizes_by _ ⟨[some (.d (row xs)), none], w⟩
  unfold dt_sizes_by
  walk_at "dx"
  refine ⟨by rw [List.length_map]; omega, comp_mapF fr (fun x => fr (rabs x)) xs [] (fun x hx K hK => ?_) ?_⟩
  · walk_at "dx"
    exact size_i hK
  · refine ⟨xs.map rabs, ?_, hs, q⟩
    rw [List.map_map]
    rfl
theorem pr_scaled : Pr dt_scaled 3 2 sp_scaled := by
  rintro rs w k - ⟨a, xs, rfl, ⟨hl, ha, hs⟩, q⟩
  show dt_scaled _ ⟨[some (.d (fr a)), some (.d (row xs)), none], w⟩
  unfold dt_scaled
  walk_at "dx"
  refine ⟨by rw [List.length_map]; omega, comp_mapF fr (fun x => fr (a * x)) xs [] (fun x hx K hK => ?_) ?_⟩
  · walk_at "dx"
    exact ⟨⟨ha, hs x hx⟩, hK⟩
  · refine trimmed_i (xs := xs.map fun x => a * x) (.inl ?_) q
    rw [List.map_map]
    rfl
theorem max_nat (a b : Nat) : (max (a : Int) (b : Int)).toNat = max a b := by omega
theorem cnt_of {i : Int} (h0 : 0 ≤ i) (h : i ≤ 1000000) : cnt i := ⟨by omega, by omega⟩
theorem pr_lessened : Pr dt_lessened 4 2 sp_lessened := by
  rintro rs w k - ⟨xs, ys, rfl, ⟨⟨hl, hm⟩, hx, hy⟩, q⟩
  show dt_lessened _ ⟨[some (.d (row xs)), some (.d (row ys)), none, none], w⟩
  unfold dt_lessened
  walk_at "dx"
  rw [max_nat, intsBy_len]
  refine ⟨cnt_of (by omega) (by omega), by omega, comp_rng (fun i => fr (co xs i - co ys i)) (fun i hi K hK => ?_) ?_⟩
  · walk_at "dx"
    refine number_at_i (by omega) ?_
    refine number_at_i (by omega) ?_
    walk_at "dx"
    rw [Int.toNat_natCast]
    exact ⟨⟨hx i, hy i⟩, hK⟩
  · refine trimmed_i (xs := (List.range (max xs.length ys.length)).map fun i => co xs i - co ys i) (.inl ?_) ?_
    · rw [List.map_map]
      rfl
    · exact q
theorem co_cons0 {x : Rat} {xs : List Rat} : co (x :: xs) 0 = x := rfl
theorem pr_is_led_by : Pr dt_is_led_by 1 1 sp_is_led_by := by
  rintro rs w k - ⟨xs, rfl, q⟩
  show dt_is_led_by _ ⟨[some (.d (row xs))], w⟩
  unfold dt_is_led_by
  walk_at "dx"
  cases xs with
  | nil =>
    rw [if_neg (by simp)]
    simpa using q
  | cons x xs =>
    rw [if_pos (by simp), fIx_row (by decide) (show (x :: xs)[(0 : Int).toNat]? = some x from rfl)]
    walk_at "dx"
    have e : decide (x :: xs ≠ [] ∧ co (x :: xs) 0 = 1) = decide (x = 1) := by simp [co_cons0]
    rw [e] at q
    exact q
theorem all_true {α : Type} (xs : List α) (f : α → PyData) : boolsOf (xs.map fun _ => PyData.bool true) = some (xs.map fun _ => true) := boolsOf_map (fun _ => true) xs
theorem all_id {α : Type} : ∀ xs : List α, ((xs.map fun _ => true).all id) = true
  | [] => rfl
  | x :: xs => by simpa using all_id xs
theorem pr_is_row : Pr dt_is_row 2 1 sp_is_row := by
  rintro rs w k - ⟨xs, rfl, ⟨hl, ht⟩, q⟩
  show dt_is_row _ ⟨[some (.d (row xs)), none], w⟩
  unfold dt_is_row
  walk_at "dx"
  refine ⟨by rw [List.length_map]; omega, comp_mapF fr (fun _ => .bool true) xs [] (fun x hx K hK => ?_) ?_⟩
  · walk_at "dx"
    exact ratio_i' hK
  · rw [List.nil_append, fBools_dl (all_true xs fr), all_id]
    walk_at "dx"
    rcases ht with rfl | ⟨x, h1, h2⟩
    · rw [if_pos (by simp)]
      exact q
    · rw [if_neg (by intro e; simp at e; rw [e] at h1; cases h1), fIx_rowL h1]
      walk_at "dx"
      rw [show decide (x = 0) = false from decide_eq_false h2]
      exact q
theorem row_i {xs : List Rat} {Q : Rv → W3 → Prop} {w : W3} (hl : xs.length ≤ 1000) (ht : trimd xs) (q : Q (.d (.bool true)) w) : sp_is_row [.d (row xs)] w Q := ⟨xs, rfl, ⟨hl, ht⟩, q⟩
theorem pr_is_led : Pr dt_is_led 1 1 sp_is_led := by
  rintro rs w k - ⟨xs, rfl, ⟨hl, ht, hne, h0⟩, q⟩
  show dt_is_led _ ⟨[some (.d (row xs))], w⟩
  unfold dt_is_led
  walk_at "dx"
  refine row_i hl ht ?_
  walk_at "dx"
  refine ⟨xs, rfl, ?_⟩
  rw [show decide (xs ≠ [] ∧ co xs 0 = 1) = true from decide_eq_true ⟨hne, h0⟩]
  exact q
theorem scaled_i {a : Rat} {xs : List Rat} {Q : Rv → W3 → Prop} {w : W3} (hl : xs.length ≤ 1000) (ha : sm 4000 a) (hs : ∀ x ∈ xs, sm 4000 x) (q : Q (.d (row (pscale a xs))) w) : sp_scaled [.d (fr a), .d (row xs)] w Q := ⟨a, xs, rfl, ⟨hl, ha, hs⟩, q⟩
theorem sm1 {b : Nat} (h : 0 < b) : sm b 1 := ⟨Nat.one_lt_two_pow (by omega), Nat.one_lt_two_pow (by omega)⟩
theorem sm0 {b : Nat} (h : 0 < b) : sm b 0 := ⟨Nat.two_pow_pos b, Nat.one_lt_two_pow (by omega)⟩
theorem pscale_one {xs : List Rat} (h : trimd xs) : pscale 1 xs = xs := by
  unfold pscale
  rw [show (xs.map fun x => 1 * x) = xs from by simp [Rat.one_mul]]
  exact h.eq
theorem pr_led_by : Pr dt_led_by 1 1 sp_led_by := by
  rintro rs w k - ⟨xs, rfl, ⟨hne, h0, hl, ht, hs⟩, q⟩
  show dt_led_by _ ⟨[some (.d (row xs))], w⟩
  unfold dt_led_by
  walk_at "dx"
  have hp : 0 < xs.length := List.length_pos_iff.mpr hne
  rw [fIx_row (by decide) (co_some (by simpa using hp))]
  walk_at "dx"
  rw [show co xs (0 : Int).toNat = 1 from h0]
  refine ⟨⟨sm1 (by decide), sm1 (by decide), by decide⟩, ?_⟩
  rw [show (1 : Rat) / 1 = 1 from by decide +kernel]
  refine scaled_i hl (sm1 (by decide)) hs ?_
  rw [pscale_one ht]
  exact q
theorem worth_cons {x : Rat} {xs : List Rat} {z : Rat} : worth (x :: xs) z = worth xs z * z + x := rfl
end DL
namespace DL
open PySem PySem.Spec PyProof.Rows L2
local macro_rules | `(tactic| walk_at "dx") => `(tactic| simp -implicitDefEqProofs only [wl_eq, var_eq, vq_d, vq_l, vq_a, vq_w, c_eq, op_eq_, un_eq_, fI_eq, fI0_eq, fU_eq, f1I_eq, f2I_eq, fIx_t0, fIx_t1, fIx_fr0, fIx_fr1, daNil_eq, daCons_eq, argOf_d, argOf_l, argOf_a, argOf_p, argOf_w, ddNil_eq, ddCons_eq, kp_d, kp_l, call1_eq, call2_eq, call3_eq, cB_eq,
  tup_eq, lst_eq, small0, small1, small2, small3, small4, small6, small7, seq_eq, next_eq, never_eq, ret_eq, retk_d, retk_l, retV_eq, set_eq, par_eq, sto_d, sto_l, sto_a, asg_eq, tgN_eq, tgTup2_eq, ifS_eq, ifx_eq, tst_eq, tru_eq, andT_eq, orT_eq, notT_eq, andV_eq, orV_eq, notV_eq, drop_eq, isN_eq, sp2_eq,
  for_eq, diSeq_eq, diRng1_eq, diRng2_eq, diRevR_eq, diRev_eq, diZip_eq, revL_eq, lsQ_dl, lsQ_a, lsQ_l, lsQ_p, revT_eq, tpQ_t, tpQ_row, sl_eq, doNone_eq, doSome_eq, fSl_t, fSl_dl, fSl_a, fSl_l, fSl_p, fz_own, diEnumT_eq2, enQ_row, fRep_l, fCat_ll, fCat_lp, asInt_eq, stay_dl, stay_dt, stay_l, stay_a, stayL_dl, stayL_l, stayL_a, comp_eq, yes_eq, isI_eq, isQ_ii, isQ_ib, isQ_tt, isQ_row, fTuple_dl, fTuple_dt, fTuple_a, fList_row, fTuple_row, fList_dl, fList_dt, fList_a, fLen_row, fLen_lr, fLen_ar, fLen_dl, fLen_dt, fLen_a, wipeD,
  sp_plus, sp_minus, sp_times, sp_over, sp__law_plus, sp__law_minus, sp__law_prod, sp__law_per, fEq_ff, fNe_ff, fEq_i, fNe_i, fEq_rr, fNe_rr, fEq_r0, fNe_r0, fNe_pe, setIx_eq, own_eq, oq_l, append_eq, dZERO_eq, dONE_eq, dUNIT_eq, stay_row,
  List.getElem?_cons_zero, List.getElem?_cons_succ, List.set_cons_zero, List.set_cons_succ, if_true, Bool.false_eq_true, if_false, Bool.not_true, Bool.not_false])
/-- what found holds before the inner step j of the outer step i -/
def mid (xs ys : List Rat) (i j k : Nat) : Rat := pc xs ys i k + if i ≤ k ∧ k < i + j then co xs i * co ys (k - i) else 0
theorem mid_zero (xs ys : List Rat) (i k : Nat) : mid xs ys i 0 k = pc xs ys i k := by
  unfold mid
  rw [if_neg (by omega)]
  grind
theorem mid_end (xs ys : List Rat) (i k : Nat) : mid xs ys i ys.length k = pc xs ys (i + 1) k := by
  show _ = pc xs ys i k + if i ≤ k then co xs i * co ys (k - i) else 0
  unfold mid
  by_cases h : i ≤ k
  · rw [if_pos h]
    by_cases h2 : k < i + ys.length
    · rw [if_pos ⟨h, h2⟩]
    · rw [if_neg (by omega), co_ge (xs := ys) (by omega)]
      grind
  · rw [if_neg h, if_neg (by omega)]
theorem mid_at (xs ys : List Rat) (i j : Nat) : mid xs ys i j (i + j) = pc xs ys i (i + j) := by
  unfold mid
  rw [if_neg (by omega)]
  grind
theorem mid_succ (xs ys : List Rat) (i j : Nat) : mid xs ys i (j + 1) (i + j) = pc xs ys i (i + j) + co xs i * co ys j := by
  unfold mid
  rw [if_pos (by omega), Nat.add_sub_cancel_left]
theorem mid_ne (xs ys : List Rat) (i j k : Nat) (h : k ≠ i + j) : mid xs ys i (j + 1) k = mid xs ys i j k := by
  unfold mid
  by_cases h2 : i ≤ k ∧ k < i + j
  · rw [if_pos h2, if_pos (by omega)]
  · rw [if_neg h2, if_neg (by omega)]
theorem pr_multiplied : Pr dt_multiplied 7 2 sp_multiplied := by
  rintro rs w k - ⟨xs, ys, rfl, ⟨⟨hl, hm⟩, hx, hy, hp, hc⟩, q⟩
  show dt_multiplied _ ⟨[some (.d (row xs)), some (.d (row ys)), none, none, none, none, none], w⟩
  unfold dt_multiplied
  walk_at "dx"
  rw [show ((xs.length : Int) + (ys.length : Int)).toNat = xs.length + ys.length by omega, rep_zero]
  refine ⟨⟨cnt_of (by omega) (by omega), by show 1 * _ ≤ _; omega⟩, ?_⟩
  refine loopD_inv (fun i s => i ≤ xs.length ∧ ∃ a b c d, s = ⟨[some (.d (row xs)), some (.d (row ys)), some (.l ((tab (xs.length + ys.length) (pc xs ys i)).map fr)), a, b, c, d], w⟩) _ ?_ ?_ ⟨Nat.zero_le _, none, none, none, none, rfl⟩
  · rintro i x s K hx1 ⟨hi, a, b, c, d, rfl⟩ hK
    obtain ⟨hi2, rfl⟩ := numbered_row hx1
    walk_at "dx"
    refine loopD_inv (fun j s => j ≤ ys.length ∧ ∃ c d, s = ⟨[some (.d (row xs)), some (.d (row ys)), some (.l ((tab (xs.length + ys.length) (mid xs ys i j)).map fr)), some (.d (.int (i : Int))), some (.d (fr (co xs i))), c, d], w⟩) _ ?_ ?_ ⟨Nat.zero_le _, c, d, ?_⟩
    · rintro j y s K2 hy1 ⟨hj, c, d, rfl⟩ hK2
      obtain ⟨hj2, rfl⟩ := numbered_row hy1
      walk_at "dx"
      have e0 : ((i : Int) + (j : Int)).toNat = i + j := by omega
      rw [fIx_pr (by omega) (by rw [e0]; exact tab_get (by omega))]
      walk_at "dx"
      rw [mid_at]
      refine ⟨⟨hx i, hy j⟩, ⟨hc i (i + j), hp i j⟩, ?_⟩
      refine ixq_of (by omega) (by rw [List.length_map, tab_len]; omega) ?_
      rw [e0, map_set, tab_set (g := mid xs ys i (j + 1)) (by omega) (mid_succ xs ys i j) (mid_ne xs ys i j)]
      exact hK2 _ ⟨hj2, _, _, rfl⟩
    · rintro s ⟨_, c, d, rfl⟩
      rw [numbered_rlen, tab_congr (g := pc xs ys (i + 1)) fun k _ => mid_end xs ys i k]
      exact hK _ ⟨hi2, _, _, _, _, rfl⟩
    · rw [tab_congr (g := pc xs ys i) fun k _ => mid_zero xs ys i k]
  · rintro s ⟨_, a, b, c, d, rfl⟩
    rw [numbered_rlen]
    walk_at "dx"
    exact trimmed_i (.inr (.inr rfl)) q
end DL
namespace DL
open PySem PySem.Spec PyProof.Rows L2
local macro_rules | `(tactic| walk_at "dx") => `(tactic| simp -implicitDefEqProofs only [wl_eq, var_eq, vq_d, vq_l, vq_a, vq_w, c_eq, op_eq_, un_eq_, fI_eq, fI0_eq, fU_eq, f1I_eq, f2I_eq, fIx_t0, fIx_t1, fIx_fr0, fIx_fr1, daNil_eq, daCons_eq, argOf_d, argOf_l, argOf_a, argOf_p, argOf_w, ddNil_eq, ddCons_eq, kp_d, kp_l, call1_eq, call2_eq, call3_eq, cB_eq,
  tup_eq, lst_eq, small0, small1, small2, small3, small4, small6, small7, seq_eq, next_eq, never_eq, ret_eq, retk_d, retk_l, retV_eq, set_eq, par_eq, sto_d, sto_l, sto_a, asg_eq, tgN_eq, tgTup2_eq, ifS_eq, ifx_eq, tst_eq, tru_eq, andT_eq, orT_eq, notT_eq, andV_eq, orV_eq, notV_eq, drop_eq, isN_eq, sp2_eq,
  for_eq, diSeq_eq, diRng1_eq, diRng2_eq, diRevR_eq, diRev_eq, diZip_eq, revL_eq, lsQ_dl, lsQ_a, lsQ_l, lsQ_p, revT_eq, tpQ_t, tpQ_row, sl_eq, doNone_eq, doSome_eq, fSl_t, fSl_dl, fSl_a, fSl_l, fSl_p, fz_own, diEnumT_eq2, enQ_row, fRep_l, fCat_ll, fCat_lp, asInt_eq, stay_dl, stay_dt, stay_l, stay_a, stayL_dl, stayL_l, stayL_a, comp_eq, yes_eq, isI_eq, isQ_ii, isQ_ib, isQ_tt, isQ_row, fTuple_dl, fTuple_dt, fTuple_a, fList_row, fTuple_row, fList_dl, fList_dt, fList_a, fLen_row, fLen_lr, fLen_ar, fLen_dl, fLen_dt, fLen_a, wipeD,
  sp_plus, sp_minus, sp_times, sp_over, sp__law_plus, sp__law_minus, sp__law_prod, sp__law_per, fEq_ff, fNe_ff, fEq_i, fNe_i, fEq_rr, fNe_rr, fEq_r0, fNe_r0, fNe_pe, setIx_eq, own_eq, oq_l, append_eq, dZERO_eq, dONE_eq, dUNIT_eq, stay_row,
  List.getElem?_cons_zero, List.getElem?_cons_succ, List.set_cons_zero, List.set_cons_succ, if_true, Bool.false_eq_true, if_false, Bool.not_true, Bool.not_false])
theorem numbers_min {i n : Nat} (hn : 0 < n) : (min (i : Int) ((n : Int) - 1) + 1 - 1).toNat = min i (n - 1) := by omega
theorem pr_numbers_by : Pr dt_numbers_by 8 2 sp_numbers_by := by
  rintro rs w k - ⟨top, under, many, rfl, ⟨h0, h1, hne, hl, ok⟩, q⟩
  show dt_numbers_by _ ⟨[some (.d (.tuple [row top, row under])), some (.d (.int many)), none, none, none, none, none, none], w⟩
  have hp : 0 < under.length := List.length_pos_iff.mpr hne
  unfold dt_numbers_by
  walk_at "dx"
  refine ⟨cnt_of h0 (by omega), ?_⟩
  refine loopD_inv (fun i s => i ≤ many.toNat ∧ ∃ a b c, s = ⟨[some (.d (.tuple [row top, row under])), some (.d (.int many)), some (.d (row top)), some (.d (row under)), some (.l ((ser top under i).map fr)), a, b, c], w⟩) _ ?_ ?_ ⟨Nat.zero_le _, none, none, none, rfl⟩
  · rintro i x s K hx ⟨hi, a, b, c, rfl⟩ hK
    obtain ⟨hi2, rfl⟩ := rng_get hx
    walk_at "dx"
    refine number_at_i (by omega) ?_
    walk_at "dx"
    rw [Int.toNat_natCast, numbers_min hp]
    refine ⟨⟨cnt_of (by decide) (by decide), cnt_of (by omega) (by omega)⟩, ?_⟩
    refine loopD_inv (fun j s => j ≤ min i (under.length - 1) ∧ ∃ c, s = ⟨[some (.d (.tuple [row top, row under])), some (.d (.int many)), some (.d (row top)), some (.d (row under)), some (.l ((ser top under i).map fr)), some (.d (.int (i : Int))), some (.d (fr (rec_ top under (ser top under i) i j))), c], w⟩) _ ?_ ?_ ⟨Nat.zero_le _, c, rfl⟩
    · rintro j y s K2 hy ⟨hj, c, rfl⟩ hK2
      obtain ⟨hj2, rfl⟩ := rng_get2 hy
      walk_at "dx"
      have e1 : ((1 : Int) + (j : Int)).toNat = j + 1 := by omega
      have e2 : ((i : Int) - (1 + (j : Int))).toNat = i - (j + 1) := by omega
      rw [fIx_row (by omega) (by rw [e1]; exact co_some (by omega))]
      walk_at "dx"
      rw [fIx_pr (by omega) (by rw [e2]; exact co_some (by rw [ser_len]; omega))]
      walk_at "dx"
      refine ⟨⟨ok.und _, ok.num i hi2 _⟩, ⟨ok.par i hi2 j (by omega), ok.pro i hi2 (j + 1) (by omega)⟩, hK2 _ ⟨by omega, _, rfl⟩⟩
    · rintro s ⟨_, c, rfl⟩
      rw [intsBy_len]
      walk_at "dx"
      refine ⟨by rw [List.length_map, ser_len]; omega, ?_⟩
      rw [lst_snoc]
      exact hK _ ⟨by omega, _, _, _, rfl⟩
  · rintro s ⟨_, a, b, c, rfl⟩
    rw [intsBy_len]
    walk_at "dx"
    exact q
theorem filter_head {xs : List Rat} {x : Rat} (h : (xs.filter fun y => !decide (y = 0)).head? = some x) : ((xs.filter fun y => !decide (y = 0)).map fr)[(0 : Int).toNat]? = some (fr x) := by
  rw [List.getElem?_map]
  show Option.map fr (xs.filter fun y => !decide (y = 0))[0]? = _
  rw [← List.head?_eq_getElem?, h]
  rfl
theorem pr_first_of : Pr dt_first_of 2 1 sp_first_of := by
  rintro rs w k - ⟨xs, x, rfl, ⟨hl, hx⟩, q⟩
  show dt_first_of _ ⟨[some (.d (row xs)), none], w⟩
  unfold dt_first_of
  walk_at "dx"
  refine ⟨by rw [List.length_map]; omega, comp_filF fr fr (fun y => !decide (y = 0)) xs [] (fun x hx K1 K0 h1 h0 => ?_) ?_⟩
  · walk_at "dx"
    by_cases e : x = 0
    · rw [if_neg (by simp [e])]
      exact h0 (by simp [e])
    · rw [if_pos (by simpa using e)]
      exact h1 (by simpa using e)
  · show fIx (.l _) (.d (.int 0)) _
    rw [List.nil_append, fIx_int rfl (by decide) (filter_head hx)]
    exact q

theorem one_sub_ne {b : Rat} (h : b * b ≠ 1) : 1 - b * b ≠ 0 := fun e => h (by grind)
theorem drop_map {xs : List Rat} : (xs.map fr).dropLast = xs.dropLast.map fr := by rw [List.map_dropLast]
theorem pr_next_numbers : Pr dt_next_numbers 6 2 sp_next_numbers := by
  rintro rs w k - ⟨xs, b, rfl, ⟨hl, hne, hb, hb1, hs⟩, q⟩
  show dt_next_numbers _ ⟨[some (.a (xs.map fr)), some (.d (fr b)), none, none, none, none], w⟩
  have hbb : sm 1800 (b * b) := sm.mul hb hb
  have hu : sm 1802 (1 - b * b) := (sm.sub (sm1 (b := 1) (by decide)) hbb).mono (by decide)
  unfold dt_next_numbers
  walk_at "dx"
  refine ⟨⟨hb.mono (by decide), hb.mono (by decide)⟩, ⟨sm1 (by decide), hbb.mono (by decide)⟩, ?_⟩
  rw [show (-1 : Int) = -1 from rfl, cut_butlast (by simpa using hne), drop_map, ← List.map_reverse, pairs_map]
  refine ⟨by rw [List.length_map, List.length_zip, List.length_dropLast]; omega, comp_mapF (fun p : Rat × Rat => .tuple [fr p.1, fr p.2]) (fun p => fr ((p.1 - b * p.2) / (1 - b * b))) _ [] (fun p hp K hK => ?_) ?_⟩
  · walk_at "dx"
    obtain ⟨h1, h2⟩ := List.of_mem_zip hp
    have s1 : sm 900 p.1 := hs _ (List.dropLast_subset _ h1)
    have s2 : sm 900 p.2 := hs _ (List.mem_reverse.mp h2)
    have s3 : sm 1800 (b * p.2) := sm.mul hb s2
    have s4 : sm 2701 (p.1 - b * p.2) := sm.sub s1 s3
    exact ⟨⟨hb.mono (by decide), s2.mono (by decide)⟩, ⟨s1.mono (by decide), s3.mono (by decide)⟩, ⟨s4.mono (by decide), hu.mono (by decide), one_sub_ne hb1⟩, hK⟩
  · rw [List.nil_append]
    unfold nextN at q
    rw [List.map_map] at q
    exact q
theorem led_i {xs : List Rat} {Q : Rv → W3 → Prop} {w : W3} (hne : xs ≠ []) (h0 : co xs 0 = 1) (hl : xs.length ≤ 1000) (ht : trimd xs) (hs : ∀ x ∈ xs, sm 4000 x) (q : Q (.d (row xs)) w) : sp_led_by [.d (row xs)] w Q := ⟨xs, rfl, ⟨hne, h0, hl, ht, hs⟩, q⟩
theorem pr_bends_by : Pr dt_bends_by 4 1 sp_bends_by := by
  rintro rs w k - ⟨xs, rfl, ⟨hne, h0, ht, hl, hb⟩, q⟩
  show dt_bends_by _ ⟨[some (.d (row xs)), none, none, none], w⟩
  have hp : 0 < xs.length := List.length_pos_iff.mpr hne
  have hsm : ∀ x ∈ xs, sm 4000 x := by
    intro x hx
    by_cases h1 : 1 < xs.length
    · obtain ⟨n, hn⟩ : ∃ n, xs.length = n + 1 := ⟨xs.length - 1, by omega⟩
      rw [hn] at hb
      obtain ⟨b, _, _, h2, _⟩ := bendsOk_step hb h1
      exact (h2 x hx).mono (by decide)
    · obtain ⟨y, hy⟩ := List.length_eq_one_iff.mp (show xs.length = 1 by omega)
      subst hy
      rw [co_cons0] at h0
      subst h0
      rw [List.mem_singleton.mp hx]
      exact sm1 (by decide)
  unfold dt_bends_by
  walk_at "dx"
  rw [fIx_row (by decide) (co_some (by simpa using hp)), show co xs (0 : Int).toNat = 1 from h0]
  walk_at "dx"
  rw [if_neg (by decide +kernel)]
  refine led_i hne h0 (by omega) ht hsm ?_
  walk_at "dx"
  show dWhile _ _ _ _
  refine ⟨fun m s => ∃ (ys : List Rat) (zs : List PyData) (o : Option Rv), s = ⟨[some (.d (row xs)), some (.l (ys.map fr)), some (.l zs), o], w⟩ ∧ ys.length = m ∧ zs.length + ys.length ≤ 60 ∧ bendsOk ys.length ys = true, ⟨xs.length, xs, [], none, rfl, rfl, by simpa using hl, hb⟩, ?_⟩
  rintro m s ⟨ys, zs, o, rfl, rfl, hz, hb2⟩
  walk_at "dx"
  rw [List.length_map]
  by_cases h1 : (1 : Int) < (ys.length : Int)
  · refine ev_pos h1 ?_
    obtain ⟨n, hn⟩ : ∃ n, ys.length = n + 1 := ⟨ys.length - 1, by omega⟩
    rw [hn] at hb2
    obtain ⟨b, e1, e2, e3, e4⟩ := bendsOk_step hb2 (by omega)
    have hyne : ys ≠ [] := by
      intro e
      subst e
      cases e1
    rw [show (-1 : Int) = -1 from rfl, fIx_prL e1]
    walk_at "dx"
    refine ev_neg (by omega) ?_
    refine ⟨by omega, ys, b, rfl, ⟨by omega, hyne, e3 b (List.mem_of_getLast? e1), bend_ne e2, e3⟩, ?_⟩
    refine ⟨n, by omega, nextN ys b, _, _, rfl, ?_, ?_, ?_⟩
    · rw [nextN_len, hn]
      rfl
    · rw [List.length_append, nextN_len]
      show zs.length + 1 + (ys.length - 1) ≤ 60
      omega
    · rw [nextN_len, hn]
      exact e4
  · refine ev_neg h1 ?_
    exact q zs
theorem pr_is_steady_by : Pr dt_is_steady_by 1 1 sp_is_steady_by := by
  rintro rs w k - ⟨xs, rfl, h, q⟩
  show dt_is_steady_by _ ⟨[some (.d (row xs))], w⟩
  unfold dt_is_steady_by
  walk_at "dx"
  rw [if_pos (by simpa using h.1)]
  refine ⟨xs, rfl, h, fun ys => ?_⟩
  exact q
end DL
namespace DL
open PySem PySem.Spec PyProof.Rows L2
local macro_rules | `(tactic| walk_at "dx") => `(tactic| simp -implicitDefEqProofs only [wl_eq, var_eq, vq_d, vq_l, vq_a, vq_w, c_eq, op_eq_, un_eq_, fI_eq, fI0_eq, fU_eq, f1I_eq, f2I_eq, fIx_t0, fIx_t1, fIx_fr0, fIx_fr1, daNil_eq, daCons_eq, argOf_d, argOf_l, argOf_a, argOf_p, argOf_w, ddNil_eq, ddCons_eq, kp_d, kp_l, call1_eq, call2_eq, call3_eq, cB_eq,
  tup_eq, lst_eq, small0, small1, small2, small3, small4, small6, small7, seq_eq, next_eq, never_eq, ret_eq, retk_d, retk_l, retV_eq, set_eq, par_eq, sto_d, sto_l, sto_a, asg_eq, tgN_eq, tgTup2_eq, ifS_eq, ifx_eq, tst_eq, tru_eq, andT_eq, orT_eq, notT_eq, andV_eq, orV_eq, notV_eq, drop_eq, isN_eq, sp2_eq,
  for_eq, diSeq_eq, diRng1_eq, diRng2_eq, diRevR_eq, diRev_eq, diZip_eq, revL_eq, lsQ_dl, lsQ_a, lsQ_l, lsQ_p, revT_eq, tpQ_t, tpQ_row, sl_eq, doNone_eq, doSome_eq, fSl_t, fSl_dl, fSl_a, fSl_l, fSl_p, fz_own, diEnumT_eq2, enQ_row, fRep_l, fCat_ll, fCat_lp, asInt_eq, stay_dl, stay_dt, stay_l, stay_a, stayL_dl, stayL_l, stayL_a, comp_eq, yes_eq, isI_eq, isQ_ii, isQ_ib, isQ_tt, isQ_row, fTuple_dl, fTuple_dt, fTuple_a, fList_row, fTuple_row, fList_dl, fList_dt, fList_a, fLen_row, fLen_lr, fLen_ar, fLen_dl, fLen_dt, fLen_a, wipeD,
  sp_plus, sp_minus, sp_times, sp_over, sp__law_plus, sp__law_minus, sp__law_prod, sp__law_per, fEq_ff, fNe_ff, fEq_i, fNe_i, fEq_rr, fNe_rr, fEq_r0, fNe_r0, fNe_pe, setIx_eq, own_eq, oq_l, append_eq, dZERO_eq, dONE_eq, dUNIT_eq, stay_row,
  List.getElem?_cons_zero, List.getElem?_cons_succ, List.set_cons_zero, List.set_cons_succ, if_true, Bool.false_eq_true, if_false, Bool.not_true, Bool.not_false])
theorem rev_get' {q i : Nat} {x : PyData} (h : (intsBy (0 + ((q : Nat) : Int) - 1) (-1) q)[i]? = some x) : i < q ∧ x = .int ((q - 1 - i : Nat) : Int) := by
  obtain ⟨h1, h2⟩ := intsBy_get h
  exact ⟨h1, by rw [h2]; congr 1; omega⟩
theorem tab_self {xs : List Rat} : tab xs.length (co xs) = xs := by
  apply List.ext_getElem?
  intro i
  by_cases h : i < xs.length
  · rw [tab_get h, co_some h]
  · rw [List.getElem?_eq_none (by rw [tab_len]; omega), List.getElem?_eq_none (by omega)]
/-- what left holds within the inner loop -/
def lmid (L : Sq) (ys : List Rat) (s j : Nat) (c : Rat) : Sq := fun k => if s ≤ k ∧ k < s + j then L k - c * co ys (k - s) else L k
theorem lmid_zero (L : Sq) (ys : List Rat) (s : Nat) (c : Rat) (k : Nat) : lmid L ys s 0 c k = L k := by
  unfold lmid
  rw [if_neg (by omega)]
theorem lmid_at (L : Sq) (ys : List Rat) (s j : Nat) (c : Rat) : lmid L ys s j c (s + j) = L (s + j) := by
  unfold lmid
  rw [if_neg (by omega)]
theorem lmid_succ (L : Sq) (ys : List Rat) (s j : Nat) (c : Rat) : lmid L ys s (j + 1) c (s + j) = L (s + j) - c * co ys j := by
  unfold lmid
  rw [if_pos (by omega), Nat.add_sub_cancel_left]
theorem lmid_ne (L : Sq) (ys : List Rat) (s j : Nat) (c : Rat) (k : Nat) (h : k ≠ s + j) : lmid L ys s (j + 1) c k = lmid L ys s j c k := by
  unfold lmid
  by_cases h2 : s ≤ k ∧ k < s + j
  · rw [if_pos h2, if_pos (by omega)]
  · rw [if_neg h2, if_neg (by omega)]
theorem lmid_end (L : Sq) (ys : List Rat) (s t k : Nat) (l : Rat) : lmid L ys s ys.length (L t / l) k = dstep L (co ys) s t l k := by
  unfold lmid dstep
  by_cases h : s ≤ k
  · rw [if_pos h]
    by_cases h2 : k < s + ys.length
    · rw [if_pos ⟨h, h2⟩]
    · rw [if_neg (by omega), co_ge (xs := ys) (by omega)]
      grind
  · rw [if_neg h, if_neg (by omega)]
    grind
/-- the state of a division after i steps -/
structure DivI (xs ys : List Rat) (b1 b2 q i : Nat) (L F : Sq) : Prop where
  eq : ∀ k, co xs k = mu (tab q F) (co ys) k + L k
  top : ∀ k, q - i + ys.length ≤ k + 1 → L k = 0
  old : ∀ k, k < q - i → F k = 0
  rb : RB (b1 + i * (b2 + 1)) L
  ssm : ∀ k, sm 4000 (F k)
  zero : ∀ k, xs.length ≤ k → L k = 0
theorem DivI.start {xs ys : List Rat} {b1 b2 : Nat} (hx : RB b1 (co xs)) : DivI xs ys b1 b2 (xs.length + 1 - ys.length) 0 (co xs) fun _ => 0 := by
  refine ⟨fun k => ?_, fun k hk => co_ge (by omega), fun _ _ => rfl, by rw [Nat.zero_mul]; exact hx, fun _ => sm0 (by decide), fun k hk => co_ge hk⟩
  have e : mu (tab (xs.length + 1 - ys.length) fun _ => 0) (co ys) k = 0 := by
    rw [mu_co_comm]
    have : co (tab (xs.length + 1 - ys.length) fun _ => 0) = fun _ => 0 := by
      funext n
      exact tab_co' fun _ _ => rfl
    rw [this, mu_zero]
  rw [e]
  grind
theorem DivI.step {xs ys : List Rat} {b1 b2 q i : Nat} {L F : Sq} (hq : xs.length + 1 - ys.length = q) (hne : ys ≠ []) (ht : trimd ys) (hy : RB b2 (co ys)) (hi : i < q) (h : DivI xs ys b1 b2 q i L F)
    (hc : sm 4000 (L (q - 1 - i + ys.length - 1) / co ys (ys.length - 1))) :
    DivI xs ys b1 b2 q (i + 1) (dstep L (co ys) (q - 1 - i) (q - 1 - i + ys.length - 1) (co ys (ys.length - 1))) (putAt F (q - 1 - i) (L (q - 1 - i + ys.length - 1) / co ys (ys.length - 1))) := by
  have hp : 0 < ys.length := List.length_pos_iff.mpr hne
  have hl := trimd_last hne ht
  refine ⟨fun k => ?_, fun k hk => ?_, fun k hk => ?_, ?_, fun k => ?_, fun k hk => ?_⟩
  · rw [mu_put (by omega) (h.old _ (by omega)), h.eq k]
    unfold dstep
    split <;> grind
  · unfold dstep
    by_cases e : k = q - 1 - i + ys.length - 1
    · subst e
      rw [if_pos (by omega), show q - 1 - i + ys.length - 1 - (q - 1 - i) = ys.length - 1 by omega]
      grind
    · rw [h.top k (by omega)]
      by_cases hs : q - 1 - i ≤ k
      · rw [if_pos hs, co_ge (xs := ys) (n := k - (q - 1 - i)) (by omega)]
        grind
      · rw [if_neg hs]
        grind
  · unfold putAt
    rw [if_neg (by omega)]
    exact h.old k (by omega)
  · have := RB.step h.rb hy (q - 1 - i) (q - 1 - i + ys.length - 1) (ys.length - 1) hl
    refine this.mono ?_
    rw [Nat.add_mul]
    omega
  · unfold putAt
    split
    · exact hc
    · exact h.ssm k
  · unfold dstep
    rw [h.zero k hk]
    split
    · rw [co_ge (xs := ys) (n := k - (q - 1 - i)) (by omega)]
      grind
    · grind
theorem mul_le1 {i q c : Nat} (h : i < q) : i * (c + 1) + (c + 1) ≤ q * (c + 1) := by
  have := Nat.mul_le_mul_right (c + 1) (show i + 1 ≤ q from h)
  rw [Nat.add_mul] at this
  omega
theorem pr_parted_by : Pr dt_parted_by 7 2 sp_parted_by := by
  rintro rs w k - ⟨xs, ys, b1, b2, rfl, ⟨⟨hl, hm⟩, hne, ht, hx, hy, hb⟩, q⟩
  show dt_parted_by _ ⟨[some (.d (row xs)), some (.d (row ys)), none, none, none, none, none], w⟩
  have hp : 0 < ys.length := List.length_pos_iff.mpr hne
  have hlast := trimd_last hne ht
  unfold dt_parted_by
  walk_at "dx"
  rw [show (max (0 : Int) ((xs.length : Int) - (ys.length : Int) + 1)).toNat = xs.length + 1 - ys.length by omega, rep_zero, List.length_map, tab_len]
  generalize hq : xs.length + 1 - ys.length = n at *
  have hn : n ≤ 1001 := by omega
  refine ⟨⟨cnt_of (by omega) (by omega), by show 1 * _ ≤ _; omega⟩, cnt_of (by omega) (by omega), ?_⟩
  rw [show ((n : Int) - 0).toNat = n by omega]
  refine loopD_inv (fun i s => i ≤ n ∧ ∃ (L F : Sq) (a b c : Option Rv), s = ⟨[some (.d (row xs)), some (.d (row ys)), some (.l ((tab xs.length L).map fr)), some (.l ((tab n F).map fr)), a, b, c], w⟩ ∧ DivI xs ys b1 b2 n i L F) _ ?_ ?_ ⟨Nat.zero_le _, co xs, fun _ => 0, none, none, none, by rw [tab_self], by have := DivI.start (ys := ys) (b2 := b2) hx; rw [hq] at this; exact this⟩
  · rintro i x s K hx1 ⟨hi, L, F, a, b, c, rfl, I⟩ hK
    obtain ⟨hi2, rfl⟩ := rev_get' hx1
    have hbi := mul_le1 (c := b2) hi2
    rw [Nat.add_mul] at hb
    have sL : ∀ t, sm (b1 + i * (b2 + 1)) (L t) := fun t => I.rb.sm t
    have sY : ∀ t, sm b2 (co ys t) := fun t => hy.sm t
    have sC := (sL (n - 1 - i + ys.length - 1)).div (sY (ys.length - 1)) hlast
    walk_at "dx"
    have e0 : (((n - 1 - i : Nat) : Int) + (ys.length : Int) - 1).toNat = n - 1 - i + ys.length - 1 := by omega
    rw [fIx_pr (by omega) (by rw [e0]; exact tab_get (by omega))]
    walk_at "dx"
    rw [show (-1 : Int) = -1 from rfl, fIx_rowL (last_co hne)]
    walk_at "dx"
    refine ⟨⟨(sL _).mono (by omega), (sY _).mono (by omega), hlast⟩, ?_⟩
    refine ixq_of (by omega) (by rw [List.length_map, tab_len]; omega) ?_
    rw [Int.toNat_natCast, map_set, tab_set (g := putAt F (n - 1 - i) (L (n - 1 - i + ys.length - 1) / co ys (ys.length - 1))) (by omega) (by unfold putAt; rw [if_pos rfl]) (fun k hk => by unfold putAt; rw [if_neg hk])]
    refine loopD_inv (fun j s => j ≤ ys.length ∧ ∃ (b c : Option Rv), s = ⟨[some (.d (row xs)), some (.d (row ys)), some (.l ((tab xs.length (lmid L ys (n - 1 - i) j (L (n - 1 - i + ys.length - 1) / co ys (ys.length - 1)))).map fr)), some (.l ((tab n (putAt F (n - 1 - i) (L (n - 1 - i + ys.length - 1) / co ys (ys.length - 1)))).map fr)), some (.d (.int ((n - 1 - i : Nat) : Int))), b, c], w⟩) _ ?_ ?_ ⟨Nat.zero_le _, b, c, ?_⟩
    · rintro j y s K2 hy1 ⟨hj, b, c, rfl⟩ hK2
      obtain ⟨hj2, rfl⟩ := numbered_row hy1
      walk_at "dx"
      have e1 : (((n - 1 - i : Nat) : Int) + (j : Int)).toNat = n - 1 - i + j := by omega
      rw [fIx_pr (by omega) (by rw [e1]; exact tab_get (by omega))]
      walk_at "dx"
      rw [fIx_pr (by omega) (by rw [Int.toNat_natCast]; exact tab_get (by omega))]
      walk_at "dx"
      rw [lmid_at]
      unfold putAt
      rw [if_pos rfl]
      refine ⟨⟨sC.mono (by omega), (sY j).mono (by omega)⟩, ⟨(sL _).mono (by omega), (sC.mul (sY j)).mono (by omega)⟩, ?_⟩
      refine ixq_of (by omega) (by rw [List.length_map, tab_len]; omega) ?_
      rw [e1, map_set, tab_set (g := lmid L ys (n - 1 - i) (j + 1) (L (n - 1 - i + ys.length - 1) / co ys (ys.length - 1))) (by omega) (lmid_succ _ _ _ _ _) (fun k hk => lmid_ne _ _ _ _ _ k hk)]
      exact hK2 _ ⟨hj2, _, _, rfl⟩
    · rintro s ⟨_, b, c, rfl⟩
      rw [numbered_rlen, tab_congr (g := dstep L (co ys) (n - 1 - i) (n - 1 - i + ys.length - 1) (co ys (ys.length - 1))) fun k _ => lmid_end L ys (n - 1 - i) _ k _]
      exact hK _ ⟨hi2, _, _, _, _, _, rfl, I.step hq hne ht hy hi2 (sC.mono (by omega))⟩
    · rw [tab_congr (g := L) fun k _ => lmid_zero L ys _ _ k]
  · rintro s ⟨_, L, F, a, b, c, rfl, I⟩
    rw [intsBy_len] at I
    walk_at "dx"
    refine trimmed_i (.inr (.inr rfl)) ?_
    rw [kp_d]
    refine trimmed_i (.inr (.inr rfl)) ?_
    rw [kp_d]
    have hR : ∀ k, co (trim (tab xs.length L)) k = L k := fun k => by
      rw [co_trim]
      exact tab_co' fun k hk => I.zero k hk
    refine q _ _ (by rw [← hq] at *; exact Nat.le_trans (trim_length _) (by rw [tab_len]; exact Nat.le_refl _)) ?_ (trim_trimd _) (trim_trimd _) (fun m => ?_) (fun m => ?_) ?_
    · have := trimd_len (m := ys.length - 1) (trim_trimd (tab xs.length L)) fun k hk => by rw [hR]; exact I.top k (by omega)
      omega
    · rw [hR, I.eq m, mu_co_comm, mu_co_comm (trim _)]
      congr 2
      funext t
      exact (co_trim _ t).symm
    · rw [co_trim]
      by_cases hm : m < n
      · rw [tab_co hm]
        exact I.ssm m
      · rw [tab_zero (by omega)]
        exact sm0 (by decide)
    · exact I.rb.congr fun k => (hR k).symm
theorem pr_quotient_of : Pr dt_quotient_of 2 2 sp_quotient_of := by
  rintro rs w k - ⟨xs, ys, b1, b2, rfl, h, q⟩
  show dt_quotient_of _ ⟨[some (.d (row xs)), some (.d (row ys))], w⟩
  unfold dt_quotient_of
  walk_at "dx"
  refine ⟨xs, ys, b1, b2, rfl, h, fun Q R h1 h2 h3 h4 h5 h6 _ => ?_⟩
  walk_at "dx"
  exact q Q R h1 h2 h3 h4 h5 h6
end DL
namespace DL
open PySem PySem.Spec PyProof.Rows L2
local macro_rules | `(tactic| walk_at "dx") => `(tactic| simp -implicitDefEqProofs only [wl_eq, var_eq, vq_d, vq_l, vq_a, vq_w, c_eq, op_eq_, un_eq_, fI_eq, fI0_eq, fU_eq, f1I_eq, f2I_eq, fIx_t0, fIx_t1, fIx_fr0, fIx_fr1, daNil_eq, daCons_eq, argOf_d, argOf_l, argOf_a, argOf_p, argOf_w, ddNil_eq, ddCons_eq, kp_d, kp_l, call1_eq, call2_eq, call3_eq, cB_eq,
  tup_eq, lst_eq, small0, small1, small2, small3, small4, small6, small7, seq_eq, next_eq, never_eq, ret_eq, retk_d, retk_l, retV_eq, set_eq, par_eq, sto_d, sto_l, sto_a, asg_eq, tgN_eq, tgTup2_eq, ifS_eq, ifx_eq, tst_eq, tru_eq, andT_eq, orT_eq, notT_eq, andV_eq, orV_eq, notV_eq, drop_eq, isN_eq, sp2_eq,
  for_eq, diSeq_eq, diRng1_eq, diRng2_eq, diRevR_eq, diRev_eq, diZip_eq, revL_eq, lsQ_dl, lsQ_a, lsQ_l, lsQ_p, revT_eq, tpQ_t, tpQ_row, sl_eq, doNone_eq, doSome_eq, fSl_t, fSl_dl, fSl_a, fSl_l, fSl_p, fz_own, diEnumT_eq2, enQ_row, fRep_l, fCat_ll, fCat_lp, asInt_eq, stay_dl, stay_dt, stay_l, stay_a, stayL_dl, stayL_l, stayL_a, comp_eq, yes_eq, isI_eq, isQ_ii, isQ_ib, isQ_tt, isQ_row, fTuple_dl, fTuple_dt, fTuple_a, fList_row, fTuple_row, fList_dl, fList_dt, fList_a, fLen_row, fLen_lr, fLen_ar, fLen_dl, fLen_dt, fLen_a, wipeD,
  sp_plus, sp_minus, sp_times, sp_over, sp__law_plus, sp__law_minus, sp__law_prod, sp__law_per, fEq_ff, fNe_ff, fEq_i, fNe_i, fEq_rr, fNe_rr, fEq_r0, fNe_r0, fNe_pe, setIx_eq, own_eq, oq_l, append_eq, dZERO_eq, dONE_eq, dUNIT_eq, stay_row,
  List.getElem?_cons_zero, List.getElem?_cons_succ, List.set_cons_zero, List.set_cons_succ, if_true, Bool.false_eq_true, if_false, Bool.not_true, Bool.not_false])
section
variable {Q : Rv → W3 → Prop} {w : W3}
theorem first_i {xs : List Rat} {x : Rat} (hl : xs.length ≤ 1000) (h : (xs.filter fun y => !decide (y = 0)).head? = some x) (q : Q (.d (fr x)) w) : sp_first_of [.d (row xs)] w Q := ⟨xs, x, rfl, ⟨hl, h⟩, q⟩
end
theorem one_of {xs : List Rat} (hne : xs ≠ []) (ht : trimd xs) (hl : xs.length ≤ 1) : ∃ c, xs = [c] ∧ c ≠ 0 := by
  have : 0 < xs.length := List.length_pos_iff.mpr hne
  obtain ⟨c, rfl⟩ := List.length_eq_one_iff.mp (show xs.length = 1 by omega)
  refine ⟨c, rfl, ?_⟩
  rcases ht with h | ⟨x, h1, h2⟩
  · cases h
  · cases h1
    exact h2
theorem fIx_p1 {a b : PyData} {R : Rv → Prop} : fIx (.d (.tuple [a, b])) (.d (.int 1)) R = R (.d b) := fIx_t1
theorem pr_divisor_by : Pr dt_divisor_by 2 2 sp_divisor_by := by
  rintro rs w k - ⟨xs0, ys0, b1, b2, f, rfl, ⟨⟨hl, hm⟩, hne, htx, hty, hh, hx, hy, he⟩, q⟩
  show dt_divisor_by _ ⟨[some (.d (row xs0)), some (.d (row ys0))], w⟩
  unfold dt_divisor_by
  rw [seq_eq]
  refine ⟨fun m s => ∃ (xs ys : List Rat) (b1 b2 f : Nat), s = ⟨[some (.d (row xs)), some (.d (row ys))], w⟩ ∧ ys.length = m ∧ (xs.length ≤ 1000 ∧ ys.length ≤ 1000) ∧ xs ≠ [] ∧ trimd xs ∧ trimd ys ∧ (∀ g, IsG xs ys g → IsG xs0 ys0 g) ∧ RB b1 (co xs) ∧ RB b2 (co ys) ∧ eOk f xs.length ys.length b1 b2 = true,
    ⟨ys0.length, xs0, ys0, b1, b2, f, rfl, rfl, ⟨hl, hm⟩, hne, htx, hty, fun _ h => h, hx, hy, he⟩, ?_⟩
  rintro m s ⟨xs, ys, b1, b2, f, rfl, rfl, ⟨hl, hm⟩, hne, htx, hty, hc, hx, hy, he⟩
  walk_at "dx"
  by_cases hys : ys = []
  · subst hys
    rw [if_neg (by simp)]
    have G := hc xs (.base xs)
    have h0 : co xs 0 ≠ 0 := G.r.head hh
    have sc : sm 4000 (co xs 0) := (hx.sm 0).mono (eOk_b1 he)
    have sx : ∀ x ∈ xs, sm 4000 x := fun x hx2 => by
      obtain ⟨i, hi⟩ := List.getElem?_of_mem hx2
      rw [← co_lt hi]
      exact (hx.sm i).mono (eOk_b1 he)
    have fh : (xs.filter fun y => !decide (y = 0)).head? = some (co xs 0) := by
      cases xs with
      | nil => exact absurd rfl h0
      | cons x xs =>
        have hx : x ≠ 0 := h0
        rw [List.filter_cons_of_pos (by simpa using hx)]
        rfl
    refine first_i (x := co xs 0) hl fh ?_
    walk_at "dx"
    refine ⟨⟨sm1 (by decide), sc, h0⟩, ?_⟩
    have s1 : sm 4000 (1 / co xs 0) := by
      have h1 : (1 : Rat).num = 1 := rfl
      have h2 : (1 : Rat).den = 1 := rfl
      have hn : (co xs 0).num ≠ 0 := fun e => h0 (Rat.num_eq_zero.mp e)
      rw [← div_nd h0, h1, h2]
      refine sm.frac (by omega) ?_ ?_
      · rw [Int.one_mul]
        exact sc.d
      · rw [show ((1 : Nat) : Int) * (co xs 0).num = (co xs 0).num by omega]
        exact sc.1
    have hd : 1 / co xs 0 ≠ 0 := fun e => by
      have : 1 = 1 / co xs 0 * co xs 0 := by grind
      rw [e] at this
      grind
    refine scaled_i (by omega) s1 sx (q _ (trim_trimd _) ?_ (G.scaleG hd))
    rw [co_pscale]
    grind
  · rw [if_pos (by simpa using hys)]
    obtain ⟨f', h1, h2⟩ := eOk_step he (fun e => hys (List.eq_nil_of_length_eq_zero e))
    refine ⟨xs, ys, b1, b2, rfl, ⟨⟨hl, hm⟩, hys, hty, hx, hy, h1⟩, fun Q R l1 l2 t1 t2 e s1 rb => ?_⟩
    walk_at "dx"
    exact ⟨R.length, l2, ys, R, b2, _, f', rfl, rfl, ⟨hm, by omega⟩, hys, hty, t2, fun g h => hc g (h.step e), hy, rb, h2 _ l2⟩
theorem quotient_one {xs Q R : List Rat} (hx : trimd xs) (hQ : trimd Q) (hR : R.length < [(1 : Rat)].length) (e : ∀ n, co xs n = mu Q (co [1]) n + co R n) : Q = xs := by
  have : R = [] := List.eq_nil_of_length_eq_zero (by simpa using hR)
  subst this
  refine trimd_ext hQ hx fun n => ?_
  rw [e n, mu_one, co_ge (xs := []) (Nat.zero_le n)]
  grind
theorem quot_ex {xs g : List Rat} {b bg : Nat} {Q : Rv → W3 → Prop} {w : W3} (hl : xs.length ≤ 60) (hx : RB b (co xs)) (hg : RB bg (co g)) (gne : g ≠ []) (tg : trimd g) (lg : g.length ≤ 1000) (hb : b + 62 * (bg + 1) ≤ 4000) (hd : Dvd g xs)
    (q : ∀ t : List Rat, trimd t → (∀ n, co xs n = mu g (co t) n) → (∀ x ∈ t, sm 4000 x) → t.length ≤ 62 → Q (.d (row t)) w) : sp_quotient_of [.d (row xs), .d (row g)] w Q := by
  refine ⟨xs, g, b, bg, rfl, ⟨⟨by omega, lg⟩, gne, tg, hx, hg, ?_⟩, fun t R l1 l2 t1 t2 e s1 => q t t1 (part_exact hd tg t2 l2 e) (fun x hx => ?_) (by omega)⟩
  · have := List.length_pos_iff.mpr gne
    have : (xs.length + 1 - g.length + 1) * (bg + 1) ≤ 62 * (bg + 1) := Nat.mul_le_mul_right _ (by omega)
    omega
  · obtain ⟨i, hi⟩ := List.getElem?_of_mem hx
    rw [← co_lt hi]
    exact s1 i
theorem pr_normal_of : Pr dt_normal_of 4 2 sp_normal_of := by
  rintro rs w k - ⟨top, under, b1, b2, bg, f, rfl, N, q⟩
  show dt_normal_of _ ⟨[some (.d (row top)), some (.d (row under)), none, none], w⟩
  unfold dt_normal_of
  walk_at "dx"
  by_cases ht : top = []
  · rw [if_pos (by simpa using ht)]
    subst ht
    exact q [] [1] under ⟨.inl rfl, trimd_one, N.tu, N.one, rfl, fun n => by rw [show co [] = fun _ => (0 : Rat) from funext fun k => co_ge (Nat.zero_le _), mu_zero], fun n => by rw [mu_co_comm, mu_one_left], ⟨.nil _, .refl _, fun h _ b => b⟩, fun _ => ⟨rfl, rfl⟩⟩ (fun x h => by cases h) fun x h => by rw [List.mem_singleton.mp h]; exact sm1 (by decide)
  · rw [if_neg (by simpa using ht)]
    have := N.lt
    have := N.lu
    refine ⟨top, under, b1, b2, f, rfl, ⟨⟨by omega, by omega⟩, ht, N.tt, N.tu, by rw [N.one]; decide, N.r1, N.r2, N.he⟩, fun g tg g0 G => ?_⟩
    have gne : g ≠ [] := fun e => by rw [e] at g0; exact absurd g0 (by decide +kernel)
    have rg := N.hg g tg g0 G.l G.r
    have lg := G.r.len tg N.une N.tu
    walk_at "dx"
    refine quot_ex N.lt N.r1 rg gne tg (by omega) N.l1 G.l fun t tt et st lt => ?_
    walk_at "dx"
    refine quot_ex N.lu N.r2 rg gne tg (by omega) N.l2 G.r fun u tu eu su lu => ?_
    walk_at "dx"
    have hu0 : co u 0 = 1 := by
      have e := eu 0
      rw [N.one] at e
      cases g with
      | nil => exact absurd rfl gne
      | cons x gs =>
        have hx : x = 1 := g0
        have e2 : 1 = x * co u 0 + 0 := e
        rw [hx] at e2
        grind
    have hp : 0 < u.length := by
      cases u with
      | nil => exact absurd hu0 (by decide +kernel)
      | cons _ _ => exact Nat.succ_pos _
    rw [fIx_row (by decide) (co_some (by simpa using hp)), show co u (0 : Int).toNat = 1 from hu0]
    walk_at "dx"
    refine ⟨⟨sm1 (by decide), sm1 (by decide), by decide⟩, ?_⟩
    rw [show (1 : Rat) / 1 = 1 from by decide +kernel]
    refine scaled_i (by omega) (sm1 (by decide)) st ?_
    rw [kp_d]
    refine scaled_i (by omega) (sm1 (by decide)) su ?_
    rw [pscale_one tt, pscale_one tu]
    exact q t u g ⟨tt, tu, tg, g0, hu0, et, eu, G, fun e => absurd e ht⟩ st su
/-- of an answer: itself -/
theorem normal_i {top under : List Rat} (A : AnsOk top under) {Q : Rv → W3 → Prop} {w : W3} (q : Q (.d (.tuple [row top, row under])) w) : sp_normal_of [.d (row top), .d (row under)] w Q := by
  by_cases ht : top = []
  · have hu := A.nil ht
    subst ht
    subst hu
    refine ⟨[], [1], 1, 1, 1, 9, rfl, ⟨A.tt, A.tu, A.lt, A.lu, A.une, A.one, ⟨1, fun _ => 0, by decide, by decide, fun _ => (by decide : (0 : Int).natAbs < 2 ^ 1), fun k => by rw [co_ge (Nat.zero_le _)]; exact (by decide +kernel : (0 : Rat) = ((0 : Int) : Rat) / (((1 : Nat) : Int) : Rat))⟩, rb_one, by decide +kernel, fun g tg g0 a b => ?_, by decide, by decide⟩, fun t u g N _ _ => ?_⟩
    · rw [row_one tg g0 (b.len tg A.une A.tu)]
      exact rb_one
    · obtain ⟨rfl, rfl⟩ := N.nil rfl
      exact q
  · obtain ⟨b1, b2, f, N⟩ := A.nm ht
    refine ⟨top, under, b1, b2, 1, f, rfl, N, fun t u g M _ _ => ?_⟩
    obtain ⟨rfl, rfl⟩ := M.same (A.cop ht).1 A.tt A.tu
    exact q
theorem pair_shaped (xs ys : List Rat) : SeqAt.shaped (.tuple [row xs, row ys]) = true := by
  have h1 : (PyData.tuple [row xs, row ys]).canLay0 = true := by simp [PyData.canLay0, PyData.canLayAll0, row_lay]
  have h2 : (PyData.tuple [row xs, row ys]).depth ≤ 4 := by
    have := row_depth xs
    have := row_depth ys
    simp only [PyData.depth, PyData.depthAll]
    omega
  unfold SeqAt.shaped
  rw [h1]
  simp only [Bool.true_and, decide_eq_true_eq]
  omega
theorem pair_refl (xs ys : List Rat) : PyData.eqv (.tuple [row xs, row ys]) (.tuple [row xs, row ys]) = true := by
  simp [PyData.eqv, PyData.eqvAll, row_eqv]
theorem fEq_pair {xs ys : List Rat} {R : Rv → Prop} : fEq false (.d (.tuple [row xs, row ys])) (.d (.tuple [row xs, row ys])) R = R (.d (.bool true)) := by
  rw [fEq_of rfl rfl (pair_shaped xs ys) (pair_shaped xs ys), pair_refl]
  rfl
theorem pr_is_answer : Pr dt_is_answer 1 1 sp_is_answer := by
  rintro rs w k - ⟨top, under, rfl, A, q⟩
  show dt_is_answer _ ⟨[some (.d (.tuple [row top, row under]))], w⟩
  have := A.lt
  have := A.lu
  unfold dt_is_answer
  walk_at "dx"
  show if (!decide (((2 : Nat) : Int) = 2)) = true then _ else _
  rw [if_neg (by decide)]
  refine row_i (by omega) A.tt ?_
  walk_at "dx"
  refine ⟨under, rfl, ⟨by omega, A.tu, A.une, A.one⟩, ?_⟩
  walk_at "dx"
  refine normal_i A ?_
  show fEq false _ _ _
  rw [fEq_pair]
  exact q
theorem pr_check_answer : Pr dt_check_answer 1 1 sp_check_answer := by
  rintro rs w k - ⟨top, under, rfl, A, q⟩
  show dt_check_answer _ ⟨[some (.d (.tuple [row top, row under]))], w⟩
  unfold dt_check_answer
  walk_at "dx"
  refine ⟨top, under, rfl, A, ?_⟩
  walk_at "dx"
  exact q
theorem pr_check_many : Pr dt_check_many 1 1 sp_check_many := by
  rintro rs w k - ⟨a, rfl, ⟨h1, h2⟩, q⟩
  show dt_check_many _ ⟨[some (.d (.int a))], w⟩
  unfold dt_check_many
  walk_at "dx"
  refine ⟨a, 1, 1000000, rfl, ?_⟩
  walk_at "dx"
  rw [show decide (1 ≤ a ∧ a ≤ 1000000) = true from decide_eq_true ⟨h1, h2⟩]
  exact q
end DL
namespace DL
open PySem PySem.Spec PyProof.Rows L2
local macro_rules | `(tactic| walk_at "dx") => `(tactic| simp -implicitDefEqProofs only [wl_eq, var_eq, vq_d, vq_l, vq_a, vq_w, c_eq, op_eq_, un_eq_, fI_eq, fI0_eq, fU_eq, f1I_eq, f2I_eq, fIx_t0, fIx_t1, fIx_fr0, fIx_fr1, daNil_eq, daCons_eq, argOf_d, argOf_l, argOf_a, argOf_p, argOf_w, ddNil_eq, ddCons_eq, kp_d, kp_l, call1_eq, call2_eq, call3_eq, cB_eq,
  tup_eq, lst_eq, small0, small1, small2, small3, small4, small6, small7, seq_eq, next_eq, never_eq, ret_eq, retk_d, retk_l, retV_eq, set_eq, par_eq, sto_d, sto_l, sto_a, asg_eq, tgN_eq, tgTup2_eq, ifS_eq, ifx_eq, tst_eq, tru_eq, andT_eq, orT_eq, notT_eq, andV_eq, orV_eq, notV_eq, drop_eq, isN_eq, sp2_eq,
  for_eq, diSeq_eq, diRng1_eq, diRng2_eq, diRevR_eq, diRev_eq, diZip_eq, revL_eq, lsQ_dl, lsQ_a, lsQ_l, lsQ_p, revT_eq, tpQ_t, tpQ_row, sl_eq, doNone_eq, doSome_eq, fSl_t, fSl_dl, fSl_a, fSl_l, fSl_p, fz_own, diEnumT_eq2, enQ_row, fRep_l, fCat_ll, fCat_lp, asInt_eq, stay_dl, stay_dt, stay_l, stay_a, stayL_dl, stayL_l, stayL_a, comp_eq, yes_eq, isI_eq, isQ_ii, isQ_ib, isQ_tt, isQ_row, fTuple_dl, fTuple_dt, fTuple_a, fList_row, fTuple_row, fList_dl, fList_dt, fList_a, fLen_row, fLen_lr, fLen_ar, fLen_dl, fLen_dt, fLen_a, wipeD,
  sp_plus, sp_minus, sp_times, sp_over, sp__law_plus, sp__law_minus, sp__law_prod, sp__law_per, fEq_ff, fNe_ff, fEq_i, fNe_i, fEq_rr, fNe_rr, fEq_r0, fNe_r0, fNe_pe, setIx_eq, own_eq, oq_l, append_eq, dZERO_eq, dONE_eq, dUNIT_eq, stay_row,
  List.getElem?_cons_zero, List.getElem?_cons_succ, List.set_cons_zero, List.set_cons_succ, if_true, Bool.false_eq_true, if_false, Bool.not_true, Bool.not_false])
section
variable {Q : Rv → W3 → Prop} {w : W3}
theorem mult_i {xs ys : List Rat} (h : MulOk xs ys) (q : Q (.d (row (pmul xs ys))) w) : sp_multiplied [.d (row xs), .d (row ys)] w Q :=
  ⟨xs, ys, rfl, ⟨⟨by have := h.lx; omega, by have := h.ly; omega⟩, h.x, h.y, h.p, h.c⟩, q⟩
theorem sizes_i {xs : List Rat} (hl : xs.length ≤ 1000) (h : sumOk 4000 (xs.map rabs)) (q : Q (.d (fr (xs.map rabs).sum)) w) : sp_sizes_by [.d (row xs)] w Q := ⟨xs, rfl, ⟨hl, h⟩, q⟩
theorem less_i {xs ys : List Rat} (hl : xs.length ≤ 1000) (hm : ys.length ≤ 1000) (hx : ∀ i, sm 4000 (co xs i)) (hy : ∀ i, sm 4000 (co ys i)) (q : Q (.d (row (psub xs ys))) w) : sp_lessened [.d (row xs), .d (row ys)] w Q := ⟨xs, ys, rfl, ⟨⟨hl, hm⟩, hx, hy⟩, q⟩
theorem below_i {x y : Rat} (hx : sm 9000 x) (hy : sm 9000 y) (q : Q (.d (.bool (decide (x < y)))) w) : sp_is_below [.d (fr x), .d (fr y)] w Q := ⟨x, y, rfl, ⟨hx, hy⟩, q⟩
end
theorem pmul_len (xs ys : List Rat) : (pmul xs ys).length ≤ xs.length + ys.length := by
  have := trim_length ((List.range (xs.length + ys.length)).map (cv xs ys))
  rw [List.length_map, List.length_range] at this
  exact this
theorem psub_len (xs ys : List Rat) : (psub xs ys).length ≤ max xs.length ys.length := by
  have := trim_length ((List.range (max xs.length ys.length)).map fun i => co xs i - co ys i)
  rw [List.length_map, List.length_range] at this
  exact this
theorem co_one_sm (i : Nat) : sm 4000 (co [1] i) := by
  cases i with
  | zero => exact sm1 (by decide)
  | succ i => rw [co_ge (by simp)]; exact sm0 (by decide)
theorem one_add_ne {x : Rat} (h : 0 ≤ x) : 1 + x ≠ 0 := fun e => by grind
theorem one_sub_ne' {x : Rat} (h : x < 1) : 1 - x ≠ 0 := fun e => by grind
theorem pr_bounds_by : Pr dt_bounds_by 6 2 sp_bounds_by := by
  rintro rs w k - ⟨top, under, x, rfl, B, q⟩
  show dt_bounds_by _ ⟨[some (.d (.tuple [row top, row under])), some (.d (row x)), none, none, none, none], w⟩
  have h1 := pmul_len under x
  have h2 := pmul_len top x
  have h3 := psub_len [1] (pmul under x)
  have h4 := B.mu_.lx
  have h5 := B.mu_.ly
  have h6 := B.mt.lx
  have h7 : max [(1 : Rat)].length (pmul under x).length ≤ 801 := by show max 1 _ ≤ _; omega
  unfold dt_bounds_by
  walk_at "dx"
  refine mult_i B.mu_ ?_
  walk_at "dx"
  refine less_i (by decide) (by omega) co_one_sm B.e ?_
  refine sizes_i (by omega) B.s1 ?_
  walk_at "dx"
  refine below_i (x := share under x) (B.ss.mono (by decide)) (sm1 (by decide)) ?_
  by_cases hs : share under x < 1
  · rw [decide_eq_true hs]
    walk_at "dx"
    refine mult_i B.mt ?_
    refine sizes_i (by omega) B.s2 ?_
    walk_at "dx"
    refine ⟨⟨sm1 (by decide), B.ss.mono (by decide)⟩, ⟨B.su.mono (by decide), ((sm1 (b := 1) (by decide)).add B.ss).mono (by decide), one_add_ne (share_nn _ _)⟩, ⟨sm1 (by decide), B.ss.mono (by decide)⟩, ⟨B.su.mono (by decide), ((sm1 (b := 1) (by decide)).sub B.ss).mono (by decide), one_sub_ne' hs⟩, ?_⟩
    unfold bnds at q
    rw [if_pos hs] at q
    exact q
  · rw [decide_eq_false hs]
    walk_at "dx"
    unfold bnds at q
    rw [if_neg hs] at q
    exact q

theorem fNone {x : PyData} {R : Rv → Prop} : True := trivial
theorem pr_are_near : Pr dt_are_near 2 2 sp_are_near := by
  rintro rs w k - ⟨top, under, x, many, rfl, ⟨⟨h1, h2⟩, ss, su⟩, q1, q2⟩
  show dt_are_near _ ⟨[some (.d (bnds top under x)), some (.d (.int many))], w⟩
  unfold dt_are_near
  walk_at "dx"
  by_cases hs : share under x < 1
  · have eb : bnds top under x = .tuple [fr (loB top under x), fr (hiB top under x)] := by unfold bnds; rw [if_pos hs]
    rw [eb]
    have sl : sm 3970 (loB top under x) := (su.div ((sm1 (b := 1) (by decide)).add ss) (one_add_ne (share_nn _ _))).mono (by decide)
    have sh : sm 3970 (hiB top under x) := (su.div ((sm1 (b := 1) (by decide)).sub ss) (one_sub_ne' hs)).mono (by decide)
    show if (!false) = true then _ else _
    rw [if_pos (by decide)]
    walk_at "dx"
    rw [one_over (by omega)]
    have so : sm 9000 (1 / (many : Rat)) := by
      have : sm 20 ((1 : Int) / (many : Rat) : Rat) := sm.frac (a := 1) (b := many) (by omega) (by decide) (by omega)
      exact (show sm 20 (1 / (many : Rat)) from this).mono (by decide)
    refine ⟨⟨sh.mono (by decide), sl.mono (by decide)⟩, below_i so ((sh.sub sl).mono (by decide)) ?_⟩
    walk_at "dx"
    by_cases hn : 1 / (many : Rat) < hiB top under x - loB top under x
    · rw [decide_eq_true hn]
      exact q2 fun e => e.2 hn
    · rw [decide_eq_false hn]
      exact q1 ⟨hs, hn⟩
  · have eb : bnds top under x = .none := by unfold bnds; rw [if_neg hs]
    rw [eb]
    exact q2 fun e => hs e.1

theorem pr_bounding_by : Pr dt_bounding_by 4 2 sp_bounding_by := by
  rintro rs w k - ⟨top, under, many, J, rfl, ⟨hm, hne, hl, B⟩, q⟩
  show dt_bounding_by _ ⟨[some (.d (.tuple [row top, row under])), some (.d (.int many)), none, none], w⟩
  have J8 := B.J8
  unfold dt_bounding_by
  walk_at "dx"
  refine ⟨fun m s => ∃ t : Nat, s = ⟨[some (.d (.tuple [row top, row under])), some (.d (.int many)), some (.d (row (rwn under (2 ^ t)))), some (.d (.int ((2 ^ t : Nat) : Int)))], w⟩ ∧ t ≤ J ∧ m + t = J ∧ ∀ i, i < t → ¬ near top under (rwn under (2 ^ i)) many, ⟨J, 0, ?_, Nat.zero_le _, rfl, fun i h => by omega⟩, ?_⟩
  · rw [show (2 : Nat) ^ 0 = 1 from rfl, rwn_one]
    rfl
  · rintro m s ⟨t, rfl, ht, e, hno⟩
    have hp : 2 ^ t ≤ 2 ^ J := Nat.pow_le_pow_right (by decide) ht
    have hp8 : 2 ^ J ≤ 256 := Nat.pow_le_pow_right (by decide) J8
    have b := B.b _ hp
    walk_at "dx"
    refine ⟨top, under, _, rfl, b, ⟨top, under, _, many, rfl, ⟨hm, b.ss, b.su⟩, fun hn => ?_, fun hn => ?_⟩⟩
    · walk_at "dx"
      exact q t ht ⟨hn, hno⟩
    · walk_at "dx"
      have ht7 : t ≠ J := by
        intro e
        subst e
        exact hn B.near
      have hp2 : 2 ^ (t + 1) ≤ 2 ^ J := Nat.pow_le_pow_right (by decide) (show t + 1 ≤ J by omega)
      have e2 : (2 : Int) * ((2 ^ t : Nat) : Int) = ((2 ^ (t + 1) : Nat) : Int) := by
        rw [Nat.pow_succ]
        omega
      refine ⟨cmulW_of (a := 2) (b := 10) (by decide) (by rw [Int.natAbs_natCast]; exact Nat.lt_of_le_of_lt (Nat.le_trans hp hp8) (by decide)) (by decide), ?_⟩
      rw [e2]
      refine ⟨[1], under, ((2 ^ (t + 1) : Nat) : Int), rfl, ⟨Int.natCast_nonneg _, Int.ofNat_le.mpr (Nat.le_trans (Nat.le_trans hp2 hp8) (by decide)), hne, by omega, ?_⟩, ?_⟩
      · rw [Int.toNat_natCast]
        exact B.ser.le hp2
      · rw [Int.toNat_natCast]
        refine trimmed_i (.inr (.inl rfl)) ?_
        rw [sto_d]
        refine ⟨m - 1, by omega, t + 1, rfl, by omega, by omega, fun i hi => ?_⟩
        by_cases h : i < t
        · exact hno i h
        · rw [show i = t by omega]
          exact hn
theorem pr_worst_row : Pr dt_worst_row 2 2 sp_worst_row := by
  rintro rs w k - ⟨top, under, many, J, rfl, ⟨hm, A, hb, B⟩, q⟩
  show dt_worst_row _ ⟨[some (.d (.tuple [row top, row under])), some (.d (.int many))], w⟩
  have := A.lu
  unfold dt_worst_row
  walk_at "dx"
  refine ⟨top, under, rfl, A, ?_⟩
  walk_at "dx"
  refine ⟨many, rfl, hm, ?_⟩
  walk_at "dx"
  refine ⟨under, rfl, ⟨A.une, A.one, A.tu, this, hb⟩, ?_⟩
  walk_at "dx"
  exact ⟨top, under, many, J, rfl, ⟨hm, A.une, by omega, B⟩, q⟩
theorem pr_worst_near : Pr dt_worst_near 2 2 sp_worst_near := by
  rintro rs w k - ⟨top, under, many, J, rfl, h, q⟩
  show dt_worst_near _ ⟨[some (.d (.tuple [row top, row under])), some (.d (.int many))], w⟩
  unfold dt_worst_near
  walk_at "dx"
  refine ⟨top, under, many, J, rfl, h, fun i hi hn => ?_⟩
  walk_at "dx"
  have hb : bnds top under (rwn under (2 ^ i)) = .tuple [fr (loB top under (rwn under (2 ^ i))), fr (hiB top under (rwn under (2 ^ i)))] := by
    unfold bnds
    rw [if_pos hn.1.1]
  refine ⟨top, under, _, rfl, h.2.2.2.b _ (Nat.pow_le_pow_right (by decide) hi), ?_⟩
  rw [hb]
  exact q i hi hn
end DL
namespace DL
open PySem PySem.Spec PyProof.Rows L2
local macro_rules | `(tactic| walk_at "dx") => `(tactic| simp -implicitDefEqProofs only [wl_eq, var_eq, vq_d, vq_l, vq_a, vq_w, c_eq, op_eq_, un_eq_, fI_eq, fI0_eq, fU_eq, f1I_eq, f2I_eq, fIx_t0, fIx_t1, fIx_fr0, fIx_fr1, daNil_eq, daCons_eq, argOf_d, argOf_l, argOf_a, argOf_p, argOf_w, ddNil_eq, ddCons_eq, kp_d, kp_l, call1_eq, call2_eq, call3_eq, cB_eq,
  tup_eq, lst_eq, small0, small1, small2, small3, small4, small6, small7, seq_eq, next_eq, never_eq, ret_eq, retk_d, retk_l, retV_eq, set_eq, par_eq, sto_d, sto_l, sto_a, asg_eq, tgN_eq, tgTup2_eq, ifS_eq, ifx_eq, tst_eq, tru_eq, andT_eq, orT_eq, notT_eq, andV_eq, orV_eq, notV_eq, drop_eq, isN_eq, sp2_eq,
  for_eq, diSeq_eq, diRng1_eq, diRng2_eq, diRevR_eq, diRev_eq, diZip_eq, revL_eq, lsQ_dl, lsQ_a, lsQ_l, lsQ_p, revT_eq, tpQ_t, tpQ_row, sl_eq, doNone_eq, doSome_eq, fSl_t, fSl_dl, fSl_a, fSl_l, fSl_p, fz_own, diEnumT_eq2, enQ_row, fRep_l, fCat_ll, fCat_lp, asInt_eq, stay_dl, stay_dt, stay_l, stay_a, stayL_dl, stayL_l, stayL_a, comp_eq, yes_eq, isI_eq, isQ_ii, isQ_ib, isQ_tt, isQ_row, fTuple_dl, fTuple_dt, fTuple_a, fList_row, fTuple_row, fList_dl, fList_dt, fList_a, fLen_row, fLen_lr, fLen_ar, fLen_dl, fLen_dt, fLen_a, wipeD,
  sp_plus, sp_minus, sp_times, sp_over, sp__law_plus, sp__law_minus, sp__law_prod, sp__law_per, fEq_ff, fNe_ff, fEq_i, fNe_i, fEq_rr, fNe_rr, fEq_r0, fNe_r0, fNe_pe, setIx_eq, own_eq, oq_l, append_eq, dZERO_eq, dONE_eq, dUNIT_eq, stay_row,
  List.getElem?_cons_zero, List.getElem?_cons_succ, List.set_cons_zero, List.set_cons_succ, if_true, Bool.false_eq_true, if_false, Bool.not_true, Bool.not_false])
section
variable {Q : Rv → W3 → Prop} {w : W3}
theorem draw_i {t : Int} {n : Nat} (h0 : 0 < t) (h1 : t ≤ 1000) (hw : wok n w) (hn : n ≤ 100000) (q : ∀ r w2, 0 ≤ r → r < t → wok (n + 1) w2 → Q (.d (.int r)) w2) : sp__law_draw [.w, .d (.int t)] w Q := ⟨t, n, rfl, ⟨h0, h1, hw, hn⟩, q⟩
theorem pick_i {xs : List PyData} {n : Nat} (h0 : xs ≠ []) (h1 : xs.length ≤ 1000) (hw : wok n w) (hn : n ≤ 100000) (q : ∀ z w2, z ∈ xs → wok (n + 1) w2 → Q (.d z) w2) : sp__law_pick [.w, .d (.list xs)] w Q := ⟨xs, n, rfl, ⟨h0, h1, hw, hn⟩, q⟩
end
theorem isW_eq {l : List (Option Rv)} {w : W3} {i : Nat} {k : Prop} : isW ⟨l, w⟩ i k = (match l[i]? with
  | some (some .w) => k
  | _ => False) := rfl
theorem pr__law_draw : Pr dt__law_draw 4 2 sp__law_draw := by
  rintro rs w k - ⟨t, n, rfl, ⟨h0, h1, hw, hn⟩, q⟩
  show dt__law_draw _ ⟨[some .w, some (.d (.int t)), none, none], w⟩
  obtain ⟨a, b, c⟩ := w
  obtain ⟨g1, ⟨g2, g3⟩, g4, g5⟩ := hw
  have g1' : 0 ≤ a := g1
  have g2' : 0 ≤ b := g2
  have g3' : b < 2147483648 := g3
  have g4' : 0 ≤ c := g4
  have g5' : c ≤ (n : Int) := g5
  unfold dt__law_draw
  rw [seq_eq]
  show (if decide (0 < a) = true then _ else _)
  by_cases ha : 0 < a
  · refine ev_pos ha ?_
    rw [seq_eq]
    show CDivP a t ∧ _
    refine ⟨⟨h0, PyProof.noPylong_small (by omega)⟩, ?_⟩
    show k (.d (.int (a % t))) _
    exact q _ _ (Int.emod_nonneg _ (by omega)) (Int.emod_lt_of_pos _ h0) ⟨Int.ediv_nonneg g1' (by omega), ⟨g2', g3'⟩, g4', by show c ≤ ((n + 1 : Nat) : Int); omega⟩
  · refine ev_neg ha ?_
    show CMulW 10 (c + 1) ∧ (CMulW b (25013 + 10 * (c + 1)) ∧ CMulW 50021 (c + 1) ∧ ((0 : Int) < 2147483543 ∧ _))
    have m1 : CMulW 10 (c + 1) := cmulW_of (a := 5) (b := 20) (by decide) (by omega) (by decide)
    have m2 : CMulW b (25013 + 10 * (c + 1)) := cmulW_of (a := 32) (b := 30) (by omega) (by omega) (by decide)
    have m3 : CMulW 50021 (c + 1) := cmulW_of (a := 20) (b := 20) (by decide) (by omega) (by decide)
    refine ⟨m1, m2, m3, by decide, ?_⟩
    show CDivX _ 103 ∧ (0 < t ∧ k (.d (.int ((Int.fdiv _ 103) % t))) _)
    refine ⟨⟨by decide, by decide⟩, h0, ?_⟩
    exact q _ _ (Int.emod_nonneg _ (by omega)) (Int.emod_lt_of_pos _ h0) ⟨g1', ⟨Int.emod_nonneg _ (by decide), Int.lt_trans (Int.emod_lt_of_pos _ (show (0 : Int) < 2147483543 by decide)) (by decide)⟩, by show 0 ≤ c + 1; omega, by show c + 1 ≤ ((n + 1 : Nat) : Int); omega⟩
theorem pr__law_pick : Pr dt__law_pick 2 2 sp__law_pick := by
  rintro rs w k - ⟨xs, n, rfl, ⟨h0, h1, hw, hn⟩, q⟩
  show dt__law_pick _ ⟨[some .w, some (.d (.list xs))], w⟩
  have hp : 0 < xs.length := List.length_pos_iff.mpr h0
  unfold dt__law_pick
  walk_at "dx"
  refine draw_i (n := n) (by omega) (by omega) hw hn fun r w2 r0 r1 hw2 => ?_
  obtain ⟨z, hz⟩ : ∃ z, xs[r.toNat]? = some z := ⟨xs[r.toNat]'(by omega), List.getElem?_eq_getElem (by omega)⟩
  rw [fIx_int rfl r0 hz]
  exact q z w2 (List.mem_of_getElem? hz) hw2
end DL
namespace DL
open PySem PySem.Spec PyProof.Rows L2
local macro_rules | `(tactic| walk_at "dx") => `(tactic| simp -implicitDefEqProofs only [wl_eq, var_eq, vq_d, vq_l, vq_a, vq_w, c_eq, op_eq_, un_eq_, fI_eq, fI0_eq, fU_eq, f1I_eq, f2I_eq, fIx_t0, fIx_t1, fIx_fr0, fIx_fr1, daNil_eq, daCons_eq, argOf_d, argOf_l, argOf_a, argOf_p, argOf_w, ddNil_eq, ddCons_eq, kp_d, kp_l, call1_eq, call2_eq, call3_eq, cB_eq,
  tup_eq, lst_eq, small0, small1, small2, small3, small4, small6, small7, seq_eq, next_eq, never_eq, ret_eq, retk_d, retk_l, retV_eq, set_eq, par_eq, sto_d, sto_l, sto_a, asg_eq, tgN_eq, tgTup2_eq, ifS_eq, ifx_eq, tst_eq, tru_eq, andT_eq, orT_eq, notT_eq, andV_eq, orV_eq, notV_eq, drop_eq, isN_eq, sp2_eq,
  for_eq, diSeq_eq, diRng1_eq, diRng2_eq, diRevR_eq, diRev_eq, diZip_eq, revL_eq, lsQ_dl, lsQ_a, lsQ_l, lsQ_p, revT_eq, tpQ_t, tpQ_row, sl_eq, doNone_eq, doSome_eq, fSl_t, fSl_dl, fSl_a, fSl_l, fSl_p, fz_own, diEnumT_eq2, enQ_row, fRep_l, fCat_ll, fCat_lp, asInt_eq, stay_dl, stay_dt, stay_l, stay_a, stayL_dl, stayL_l, stayL_a, comp_eq, yes_eq, isI_eq, isQ_ii, isQ_ib, isQ_tt, isQ_row, fTuple_dl, fTuple_dt, fTuple_a, fList_row, fTuple_row, fList_dl, fList_dt, fList_a, fLen_row, fLen_lr, fLen_ar, fLen_dl, fLen_dt, fLen_a, wipeD,
  sp_plus, sp_minus, sp_times, sp_over, sp__law_plus, sp__law_minus, sp__law_prod, sp__law_per, fEq_ff, fNe_ff, fEq_i, fNe_i, fEq_rr, fNe_rr, fEq_r0, fNe_r0, fNe_pe, setIx_eq, own_eq, oq_l, append_eq, dZERO_eq, dONE_eq, dUNIT_eq, stay_row,
  List.getElem?_cons_zero, List.getElem?_cons_succ, List.set_cons_zero, List.set_cons_succ, if_true, Bool.false_eq_true, if_false, Bool.not_true, Bool.not_false])
section
variable {Q : Rv → W3 → Prop} {w : W3}
theorem any_i {n : Nat} (hw : wok n w) (hn : n ≤ 90000) (q : ∀ x w2, okN x → wok (n + 3) w2 → Q (.d (fr x)) w2) : sp__law_any [.w] w Q := ⟨n, rfl, ⟨hw, hn⟩, q⟩
theorem some_i {n : Nat} (hw : wok n w) (hn : n ≤ 90000) (q : ∀ x w2, okN x → x ≠ 0 → wok (n + 4) w2 → Q (.d (fr x)) w2) : sp__law_some [.w] w Q := ⟨n, rfl, ⟨hw, hn⟩, q⟩
end
theorem in6 {z : PyData} (h : z ∈ [PyData.int 3, .int 3, .int 3, .int 3, .int 8, .int 50]) : ∃ a : Int, z = .int a ∧ 0 ≤ a ∧ a ≤ 50 := by
  simp only [List.mem_cons, List.not_mem_nil, or_false] at h
  rcases h with rfl | rfl | rfl | rfl | rfl | rfl <;> exact ⟨_, rfl, by decide, by decide⟩
theorem in6b {z : PyData} (h : z ∈ [PyData.int 1, .int 2, .int 3, .int 3, .int 8, .int 50]) : ∃ a : Int, z = .int a ∧ 0 < a ∧ a ≤ 50 := by
  simp only [List.mem_cons, List.not_mem_nil, or_false] at h
  rcases h with rfl | rfl | rfl | rfl | rfl | rfl <;> exact ⟨_, rfl, by decide, by decide⟩
theorem in7 {z : PyData} (h : z ∈ [PyData.int 1, .int 1, .int 1, .int 2, .int 2, .int 3, .int 5]) : ∃ b : Int, z = .int b ∧ (b = 1 ∨ b = 2 ∨ b = 3 ∨ b = 5) := by
  simp only [List.mem_cons, List.not_mem_nil, or_false] at h
  rcases h with rfl | rfl | rfl | rfl | rfl | rfl | rfl <;> exact ⟨_, rfl, by decide⟩
theorem small_b {b : Int} (h : b = 1 ∨ b = 2 ∨ b = 3 ∨ b = 5) : b ≠ 0 ∧ b.natAbs < 2 ^ 9000 := by
  refine ⟨by omega, lt_two_pow_mono (a := 3) (by omega) (by decide)⟩
theorem pr__law_any : Pr dt__law_any 2 1 sp__law_any := by
  rintro rs w k - ⟨n, rfl, ⟨hw, hn⟩, q⟩
  show dt__law_any _ ⟨[some .w, none], w⟩
  unfold dt__law_any
  walk_at "dx"
  refine pick_i (n := n) (by simp) (by decide) hw (by omega) fun z w1 hz hw1 => ?_
  obtain ⟨a, rfl, a0, a1⟩ := in6 hz
  walk_at "dx"
  refine ⟨cmulW_of (a := 3) (b := 8) (by decide) (by omega) (by decide), ?_⟩
  refine draw_i (n := n + 1) (by omega) (by omega) hw1 (by omega) fun r w2 r0 r1 hw2 => ?_
  walk_at "dx"
  refine pick_i (n := n + 2) (by simp) (by decide) hw2 (by omega) fun z w3 hz hw3 => ?_
  obtain ⟨b, rfl, hb⟩ := in7 hz
  walk_at "dx"
  refine low_i (small_b hb).1 (small_b hb).2 ?_
  exact q _ w3 ⟨_, b, rfl, by omega, by omega, hb⟩ hw3
theorem frac_ne {a b : Int} (ha : a ≠ 0) (hb : b ≠ 0) : (a : Rat) / (b : Rat) ≠ 0 := by
  have h1 := rat_ne ha
  have h2 := rat_ne hb
  intro e
  apply h1
  have : (a : Rat) = (a : Rat) / (b : Rat) * b := by grind
  rw [this, e]
  grind
theorem pr__law_some : Pr dt__law_some 2 1 sp__law_some := by
  rintro rs w k - ⟨n, rfl, ⟨hw, hn⟩, q⟩
  show dt__law_some _ ⟨[some .w, none], w⟩
  unfold dt__law_some
  walk_at "dx"
  refine pick_i (n := n) (by simp) (by decide) hw (by omega) fun z w1 hz hw1 => ?_
  obtain ⟨a, rfl, a0, a1⟩ := in6b hz
  walk_at "dx"
  refine draw_i (n := n + 1) (by omega) (by omega) hw1 (by omega) fun r w2 r0 r1 hw2 => ?_
  walk_at "dx"
  refine draw_i (n := n + 2) (by omega) (by omega) hw2 (by omega) fun d w3 d0 d1 hw3 => ?_
  walk_at "dx"
  by_cases hd : d = 0
  · refine ev_pos hd ?_
    refine pick_i (n := n + 3) (by simp) (by decide) hw3 (by omega) fun z w4 hz hw4 => ?_
    obtain ⟨b, rfl, hb⟩ := in7 hz
    walk_at "dx"
    refine low_i (small_b hb).1 (small_b hb).2 ?_
    exact q _ w4 ⟨_, b, rfl, by omega, by omega, hb⟩ (frac_ne (by omega) (by omega)) hw4
  · refine ev_neg hd ?_
    refine pick_i (n := n + 3) (by simp) (by decide) hw3 (by omega) fun z w4 hz hw4 => ?_
    obtain ⟨b, rfl, hb⟩ := in7 hz
    walk_at "dx"
    refine low_i (small_b hb).1 (small_b hb).2 ?_
    exact q _ w4 ⟨_, b, rfl, by omega, by omega, hb⟩ (frac_ne (by omega) (by omega)) hw4
end DL
namespace DL
open PySem PySem.Spec PyProof.Rows L2
local macro_rules | `(tactic| walk_at "dx") => `(tactic| simp -implicitDefEqProofs only [wl_eq, var_eq, vq_d, vq_l, vq_a, vq_w, c_eq, op_eq_, un_eq_, fI_eq, fI0_eq, fU_eq, f1I_eq, f2I_eq, fIx_t0, fIx_t1, fIx_fr0, fIx_fr1, daNil_eq, daCons_eq, argOf_d, argOf_l, argOf_a, argOf_p, argOf_w, ddNil_eq, ddCons_eq, kp_d, kp_l, call1_eq, call2_eq, call3_eq, cB_eq,
  tup_eq, lst_eq, small0, small1, small2, small3, small4, small6, small7, seq_eq, next_eq, never_eq, ret_eq, retk_d, retk_l, retV_eq, set_eq, par_eq, sto_d, sto_l, sto_a, asg_eq, tgN_eq, tgTup2_eq, ifS_eq, ifx_eq, tst_eq, tru_eq, andT_eq, orT_eq, notT_eq, andV_eq, orV_eq, notV_eq, drop_eq, isN_eq, sp2_eq,
  for_eq, diSeq_eq, diRng1_eq, diRng2_eq, diRevR_eq, diRev_eq, diZip_eq, revL_eq, lsQ_dl, lsQ_a, lsQ_l, lsQ_p, revT_eq, tpQ_t, tpQ_row, sl_eq, doNone_eq, doSome_eq, fSl_t, fSl_dl, fSl_a, fSl_l, fSl_p, fz_own, diEnumT_eq2, enQ_row, fRep_l, fCat_ll, fCat_lp, asInt_eq, stay_dl, stay_dt, stay_l, stay_a, stayL_dl, stayL_l, stayL_a, comp_eq, yes_eq, isI_eq, isQ_ii, isQ_ib, isQ_tt, isQ_row, fTuple_dl, fTuple_dt, fTuple_a, fList_row, fTuple_row, fList_dl, fList_dt, fList_a, fLen_row, fLen_lr, fLen_ar, fLen_dl, fLen_dt, fLen_a, wipeD,
  sp_plus, sp_minus, sp_times, sp_over, sp__law_plus, sp__law_minus, sp__law_prod, sp__law_per, fEq_ff, fNe_ff, fEq_i, fNe_i, fEq_rr, fNe_rr, fEq_r0, fNe_r0, fNe_pe, setIx_eq, own_eq, oq_l, append_eq, dZERO_eq, dONE_eq, dUNIT_eq, stay_row,
  List.getElem?_cons_zero, List.getElem?_cons_succ, List.set_cons_zero, List.set_cons_succ, if_true, Bool.false_eq_true, if_false, Bool.not_true, Bool.not_false])
theorem rows_snoc {xs : List Rat} {x : Rat} : xs.map fr ++ [fr x] = (xs ++ [x]).map fr := by simp
theorem pr__law_row : Pr dt__law_row 4 2 sp__law_row := by
  rintro rs w k - ⟨m, n, rfl, ⟨h0, h1, hw, hn⟩, q⟩
  show dt__law_row _ ⟨[some .w, some (.d (.int m)), none, none], w⟩
  unfold dt__law_row
  walk_at "dx"
  refine draw_i (n := n) h0 (by omega) hw (by omega) fun r w1 r0 r1 hw1 => ?_
  walk_at "dx"
  refine ⟨cnt_of r0 (by omega), ?_⟩
  refine loopD_inv (fun i s => ∃ (xs : List Rat) (o : Option Rv) (w' : W3), s = ⟨[some .w, some (.d (.int m)), some (.l (xs.map fr)), o], w'⟩ ∧ xs.length = i ∧ i ≤ r.toNat ∧ (∀ x ∈ xs, okN x) ∧ wok (n + 1 + 3 * i) w') _ ?_ ?_ ⟨[], none, w1, rfl, rfl, Nat.zero_le _, fun _ h => (by cases h), hw1⟩
  · rintro i x s K hx ⟨xs, o, w', rfl, e, hi, hxs, hw'⟩ hK
    obtain ⟨hi2, rfl⟩ := rng_get hx
    walk_at "dx"
    refine ⟨by rw [List.length_map]; omega, ?_⟩
    refine any_i hw' (by omega) fun y w2 hy hw2 => ?_
    rw [kp_d, rows_snoc]
    refine hK _ ⟨xs ++ [y], _, w2, rfl, by rw [List.length_append, e]; rfl, hi2, fun z hz => ?_, hw2.mono (by omega)⟩
    rcases List.mem_append.mp hz with h | h
    · exact hxs z h
    · rw [List.mem_singleton.mp h]
      exact hy
  · rintro s ⟨xs, o, w', rfl, e, hi, hxs, hw'⟩
    rw [intsBy_len] at e
    walk_at "dx"
    refine ⟨by rw [List.length_map]; omega, ?_⟩
    refine some_i hw' (by rw [intsBy_len]; omega) fun y w2 hy hy0 hw2 => ?_
    rw [kp_d, rows_snoc]
    refine q (xs ++ [y]) w2 (fun z hz => ?_) (.inr ⟨y, by simp, hy0⟩) (by simp) ?_ (hw2.mono (by rw [intsBy_len]; omega))
    · rcases List.mem_append.mp hz with h | h
      · exact hxs z h
      · rw [List.mem_singleton.mp h]
        exact hy
    · rw [List.length_append, e]
      show ((r.toNat + 1 : Nat) : Int) ≤ m
      omega
theorem rabs_ne {x : Rat} (h : x ≠ 0) : rabs x ≠ 0 := by
  rcases rabs_num x with e | e <;> rw [e]
  · exact h
  · intro z
    apply h
    grind
theorem law_size_i {x : Rat} {Q : Rv → W3 → Prop} {w : W3} (q : Q (.d (fr (rabs x))) w) : sp__law_size [.d (fr x)] w Q := ⟨x, rfl, q⟩
theorem pr__law_factor : Pr dt__law_factor 1 1 sp__law_factor := by
  rintro rs w k - ⟨z, rfl, ⟨h0, hz⟩, q⟩
  show dt__law_factor _ ⟨[some (.d (fr z))], w⟩
  unfold dt__law_factor
  walk_at "dx"
  show sp2 _ _ [.d (fr (-1)), .d (fr z)] w _
  rw [sp2_eq]
  refine ⟨⟨⟨by decide, by decide⟩, hz, h0⟩, ?_⟩
  rw [kp_d]
  exact q
theorem okZ_abs {u t : Int} (hu : 1 ≤ u) (hu3 : u ≤ 3) (ht : 0 ≤ t) (ht3 : t ≤ 3) : okZ (rabs (((u + 1 + t : Int) : Rat) / (u : Rat))) ∧ okZ (rabs (((0 - (u + 1 + t) : Int) : Rat) / (u : Rat))) := by
  have hp : (0 : Rat) < (u : Rat) := by exact_mod_cast (show 0 < u by omega)
  have hq : (0 : Rat) < ((u + 1 + t : Int) : Rat) := by exact_mod_cast (show 0 < u + 1 + t by omega)
  have hd : (0 : Rat) < ((u + 1 + t : Int) : Rat) / (u : Rat) := by rw [Rat.div_def]; exact Rat.mul_pos hq (Rat.inv_pos.mpr hp)
  have e2 : ((0 - (u + 1 + t) : Int) : Rat) / (u : Rat) = -(((u + 1 + t : Int) : Rat) / (u : Rat)) := by
    rw [Int.zero_sub, Rat.intCast_neg]
    grind
  have base : okZ (((u + 1 + t : Int) : Rat) / (u : Rat)) := ⟨u, t, rfl, hu, hu3, ht, ht3⟩
  refine ⟨?_, ?_⟩
  · unfold rabs
    rw [if_neg (by grind)]
    exact base
  · rw [e2]
    unfold rabs
    rw [if_pos (by grind), Rat.neg_neg]
    exact base
theorem pr__law_beyond : Pr dt__law_beyond 3 1 sp__law_beyond := by
  rintro rs w k - ⟨n, rfl, ⟨hw, hn⟩, q⟩
  show dt__law_beyond _ ⟨[some .w, none, none], w⟩
  unfold dt__law_beyond
  walk_at "dx"
  refine draw_i (n := n) (by decide) (by decide) hw (by omega) fun u w1 u0 u1 hw1 => ?_
  walk_at "dx"
  refine draw_i (n := n + 1) (by decide) (by decide) hw1 (by omega) fun t w2 t0 t1 hw2 => ?_
  walk_at "dx"
  refine draw_i (n := n + 2) (by decide) (by decide) hw2 (by omega) fun d w3 d0 d1 hw3 => ?_
  walk_at "dx"
  have hb : (1 + u) ≠ 0 ∧ (1 + u).natAbs < 2 ^ 9000 := ⟨by omega, lt_two_pow_mono (a := 3) (by omega) (by decide)⟩
  obtain ⟨z1, z2⟩ := okZ_abs (u := 1 + u) (t := t) (by omega) (by omega) t0 (by omega)
  by_cases hd : d = 0
  · exact ev_pos hd (low_i hb.1 hb.2 (q _ w3 z1 hw3))
  · exact ev_neg hd (low_i hb.1 hb.2 (q _ w3 z2 hw3))
end DL
namespace DL
open PySem PySem.Spec PyProof.Rows L2
local macro_rules | `(tactic| walk_at "dx") => `(tactic| simp -implicitDefEqProofs only [wl_eq, var_eq, vq_d, vq_l, vq_a, vq_w, c_eq, op_eq_, un_eq_, fI_eq, fI0_eq, fU_eq, f1I_eq, f2I_eq, fIx_t0, fIx_t1, fIx_fr0, fIx_fr1, daNil_eq, daCons_eq, argOf_d, argOf_l, argOf_a, argOf_p, argOf_w, ddNil_eq, ddCons_eq, kp_d, kp_l, call1_eq, call2_eq, call3_eq, cB_eq,
  tup_eq, lst_eq, small0, small1, small2, small3, small4, small6, small7, seq_eq, next_eq, never_eq, ret_eq, retk_d, retk_l, retV_eq, set_eq, par_eq, sto_d, sto_l, sto_a, asg_eq, tgN_eq, tgTup2_eq, ifS_eq, ifx_eq, tst_eq, tru_eq, andT_eq, orT_eq, notT_eq, andV_eq, orV_eq, notV_eq, drop_eq, isN_eq, sp2_eq,
  for_eq, diSeq_eq, diRng1_eq, diRng2_eq, diRevR_eq, diRev_eq, diZip_eq, revL_eq, lsQ_dl, lsQ_a, lsQ_l, lsQ_p, revT_eq, tpQ_t, tpQ_row, sl_eq, doNone_eq, doSome_eq, fSl_t, fSl_dl, fSl_a, fSl_l, fSl_p, fz_own, diEnumT_eq2, enQ_row, fRep_l, fCat_ll, fCat_lp, asInt_eq, stay_dl, stay_dt, stay_l, stay_a, stayL_dl, stayL_l, stayL_a, comp_eq, yes_eq, isI_eq, isQ_ii, isQ_ib, isQ_tt, isQ_row, fTuple_dl, fTuple_dt, fTuple_a, fList_row, fTuple_row, fList_dl, fList_dt, fList_a, fLen_row, fLen_lr, fLen_ar, fLen_dl, fLen_dt, fLen_a, wipeD,
  sp_plus, sp_minus, sp_times, sp_over, sp__law_plus, sp__law_minus, sp__law_prod, sp__law_per, fEq_ff, fNe_ff, fEq_i, fNe_i, fEq_rr, fNe_rr, fEq_r0, fNe_r0, fNe_pe, setIx_eq, own_eq, oq_l, append_eq, dZERO_eq, dONE_eq, dUNIT_eq, stay_row,
  List.getElem?_cons_zero, List.getElem?_cons_succ, List.set_cons_zero, List.set_cons_succ, if_true, Bool.false_eq_true, if_false, Bool.not_true, Bool.not_false])
theorem t01 : PyData.tuple [.int 0, .int 1] = fr 0 := rfl
theorem t11 : PyData.tuple [.int 1, .int 1] = fr 1 := rfl
theorem pr__law_all : Pr dt__law_all 3 1 sp__law_all := by
  rintro rs w k - ⟨xs, rfl, ⟨h1, h2⟩, q⟩
  show dt__law_all _ ⟨[some (.d (.list (xs.map fr))), none, none], w⟩
  unfold dt__law_all
  walk_at "dx"
  rw [t01]
  refine loopD_inv (fun i s => i ≤ xs.length ∧ ∃ o, s = ⟨[some (.d (.list (xs.map fr))), some (.d (fr (xs.take i).sum)), o], w⟩) _ ?_ ?_ ⟨Nat.zero_le _, none, rfl⟩
  · rintro i x s K hx ⟨hi, o, rfl⟩ hK
    rw [List.getElem?_map] at hx
    obtain ⟨y, ey, rfl⟩ := Option.map_eq_some_iff.mp hx
    have hl : i < xs.length := (List.getElem?_eq_some_iff.mp ey).1
    walk_at "dx"
    refine ⟨⟨h2 i hi, h1 y (List.mem_of_getElem? ey)⟩, hK _ ⟨hl, some (.d (fr y)), by rw [take_succ_sum ey]⟩⟩
  · rintro s ⟨_, o, rfl⟩
    rw [List.length_map, List.take_length]
    exact q
theorem pr__law_sizes : Pr dt__law_sizes 2 1 sp__law_sizes := by
  rintro rs w k - ⟨r, xs, rfl, hr, ⟨hl, hs⟩, q⟩
  show dt__law_sizes _ ⟨[some r, none], w⟩
  rcases hr with rfl | rfl | rfl
  all_goals
    unfold dt__law_sizes
    walk_at "dx"
    refine ⟨by rw [List.length_map]; omega, comp_mapF fr (fun x => fr (rabs x)) xs [] (fun x hx K hK => ?_) ?_⟩
    · walk_at "dx"
      exact law_size_i hK
    · refine ⟨xs.map rabs, ?_, hs, q⟩
      rw [List.map_map]
      rfl
/-- cut to a place -/
theorem seq_len {r : Rv} {ys : List PyData} (h : isSeq r ys) {R : Rv → Prop} : fLen [r] R = R (.d (.int (ys.length : Int))) := by
  rcases h with rfl | rfl | rfl <;> rfl
theorem trim_take {xs : List Rat} {l : Nat} (hl : l < xs.length) (h : co xs l = 0) : trim (xs.take (l + 1)) = trim (xs.take l) := by
  rw [List.take_succ, co_some hl, h]
  exact trim_snoc0 _
theorem trim_takeNe {xs : List Rat} {l : Nat} (hl : l < xs.length) (h : co xs l ≠ 0) : trim (xs.take (l + 1)) = xs.take (l + 1) := by
  rw [List.take_succ, co_some hl]
  exact trim_snoc h
theorem num_zero (x : Rat) : decide (x.num = 0) = decide (x = 0) := by
  by_cases h : x = 0
  · subst h
    rfl
  · rw [decide_eq_false h, decide_eq_false fun e => h (Rat.num_eq_zero.mp e)]
theorem pr__law_cut : Pr dt__law_cut 3 1 sp__law_cut := by
  rintro rs w k - ⟨r, xs, rfl, hs, hl, q⟩
  show dt__law_cut _ ⟨[some r, none, none], w⟩
  have core : ∀ r' : Rv, (∀ i x, 0 ≤ i → xs[i.toNat]? = some x → ∀ R, fIx r' (.d (.int i)) R = R (.d (fr x))) → (∀ (l : Nat) (R : Rv → Prop), l ≤ xs.length → R (.d (row (xs.take l))) → fSl r' none (some (l : Int)) fun z => fTuple [argOf z] R) →
      (∀ (w2 : W3) (Q : Rv → W3 → Prop), vq (some (some r)) w2 Q = Q r' w2) → fLen [argOf r'] = (fun R => R (.d (.int (xs.length : Int)))) →
      dt__law_cut { nx := fun s => k (.d .none) s.w, rt := k } ⟨[some r, none, none], w⟩ := by
    intro r' hix hsl hv hlen
    unfold dt__law_cut
    walk_at "dx"
    rw [hv, hlen]
    walk_at "dx"
    rw [hv, hlen]
    walk_at "dx"
    refine ⟨cnt_of (by omega) (by omega), ?_⟩
    rw [Int.toNat_natCast]
    refine loopD_inv (fun i s => ∃ (l : Nat) (o : Option Rv), s = ⟨[some r, some (.d (.int (l : Int))), o], w⟩ ∧ l ≤ xs.length ∧ trim (xs.take l) = trim xs ∧ (l + i = xs.length ∨ trim (xs.take l) = xs.take l)) _ ?_ ?_ ⟨xs.length, none, rfl, Nat.le_refl _, by rw [List.take_length], .inl rfl⟩
    · rintro i x s K hx ⟨l, o, rfl, h1, h2, h3⟩ hK
      obtain ⟨hi2, rfl⟩ := rng_get hx
      walk_at "dx"
      by_cases h0 : 0 < (l : Int)
      · refine ev_pos h0 ?_
        obtain ⟨l', rfl⟩ : ∃ l', l = l' + 1 := ⟨l - 1, by omega⟩
        rw [hv]
        rw [hix _ _ (by omega) (by rw [show (((l' + 1 : Nat) : Int) - 1).toNat = l' by omega]; exact co_some (by omega))]
        walk_at "dx"
        rw [num_zero]
        by_cases hc : co xs l' = 0
        · refine ev_pos hc ?_
          refine hK _ ⟨l', some (.d (.int (i : Int))), ?_, by omega, by rw [← trim_take (by omega) hc]; exact h2, ?_⟩
          · rw [show ((l' + 1 : Nat) : Int) - 1 = (l' : Int) by omega]
          · rcases h3 with h3 | h3
            · left; omega
            · left
              exfalso
              have e1 : trim (xs.take (l' + 1)) = trim (xs.take l') := trim_take (by omega) hc
              have := trim_length (xs.take l')
              rw [← e1, h3, List.length_take, List.length_take] at this
              omega
        · refine ev_neg hc ?_
          exact hK _ ⟨l' + 1, _, rfl, h1, h2, .inr (trim_takeNe (by omega) hc)⟩
      · refine ev_neg h0 ?_
        have : l = 0 := by omega
        subst this
        exact hK _ ⟨0, _, rfl, h1, h2, .inr rfl⟩
    · rintro s ⟨l, o, rfl, h1, h2, h3⟩
      rw [intsBy_len] at h3
      have e : trim (xs.take l) = xs.take l := by
        rcases h3 with h3 | h3
        · have : l = 0 := by omega
          subst this
          rfl
        · exact h3
      walk_at "dx"
      rw [hv]
      refine hsl l _ h1 ?_
      walk_at "dx"
      rw [← e, h2]
      exact q
  have cutm : ∀ l, l ≤ xs.length → cutD (xs.map fr) none (some (l : Int)) = (xs.take l).map fr := fun l h => by
    rw [cut_to (by rw [List.length_map]; exact h), List.map_take]
  rcases hs with rfl | rfl | rfl
  · refine core (.d (.list (xs.map fr))) (fun i x h0 hx R => fIx_int rfl h0 (by rw [List.getElem?_map, hx]; rfl)) (fun l R hl q => ?_) (fun _ _ => rfl) (funext fun R => fLen_lr)
    rw [fSl_dl, cutm l hl]
    exact q
  · refine core (.d (row xs)) (fun i x h0 hx R => fIx_row h0 hx) (fun l R hl q => ?_) (fun _ _ => rfl) (funext fun R => fLen_row)
    show fTuple [argOf (.d (.tuple (cutD (xs.map fr) none (some (l : Int)))))] R
    rw [cutm l hl]
    exact q
  · refine core (.a (xs.map fr)) (fun i x h0 hx R => fIx_int rfl h0 (by rw [List.getElem?_map, hx]; rfl)) (fun l R hl q => ?_) (fun _ _ => rfl) (funext fun R => fLen_ar)
    rw [fSl_a, cutm l hl]
    exact q

theorem cut_i {r : Rv} {xs : List Rat} {Q : Rv → W3 → Prop} {w : W3} (h : isSeq r (xs.map fr)) (hl : xs.length ≤ 1000) (q : Q (.d (row (trim xs))) w) : sp__law_cut [r] w Q := ⟨r, xs, rfl, h, hl, q⟩
theorem pr__law_times : Pr dt__law_times 3 2 sp__law_times := by
  rintro rs w k - ⟨xs, a, rfl, ⟨hl, ha, hs⟩, q⟩
  show dt__law_times _ ⟨[some (.d (row xs)), some (.d (fr a)), none], w⟩
  unfold dt__law_times
  walk_at "dx"
  refine ⟨by rw [List.length_map]; omega, comp_mapF fr (fun x => fr (a * x)) xs [] (fun x hx K hK => ?_) ?_⟩
  · walk_at "dx"
    rw [Rat.mul_comm x a]
    exact ⟨⟨hs x hx, ha⟩, hK⟩
  · refine cut_i (xs := xs.map fun x => a * x) (.inl ?_) (by rw [List.length_map]; exact hl) q
    rw [List.map_map]
    rfl
theorem times_i {xs : List Rat} {a : Rat} {Q : Rv → W3 → Prop} {w : W3} (hl : xs.length ≤ 1000) (ha : sm 4000 a) (hs : ∀ x ∈ xs, sm 4000 x) (q : Q (.d (row (pscale a xs))) w) : sp__law_times [.d (row xs), .d (fr a)] w Q := ⟨xs, a, rfl, ⟨hl, ha, hs⟩, q⟩
theorem sgn_fr (i : Nat) : (if (i : Int) % 2 = 0 then PyData.tuple [.int 1, .int 1] else PyData.tuple [.int (-1), .int 1]) = fr (if i % 2 = 0 then 1 else -1) := by
  by_cases h : i % 2 = 0
  · rw [if_pos h, if_pos (by omega)]
    rfl
  · rw [if_neg h, if_neg (by omega)]
    rfl
end DL
namespace DL
open PySem PySem.Spec PyProof.Rows L2
local macro_rules | `(tactic| walk_at "dx") => `(tactic| simp -implicitDefEqProofs only [wl_eq, var_eq, vq_d, vq_l, vq_a, vq_w, c_eq, op_eq_, un_eq_, fI_eq, fI0_eq, fU_eq, f1I_eq, f2I_eq, fIx_t0, fIx_t1, fIx_fr0, fIx_fr1, daNil_eq, daCons_eq, argOf_d, argOf_l, argOf_a, argOf_p, argOf_w, ddNil_eq, ddCons_eq, kp_d, kp_l, call1_eq, call2_eq, call3_eq, cB_eq,
  tup_eq, lst_eq, small0, small1, small2, small3, small4, small6, small7, seq_eq, next_eq, never_eq, ret_eq, retk_d, retk_l, retV_eq, set_eq, par_eq, sto_d, sto_l, sto_a, asg_eq, tgN_eq, tgTup2_eq, ifS_eq, ifx_eq, tst_eq, tru_eq, andT_eq, orT_eq, notT_eq, andV_eq, orV_eq, notV_eq, drop_eq, isN_eq, sp2_eq,
  for_eq, diSeq_eq, diRng1_eq, diRng2_eq, diRevR_eq, diRev_eq, diZip_eq, revL_eq, lsQ_dl, lsQ_a, lsQ_l, lsQ_p, revT_eq, tpQ_t, tpQ_row, sl_eq, doNone_eq, doSome_eq, fSl_t, fSl_dl, fSl_a, fSl_l, fSl_p, fz_own, diEnumT_eq2, enQ_row, fRep_l, fCat_ll, fCat_lp, asInt_eq, stay_dl, stay_dt, stay_l, stay_a, stayL_dl, stayL_l, stayL_a, comp_eq, yes_eq, isI_eq, isQ_ii, isQ_ib, isQ_tt, isQ_row, fTuple_dl, fTuple_dt, fTuple_a, fList_row, fTuple_row, fList_dl, fList_dt, fList_a, fLen_row, fLen_lr, fLen_ar, fLen_dl, fLen_dt, fLen_a, wipeD,
  sp_plus, sp_minus, sp_times, sp_over, sp__law_plus, sp__law_minus, sp__law_prod, sp__law_per, fEq_ff, fNe_ff, fEq_i, fNe_i, fEq_rr, fNe_rr, fEq_r0, fNe_r0, fNe_pe, setIx_eq, own_eq, oq_l, append_eq, dZERO_eq, dONE_eq, dUNIT_eq, stay_row,
  List.getElem?_cons_zero, List.getElem?_cons_succ, List.set_cons_zero, List.set_cons_succ, if_true, Bool.false_eq_true, if_false, Bool.not_true, Bool.not_false])
theorem tab_last {n : Nat} {f : Sq} (h : 0 < n) : (tab n f).getLast? = some (f (n - 1)) := by
  rw [List.getLast?_eq_getElem?, tab_len]
  exact tab_get (by omega)
theorem tab_cons {n : Nat} {f : Sq} : f 0 :: tab n (fun j => f (j + 1)) = tab (n + 1) f := by
  unfold tab
  rw [List.range_succ_eq_map, List.map_cons, List.map_map]
  rfl
theorem pr__law_parted : Pr dt__law_parted 8 2 sp__law_parted := by
  rintro rs w k - ⟨xs, ys, b1, b2, rfl, ⟨⟨hl, hm⟩, hne, ht, hx, hy, hb⟩, q⟩
  show dt__law_parted _ ⟨[some (.d (row xs)), some (.d (row ys)), none, none, none, none, none, none], w⟩
  have hp : 0 < ys.length := List.length_pos_iff.mpr hne
  have hlast := trimd_last hne ht
  unfold dt__law_parted
  walk_at "dx"
  rw [show ((xs.length : Int) - (ys.length : Int) + 1).toNat = xs.length + 1 - ys.length by omega]
  generalize hq : xs.length + 1 - ys.length = n at *
  have hn : n ≤ 1001 := by omega
  refine ⟨⟨by omega, by omega⟩, ?_⟩
  refine loopD_inv (fun i s => i ≤ n ∧ ∃ (L F : Sq) (a b c : Option Rv), s = ⟨[some (.d (row xs)), some (.d (row ys)), some (.l ((tab (xs.length - i) L).map fr)), some (.l ((tab i fun j => F (n - i + j)).map fr)), a, b, c, none], w⟩ ∧ DivI xs ys b1 b2 n i L F) _ ?_ ?_ ⟨Nat.zero_le _, co xs, fun _ => 0, none, none, none, by rw [Nat.sub_zero, tab_self]; rfl, by have := DivI.start (ys := ys) (b2 := b2) hx; rw [hq] at this; exact this⟩
  · rintro i x s K hx1 ⟨hi, L, F, a, b, c, rfl, I⟩ hK
    obtain ⟨hi2, rfl⟩ := rng_get hx1
    have hbi := mul_le1 (c := b2) hi2
    rw [Nat.add_mul] at hb
    have sL : ∀ t, sm (b1 + i * (b2 + 1)) (L t) := fun t => I.rb.sm t
    have sY : ∀ t, sm b2 (co ys t) := fun t => hy.sm t
    have sC := (sL (n - 1 - i + ys.length - 1)).div (sY (ys.length - 1)) hlast
    have et : xs.length - i - 1 = n - 1 - i + ys.length - 1 := by omega
    walk_at "dx"
    rw [show (-1 : Int) = -1 from rfl, fIx_prL (tab_last (by omega)), et]
    walk_at "dx"
    rw [fIx_rowL (last_co hne)]
    walk_at "dx"
    refine ⟨⟨(sL _).mono (by omega), (sY _).mono (by omega), hlast⟩, ?_⟩
    simp only [List.length_map, tab_len]
    refine ⟨by show 1 + i ≤ 16000000; omega, cnt_of (by omega) (by omega), by rw [intsBy_len]; omega, ?_⟩
    rw [show (((xs.length - i : Nat) : Int) - 1).toNat = xs.length - (i + 1) by omega]
    refine comp_rng (fun k => fr (dstep L (co ys) (n - 1 - i) (n - 1 - i + ys.length - 1) (co ys (ys.length - 1)) k)) (fun k hk K2 hK2 => ?_) ?_
    · walk_at "dx"
      unfold dstep at hK2
      by_cases hg : (((xs.length - i : Nat) : Int) - (ys.length : Int)) ≤ (k : Int)
      · refine ev_pos hg ?_
        rw [if_pos (by omega)] at hK2
        rw [fIx_pr (by omega) (by rw [Int.toNat_natCast]; exact tab_get (by omega))]
        walk_at "dx"
        have e3 : ((k : Int) - (((xs.length - i : Nat) : Int) - (ys.length : Int))).toNat = k - (n - 1 - i) := by omega
        rw [fIx_row (by omega) (by rw [e3]; exact co_some (by omega))]
        walk_at "dx"
        exact ⟨⟨sC.mono (by omega), (sY _).mono (by omega)⟩, ⟨(sL _).mono (by omega), (sC.mul (sY _)).mono (by omega)⟩, hK2⟩
      · refine ev_neg hg ?_
        rw [if_neg (by omega)] at hK2
        rw [fIx_pr (by omega) (by rw [Int.toNat_natCast]; exact tab_get (by omega))]
        walk_at "dx"
        rw [show L k - 0 = L k by grind] at hK2
        exact hK2
    · have e1 : [fr (L (n - 1 - i + ys.length - 1) / co ys (ys.length - 1))] ++ (tab i fun j => F (n - i + j)).map fr = (tab (i + 1) fun j => putAt F (n - 1 - i) (L (n - 1 - i + ys.length - 1) / co ys (ys.length - 1)) (n - (i + 1) + j)).map fr := by
        rw [← tab_cons]
        show fr _ :: _ = fr _ :: _
        congr 1
        · unfold putAt
          rw [if_pos (by omega)]
        · show List.map fr (tab i fun j => F (n - i + j)) = _
          refine congrArg (List.map fr) (tab_congr fun j _ => ?_)
          unfold putAt
          rw [if_neg (by omega)]
          congr 1
          omega
      have e2 : (List.range (xs.length - (i + 1))).map (fun k => fr (dstep L (co ys) (n - 1 - i) (n - 1 - i + ys.length - 1) (co ys (ys.length - 1)) k)) = (tab (xs.length - (i + 1)) (dstep L (co ys) (n - 1 - i) (n - 1 - i + ys.length - 1) (co ys (ys.length - 1)))).map fr := by
        unfold tab
        rw [List.map_map]
        rfl
      rw [e1, e2]
      exact hK _ ⟨hi2, dstep L (co ys) (n - 1 - i) (n - 1 - i + ys.length - 1) (co ys (ys.length - 1)), putAt F (n - 1 - i) (L (n - 1 - i + ys.length - 1) / co ys (ys.length - 1)), _, _, _, rfl, I.step hq hne ht hy hi2 (sC.mono (by omega))⟩
  · rintro s ⟨_, L, F, a, b, c, rfl, I⟩
    rw [intsBy_len] at *
    have ef : (tab n fun j => F (n - n + j)) = tab n F := tab_congr fun k _ => by rw [Nat.sub_self, Nat.zero_add]
    rw [ef]
    walk_at "dx"
    refine cut_i (.inr (.inr rfl)) (by rw [tab_len]; omega) ?_
    rw [kp_d]
    refine cut_i (.inr (.inr rfl)) (by rw [tab_len]; omega) ?_
    rw [kp_d]
    have hR : ∀ k, co (trim (tab (xs.length - n) L)) k = L k := fun k => by
      rw [co_trim]
      exact tab_co' fun k hk => by
        by_cases h : n = 0
        · exact I.zero k (by omega)
        · exact I.top k (by omega)
    refine q _ _ (by rw [← hq] at *; exact Nat.le_trans (trim_length _) (by rw [tab_len]; exact Nat.le_refl _)) ?_ (trim_trimd _) (trim_trimd _) (fun m => ?_) (fun m => ?_) ?_
    · have := trimd_len (m := ys.length - 1) (trim_trimd (tab (xs.length - n) L)) fun k hk => by rw [hR]; exact I.top k (by omega)
      omega
    · rw [hR, I.eq m, mu_co_comm, mu_co_comm (trim _)]
      congr 2
      funext t
      exact (co_trim _ t).symm
    · rw [co_trim]
      by_cases hm : m < n
      · rw [tab_co hm]
        exact I.ssm m
      · rw [tab_zero (by omega)]
        exact sm0 (by decide)
    · exact I.rb.congr fun k => (hR k).symm
end DL
namespace DL
open PySem PySem.Spec PyProof.Rows L2
local macro_rules | `(tactic| walk_at "dx") => `(tactic| simp -implicitDefEqProofs only [wl_eq, var_eq, vq_d, vq_l, vq_a, vq_w, c_eq, op_eq_, un_eq_, fI_eq, fI0_eq, fU_eq, f1I_eq, f2I_eq, fIx_t0, fIx_t1, fIx_fr0, fIx_fr1, daNil_eq, daCons_eq, argOf_d, argOf_l, argOf_a, argOf_p, argOf_w, ddNil_eq, ddCons_eq, kp_d, kp_l, call1_eq, call2_eq, call3_eq, cB_eq,
  tup_eq, lst_eq, small0, small1, small2, small3, small4, small6, small7, seq_eq, next_eq, never_eq, ret_eq, retk_d, retk_l, retV_eq, set_eq, par_eq, sto_d, sto_l, sto_a, asg_eq, tgN_eq, tgTup2_eq, ifS_eq, ifx_eq, tst_eq, tru_eq, andT_eq, orT_eq, notT_eq, andV_eq, orV_eq, notV_eq, drop_eq, isN_eq, sp2_eq,
  for_eq, diSeq_eq, diRng1_eq, diRng2_eq, diRevR_eq, diRev_eq, diZip_eq, revL_eq, lsQ_dl, lsQ_a, lsQ_l, lsQ_p, revT_eq, tpQ_t, tpQ_row, sl_eq, doNone_eq, doSome_eq, fSl_t, fSl_dl, fSl_a, fSl_l, fSl_p, fz_own, diEnumT_eq2, enQ_row, fRep_l, fCat_ll, fCat_lp, asInt_eq, stay_dl, stay_dt, stay_l, stay_a, stayL_dl, stayL_l, stayL_a, comp_eq, yes_eq, isI_eq, isQ_ii, isQ_ib, isQ_tt, isQ_row, fTuple_dl, fTuple_dt, fTuple_a, fList_row, fTuple_row, fList_dl, fList_dt, fList_a, fLen_row, fLen_lr, fLen_ar, fLen_dl, fLen_dt, fLen_a, wipeD,
  sp_plus, sp_minus, sp_times, sp_over, sp__law_plus, sp__law_minus, sp__law_prod, sp__law_per, fEq_ff, fNe_ff, fEq_i, fNe_i, fEq_rr, fNe_rr, fEq_r0, fNe_r0, fNe_pe, setIx_eq, own_eq, oq_l, append_eq, dZERO_eq, dONE_eq, dUNIT_eq, stay_row,
  List.getElem?_cons_zero, List.getElem?_cons_succ, List.set_cons_zero, List.set_cons_succ, if_true, Bool.false_eq_true, if_false, Bool.not_true, Bool.not_false])
theorem sm_inv {c : Rat} (sc : sm 4000 c) (hc0 : c ≠ 0) : sm 4000 (1 / c) := by
  have h1 : (1 : Rat).num = 1 := rfl
  have h2 : (1 : Rat).den = 1 := rfl
  have hn : c.num ≠ 0 := fun e => hc0 (Rat.num_eq_zero.mp e)
  rw [← div_nd hc0, h1, h2]
  refine sm.frac (by omega) ?_ ?_
  · rw [Int.one_mul]
    exact sc.d
  · rw [show ((1 : Nat) : Int) * c.num = c.num by omega]
    exact sc.1
theorem filter_head0 {xs : List Rat} (h : co xs 0 ≠ 0) : (xs.filter fun y => !decide (y = 0)).head? = some (co xs 0) := by
  cases xs with
  | nil => exact absurd rfl h
  | cons x xs =>
    have hx : x ≠ 0 := h
    rw [List.filter_cons_of_pos (by simpa using hx)]
    rfl
theorem pr__law_lowest_one : Pr dt__law_lowest_one 3 1 sp__law_lowest_one := by
  rintro rs w k - ⟨xs, rfl, ⟨hl, hc, sx⟩, q⟩
  show dt__law_lowest_one _ ⟨[some (.d (row xs)), none, none], w⟩
  have sc : sm 4000 (co xs 0) := by
    cases xs with
    | nil => exact absurd rfl hc
    | cons x xs => exact sx x List.mem_cons_self
  unfold dt__law_lowest_one
  walk_at "dx"
  refine ⟨by rw [List.length_map]; omega, comp_filF fr fr (fun y => !decide (y = 0)) xs [] (fun x hx K1 K0 h1 h0 => ?_) ?_⟩
  · walk_at "dx"
    rw [num_zero]
    by_cases e : x = 0
    · rw [if_neg (by simp [e])]
      exact h0 (by simp [e])
    · rw [if_pos (by simpa using e)]
      exact h1 (by simpa using e)
  · rw [List.nil_append, fIx_int (x := .p _) rfl (by decide) (filter_head (filter_head0 hc)), t11]
    walk_at "dx"
    exact ⟨⟨sm1 (by decide), sc, hc⟩, times_i (by omega) (sm_inv sc hc) sx q⟩
end DL
namespace DL
open PySem PySem.Spec PyProof.Rows L2
local macro_rules | `(tactic| walk_at "dx") => `(tactic| simp -implicitDefEqProofs only [wl_eq, var_eq, vq_d, vq_l, vq_a, vq_w, c_eq, op_eq_, un_eq_, fI_eq, fI0_eq, fU_eq, f1I_eq, f2I_eq, fIx_t0, fIx_t1, fIx_fr0, fIx_fr1, daNil_eq, daCons_eq, argOf_d, argOf_l, argOf_a, argOf_p, argOf_w, ddNil_eq, ddCons_eq, kp_d, kp_l, call1_eq, call2_eq, call3_eq, cB_eq,
  tup_eq, lst_eq, small0, small1, small2, small3, small4, small6, small7, seq_eq, next_eq, never_eq, ret_eq, retk_d, retk_l, retV_eq, set_eq, par_eq, sto_d, sto_l, sto_a, asg_eq, tgN_eq, tgTup2_eq, ifS_eq, ifx_eq, tst_eq, tru_eq, andT_eq, orT_eq, notT_eq, andV_eq, orV_eq, notV_eq, drop_eq, isN_eq, sp2_eq,
  for_eq, diSeq_eq, diRng1_eq, diRng2_eq, diRevR_eq, diRev_eq, diZip_eq, revL_eq, lsQ_dl, lsQ_a, lsQ_l, lsQ_p, revT_eq, tpQ_t, tpQ_row, sl_eq, doNone_eq, doSome_eq, fSl_t, fSl_dl, fSl_a, fSl_l, fSl_p, fz_own, diEnumT_eq2, enQ_row, fRep_l, fCat_ll, fCat_lp, asInt_eq, stay_dl, stay_dt, stay_l, stay_a, stayL_dl, stayL_l, stayL_a, comp_eq, yes_eq, isI_eq, isQ_ii, isQ_ib, isQ_tt, isQ_row, fTuple_dl, fTuple_dt, fTuple_a, fList_row, fTuple_row, fList_dl, fList_dt, fList_a, fLen_row, fLen_lr, fLen_ar, fLen_dl, fLen_dt, fLen_a, wipeD,
  sp_plus, sp_minus, sp_times, sp_over, sp__law_plus, sp__law_minus, sp__law_prod, sp__law_per, fEq_ff, fNe_ff, fEq_i, fNe_i, fEq_rr, fNe_rr, fEq_r0, fNe_r0, fNe_pe, setIx_eq, own_eq, oq_l, append_eq, dZERO_eq, dONE_eq, dUNIT_eq, stay_row,
  List.getElem?_cons_zero, List.getElem?_cons_succ, List.set_cons_zero, List.set_cons_succ, if_true, Bool.false_eq_true, if_false, Bool.not_true, Bool.not_false])
theorem rb_monic {b u : Nat} {f : Sq} (h : RB b f) (hu : f u ≠ 0) : RB b (fun k => 1 / f u * f k) := by
  obtain ⟨D, a, h0, h1, h2, h3⟩ := h
  have hD : ((D : Int) : Rat) ≠ 0 := rat_ne (by omega)
  have ha : a u ≠ 0 := by
    intro e
    apply hu
    rw [h3 u, e]
    show (0 : Rat) / _ = 0
    grind
  have ha' : (a u : Rat) ≠ 0 := rat_ne ha
  have key : ∀ k, 1 / f u * f k = (a k : Rat) / (a u : Rat) := by
    intro k
    rw [h3 u, h3 k]
    grind
  by_cases hp : 0 < a u
  · refine ⟨(a u).natAbs, a, by omega, h2 u, h2, fun k => ?_⟩
    show 1 / f u * f k = _
    rw [key k, Int.natAbs_of_nonneg (by omega)]
  · refine ⟨(a u).natAbs, fun k => -(a k), by omega, h2 u, fun k => by rw [Int.natAbs_neg]; exact h2 k, fun k => ?_⟩
    show 1 / f u * f k = _
    rw [key k, show (((a u).natAbs : Nat) : Int) = -(a u) by omega, Rat.intCast_neg, Rat.intCast_neg]
    grind
theorem Cop.scale {xs ys : List Rat} {c : Rat} (hc : c ≠ 0) (h : Cop xs ys) : Cop xs (pscale c ys) := by
  intro g q1 q2 hg h1 h2
  refine h g q1 (pscale (1 / c) q2) hg h1 fun n => ?_
  have e : co (pscale (1 / c) q2) = fun n => 1 / c * co q2 n := by
    funext n
    exact co_pscale _ _ _
  rw [e, mu_smul]
  show co ys n = 1 / c * mu g (co q2) n
  rw [← h2 n, co_pscale]
  grind
theorem pscale_lenO {c : Rat} {xs : List Rat} (hc : c ≠ 0) (ht : trimd xs) : (pscale c xs).length = xs.length ∧ trimd (pscale c xs) := by
  have t := trim_trimd (xs.map fun x => c * x)
  refine ⟨?_, t⟩
  have l1 : (pscale c xs).length ≤ xs.length := by
    have := trim_length (xs.map fun x => c * x)
    rw [List.length_map] at this
    exact this
  have l2 : xs.length ≤ (pscale c xs).length := trimd_len ht fun k hk => by
    have := co_ge hk
    rw [co_pscale] at this
    rcases Rat.mul_eq_zero.mp this with h | h
    · exact absurd h hc
    · exact h
  omega
theorem rb_mem {b : Nat} {xs : List Rat} (h : RB b (co xs)) (hb : b ≤ 4000) {x : Rat} (hx : x ∈ xs) : sm 4000 x := by
  obtain ⟨i, hi⟩ := List.getElem?_of_mem hx
  rw [← co_lt hi]
  exact (h.sm i).mono hb
theorem one_div_ne {c : Rat} (h : c ≠ 0) : 1 / c ≠ 0 := by
  intro e
  have : 1 = 1 / c * c := by grind
  rw [e] at this
  grind
theorem pr__law_common : Pr dt__law_common 3 2 sp__law_common := by
  rintro rs w k - ⟨xs0, ys0, b1, b2, f, rfl, ⟨⟨hl, hm⟩, hne, htx, hty, hh, hx, hy, he⟩, q⟩
  show dt__law_common _ ⟨[some (.d (row xs0)), some (.d (row ys0)), none], w⟩
  unfold dt__law_common
  rw [seq_eq]
  refine ⟨fun m s => ∃ (xs ys : List Rat) (b1 b2 f : Nat) (o : Option Rv), s = ⟨[some (.d (row xs)), some (.d (row ys)), o], w⟩ ∧ ys.length = m ∧ (xs.length ≤ 1000 ∧ ys.length ≤ 1000) ∧ xs ≠ [] ∧ trimd xs ∧ trimd ys ∧ (∀ g, IsG xs ys g → IsG xs0 ys0 g) ∧ RB b1 (co xs) ∧ RB b2 (co ys) ∧ eOk f xs.length ys.length b1 b2 = true,
    ⟨ys0.length, xs0, ys0, b1, b2, f, none, rfl, rfl, ⟨hl, hm⟩, hne, htx, hty, fun _ h => h, hx, hy, he⟩, ?_⟩
  rintro m s ⟨xs, ys, b1, b2, f, o, rfl, rfl, ⟨hl, hm⟩, hne, htx, hty, hc, hx, hy, he⟩
  walk_at "dx"
  by_cases hys : ys = []
  · subst hys
    rw [if_neg (by simp)]
    have G := hc xs (.base xs)
    have h0 : co xs 0 ≠ 0 := G.r.head hh
    refine ⟨xs, rfl, ⟨hl, h0, fun x hx2 => rb_mem hx (eOk_b1 he) hx2⟩, q _ (trim_trimd _) ?_ (G.scaleG (one_div_ne h0))⟩
    rw [co_pscale]
    grind
  · rw [if_pos (by simpa using hys)]
    obtain ⟨f', h1, h2⟩ := eOk_step he (fun e => hys (List.eq_nil_of_length_eq_zero e))
    refine ⟨xs, ys, b1, b2, rfl, ⟨⟨hl, hm⟩, hys, hty, hx, hy, h1⟩, fun Q R l1 l2 t1 t2 e s1 rb => ?_⟩
    walk_at "dx"
    by_cases hR : R = []
    · subst hR
      rw [if_neg (by simp)]
      exact ⟨0, by have := List.length_pos_iff.mpr hys; omega, ys, [], b2, _, f', _, rfl, rfl, ⟨hm, by simp⟩, hys, hty, .inl rfl, fun g h => hc g (h.step e), hy, rb, h2 _ l2⟩
    · rw [if_pos (by simpa using hR)]
      have hlast := trimd_last hR t2
      have hb4 := eOk_b1 (h2 _ l2)
      have hr4 : b1 + (xs.length + 1 - ys.length) * (b2 + 1) ≤ 4000 := by
        rw [Nat.add_mul] at h1
        omega
      have sR : ∀ i, sm 4000 (co R i) := fun i => (rb.sm i).mono hr4
      rw [show (-1 : Int) = -1 from rfl, fIx_rowL (last_co hR), t11]
      walk_at "dx"
      refine ⟨⟨sm1 (by decide), sR _, hlast⟩, times_i (by omega) (sm_inv (sR _) hlast) (fun x hx => ?_) ?_⟩
      · obtain ⟨i, hi⟩ := List.getElem?_of_mem hx
        rw [← co_lt hi]
        exact sR i
      · obtain ⟨e1, e2⟩ := pscale_lenO (one_div_ne hlast) t2
        walk_at "dx"
        refine ⟨R.length, l2, ys, pscale (1 / co R (R.length - 1)) R, b2, _, f', _, rfl, e1, ⟨hm, by omega⟩, hys, hty, e2, fun g h => hc g ((h.scaleR (one_div_ne hlast)).step e), hy, (rb_monic rb hlast).congr fun k => (co_pscale _ _ _).symm, ?_⟩
        rw [e1]
        exact h2 _ l2
end DL
namespace DL
open PySem PySem.Spec PyProof.Rows L2
local macro_rules | `(tactic| walk_at "dx") => `(tactic| simp -implicitDefEqProofs only [wl_eq, var_eq, vq_d, vq_l, vq_a, vq_w, c_eq, op_eq_, un_eq_, fI_eq, fI0_eq, fU_eq, f1I_eq, f2I_eq, fIx_t0, fIx_t1, fIx_fr0, fIx_fr1, daNil_eq, daCons_eq, argOf_d, argOf_l, argOf_a, argOf_p, argOf_w, ddNil_eq, ddCons_eq, kp_d, kp_l, call1_eq, call2_eq, call3_eq, cB_eq,
  tup_eq, lst_eq, small0, small1, small2, small3, small4, small6, small7, seq_eq, next_eq, never_eq, ret_eq, retk_d, retk_l, retV_eq, set_eq, par_eq, sto_d, sto_l, sto_a, asg_eq, tgN_eq, tgTup2_eq, ifS_eq, ifx_eq, tst_eq, tru_eq, andT_eq, orT_eq, notT_eq, andV_eq, orV_eq, notV_eq, drop_eq, isN_eq, sp2_eq,
  for_eq, diSeq_eq, diRng1_eq, diRng2_eq, diRevR_eq, diRev_eq, diZip_eq, revL_eq, lsQ_dl, lsQ_a, lsQ_l, lsQ_p, revT_eq, tpQ_t, tpQ_row, sl_eq, doNone_eq, doSome_eq, fSl_t, fSl_dl, fSl_a, fSl_l, fSl_p, fz_own, diEnumT_eq2, enQ_row, fRep_l, fCat_ll, fCat_lp, asInt_eq, stay_dl, stay_dt, stay_l, stay_a, stayL_dl, stayL_l, stayL_a, comp_eq, yes_eq, isI_eq, isQ_ii, isQ_ib, isQ_tt, isQ_row, fTuple_dl, fTuple_dt, fTuple_a, fList_row, fTuple_row, fList_dl, fList_dt, fList_a, fLen_row, fLen_lr, fLen_ar, fLen_dl, fLen_dt, fLen_a, wipeD,
  sp_plus, sp_minus, sp_times, sp_over, sp__law_plus, sp__law_minus, sp__law_prod, sp__law_per, fEq_ff, fNe_ff, fEq_i, fNe_i, fEq_rr, fNe_rr, fEq_r0, fNe_r0, fNe_pe, setIx_eq, own_eq, oq_l, append_eq, dZERO_eq, dONE_eq, dUNIT_eq, stay_row,
  List.getElem?_cons_zero, List.getElem?_cons_succ, List.set_cons_zero, List.set_cons_succ, if_true, Bool.false_eq_true, if_false, Bool.not_true, Bool.not_false])
theorem lparted_ex {xs g : List Rat} {b bg : Nat} {Q : Rv → W3 → Prop} {w : W3} (hl : xs.length ≤ 60) (hx : RB b (co xs)) (hg : RB bg (co g)) (gne : g ≠ []) (tg : trimd g) (lg : g.length ≤ 1000) (hb : b + 62 * (bg + 1) ≤ 4000) (hd : Dvd g xs)
    (q : ∀ t R : List Rat, trimd t → (∀ n, co xs n = mu g (co t) n) → (∀ x ∈ t, sm 4000 x) → t.length ≤ 62 → Q (.d (.tuple [row t, row R])) w) : sp__law_parted [.d (row xs), .d (row g)] w Q := by
  refine ⟨xs, g, b, bg, rfl, ⟨⟨by omega, lg⟩, gne, tg, hx, hg, ?_⟩, fun t R l1 l2 t1 t2 e s1 _ => q t R t1 (part_exact hd tg t2 l2 e) (fun x hx => ?_) (by omega)⟩
  · have := List.length_pos_iff.mpr gne
    have : (xs.length + 1 - g.length + 1) * (bg + 1) ≤ 62 * (bg + 1) := Nat.mul_le_mul_right _ (by omega)
    omega
  · obtain ⟨i, hi⟩ := List.getElem?_of_mem hx
    rw [← co_lt hi]
    exact s1 i
theorem pr__law_answer : Pr dt__law_answer 4 2 sp__law_answer := by
  rintro rs w k - ⟨top, under, b1, b2, bg, f, rfl, N, q⟩
  show dt__law_answer _ ⟨[some (.d (row top)), some (.d (row under)), none, none], w⟩
  unfold dt__law_answer
  walk_at "dx"
  by_cases ht : top = []
  · rw [if_pos (by simpa using ht)]
    subst ht
    exact q [] [1] under ⟨.inl rfl, trimd_one, N.tu, N.one, rfl, fun n => by rw [show co [] = fun _ => (0 : Rat) from funext fun k => co_ge (Nat.zero_le _), mu_zero], fun n => by rw [mu_co_comm, mu_one_left], ⟨.nil _, .refl _, fun h _ b => b⟩, fun _ => ⟨rfl, rfl⟩⟩ (fun x h => by cases h) fun x h => by rw [List.mem_singleton.mp h]; exact sm1 (by decide)
  · rw [if_neg (by simpa using ht)]
    have := N.lt
    have := N.lu
    refine ⟨top, under, b1, b2, f, rfl, ⟨⟨by omega, by omega⟩, ht, N.tt, N.tu, by rw [N.one]; decide, N.r1, N.r2, N.he⟩, fun g tg g0 G => ?_⟩
    have gne : g ≠ [] := fun e => by rw [e] at g0; exact absurd g0 (by decide +kernel)
    have rg := N.hg g tg g0 G.l G.r
    have lg := G.r.len tg N.une N.tu
    walk_at "dx"
    refine lparted_ex N.lt N.r1 rg gne tg (by omega) N.l1 G.l fun t R tt et st lt => ?_
    walk_at "dx"
    refine lparted_ex N.lu N.r2 rg gne tg (by omega) N.l2 G.r fun u R2 tu eu su lu => ?_
    walk_at "dx"
    have hu0 : co u 0 = 1 := by
      have e := eu 0
      rw [N.one] at e
      cases g with
      | nil => exact absurd rfl gne
      | cons x gs =>
        have hx : x = 1 := g0
        have e2 : 1 = x * co u 0 + 0 := e
        rw [hx] at e2
        grind
    have hp : 0 < u.length := by
      cases u with
      | nil => exact absurd hu0 (by decide +kernel)
      | cons _ _ => exact Nat.succ_pos _
    rw [fIx_row (by decide) (co_some (by simpa using hp)), show co u (0 : Int).toNat = 1 from hu0, t11]
    walk_at "dx"
    refine ⟨⟨sm1 (by decide), sm1 (by decide), by decide⟩, ?_⟩
    rw [show (1 : Rat) / 1 = 1 from by decide +kernel]
    refine times_i (by omega) (sm1 (by decide)) st ?_
    rw [kp_d]
    refine times_i (by omega) (sm1 (by decide)) su ?_
    rw [pscale_one tt, pscale_one tu]
    exact q t u g ⟨tt, tu, tg, g0, hu0, et, eu, G, fun e => absurd e ht⟩ st su
end DL
namespace DL
open PySem PySem.Spec PyProof.Rows L2
local macro_rules | `(tactic| walk_at "dx") => `(tactic| simp -implicitDefEqProofs only [wl_eq, var_eq, vq_d, vq_l, vq_a, vq_w, c_eq, op_eq_, un_eq_, fI_eq, fI0_eq, fU_eq, f1I_eq, f2I_eq, fIx_t0, fIx_t1, fIx_fr0, fIx_fr1, daNil_eq, daCons_eq, argOf_d, argOf_l, argOf_a, argOf_p, argOf_w, ddNil_eq, ddCons_eq, kp_d, kp_l, call1_eq, call2_eq, call3_eq, cB_eq,
  tup_eq, lst_eq, small0, small1, small2, small3, small4, small6, small7, seq_eq, next_eq, never_eq, ret_eq, retk_d, retk_l, retV_eq, set_eq, par_eq, sto_d, sto_l, sto_a, asg_eq, tgN_eq, tgTup2_eq, ifS_eq, ifx_eq, tst_eq, tru_eq, andT_eq, orT_eq, notT_eq, andV_eq, orV_eq, notV_eq, drop_eq, isN_eq, sp2_eq,
  for_eq, diSeq_eq, diRng1_eq, diRng2_eq, diRevR_eq, diRev_eq, diZip_eq, revL_eq, lsQ_dl, lsQ_a, lsQ_l, lsQ_p, revT_eq, tpQ_t, tpQ_row, sl_eq, doNone_eq, doSome_eq, fSl_t, fSl_dl, fSl_a, fSl_l, fSl_p, fz_own, diEnumT_eq2, enQ_row, fRep_l, fCat_ll, fCat_lp, asInt_eq, stay_dl, stay_dt, stay_l, stay_a, stayL_dl, stayL_l, stayL_a, comp_eq, yes_eq, isI_eq, isQ_ii, isQ_ib, isQ_tt, isQ_row, fTuple_dl, fTuple_dt, fTuple_a, fList_row, fTuple_row, fList_dl, fList_dt, fList_a, fLen_row, fLen_lr, fLen_ar, fLen_dl, fLen_dt, fLen_a, wipeD,
  sp_plus, sp_minus, sp_times, sp_over, sp__law_plus, sp__law_minus, sp__law_prod, sp__law_per, fEq_ff, fNe_ff, fEq_i, fNe_i, fEq_rr, fNe_rr, fEq_r0, fNe_r0, fNe_pe, setIx_eq, own_eq, oq_l, append_eq, dZERO_eq, dONE_eq, dUNIT_eq, stay_row,
  List.getElem?_cons_zero, List.getElem?_cons_succ, List.set_cons_zero, List.set_cons_succ, if_true, Bool.false_eq_true, if_false, Bool.not_true, Bool.not_false])
theorem pr__law_ints : Pr dt__law_ints 3 1 sp__law_ints := by
  rintro rs w k - ⟨xs, rfl, ⟨hl, hs, hd⟩, q⟩
  show dt__law_ints _ ⟨[some (.d (row xs)), none, none], w⟩
  unfold dt__law_ints
  walk_at "dx"
  refine loopD_inv (fun i s => i ≤ xs.length ∧ ∃ o, s = ⟨[some (.d (row xs)), some (.d (.int (lcd (xs.take i) : Int))), o], w⟩) _ ?_ ?_ ⟨Nat.zero_le _, none, rfl⟩
  · rintro i x s K hx ⟨hi, o, rfl⟩ hK
    rw [List.getElem?_map] at hx
    obtain ⟨y, ey, rfl⟩ := Option.map_eq_some_iff.mp hx
    have hl2 : i < xs.length := (List.getElem?_eq_some_iff.mp ey).1
    have sy := hs y (List.mem_of_getElem? ey)
    have p1 := lcd_pos (xs.take i)
    have p2 := y.den_pos
    walk_at "dx"
    refine deep_i ?_
    rw [Int.natAbs_natCast, Int.natAbs_natCast]
    have hg : 0 < Nat.gcd (lcd (xs.take i)) y.den := Nat.gcd_pos_of_pos_right _ p2
    have hg2 : Nat.gcd (lcd (xs.take i)) y.den < 2 ^ 9000 := lt_two_pow_mono (Nat.lt_of_le_of_lt (Nat.gcd_le_right _ p2) sy.2) (by decide)
    show CDivX _ _ ∧ (CMulW _ _ ∧ _)
    refine ⟨cdX (by omega) (by rw [Int.natAbs_natCast]; exact hg2), cmulW_of (a := 4000) (b := 4000) (by rw [Int.natAbs_natCast]; exact hd i) (Nat.lt_of_le_of_lt (fdiv_le hg) sy.d) (by decide), ?_⟩
    show K ⟨[some (.d (row xs)), some (.d (.int ((lcd (xs.take i) : Int) * ((y.den : Int)).fdiv ((Nat.gcd (lcd (xs.take i)) y.den : Nat) : Int)))), some (.d (fr y))], w⟩
    rw [lcm_step p1 p2]
    exact hK _ ⟨hl2, some (.d (fr y)), by rw [lcd_take ey]⟩
  · rintro s ⟨_, o, rfl⟩
    rw [List.length_map, List.take_length]
    walk_at "dx"
    refine ⟨by rw [List.length_map]; omega, comp_mapF fr (fun x : Rat => PyData.int (x.num * ((lcd xs / x.den : Nat) : Int))) xs [] (fun x hx K hK => ?_) ?_⟩
    · walk_at "dx"
      have sx := hs x hx
      have hd4 := hd xs.length
      rw [List.take_length] at hd4
      rw [Int.fdiv_eq_ediv_of_nonneg _ (Int.natCast_nonneg _), ← Int.natCast_ediv]
      refine ⟨cdX (den_ne x) (by rw [den_abs]; exact lt_two_pow_mono sx.2 (by decide)), cmulW_of (a := 4000) (b := 4000) sx.1 (by rw [Int.natAbs_natCast]; exact Nat.lt_of_le_of_lt (Nat.div_le_self _ _) hd4) (by decide), hK⟩
    · rw [List.nil_append, show xs.map (fun x : Rat => PyData.int (x.num * ((lcd xs / x.den : Nat) : Int))) = (numz xs).map PyData.int from by unfold numz; rw [List.map_map]; rfl]
      exact q
end DL
namespace DL
open PySem PySem.Spec PyProof.Rows L2
local macro_rules | `(tactic| walk_at "dx") => `(tactic| simp -implicitDefEqProofs only [wl_eq, var_eq, vq_d, vq_l, vq_a, vq_w, c_eq, op_eq_, un_eq_, fI_eq, fI0_eq, fU_eq, f1I_eq, f2I_eq, fIx_t0, fIx_t1, fIx_fr0, fIx_fr1, daNil_eq, daCons_eq, argOf_d, argOf_l, argOf_a, argOf_p, argOf_w, ddNil_eq, ddCons_eq, kp_d, kp_l, call1_eq, call2_eq, call3_eq, cB_eq,
  tup_eq, lst_eq, small0, small1, small2, small3, small4, small6, small7, seq_eq, next_eq, never_eq, ret_eq, retk_d, retk_l, retV_eq, set_eq, par_eq, sto_d, sto_l, sto_a, asg_eq, tgN_eq, tgTup2_eq, ifS_eq, ifx_eq, tst_eq, tru_eq, andT_eq, orT_eq, notT_eq, andV_eq, orV_eq, notV_eq, drop_eq, isN_eq, sp2_eq,
  for_eq, diSeq_eq, diRng1_eq, diRng2_eq, diRevR_eq, diRev_eq, diZip_eq, revL_eq, lsQ_dl, lsQ_a, lsQ_l, lsQ_p, revT_eq, tpQ_t, tpQ_row, sl_eq, doNone_eq, doSome_eq, fSl_t, fSl_dl, fSl_a, fSl_l, fSl_p, fz_own, diEnumT_eq2, enQ_row, fRep_l, fCat_ll, fCat_lp, asInt_eq, stay_dl, stay_dt, stay_l, stay_a, stayL_dl, stayL_l, stayL_a, comp_eq, yes_eq, isI_eq, isQ_ii, isQ_ib, isQ_tt, isQ_row, fTuple_dl, fTuple_dt, fTuple_a, fList_row, fTuple_row, fList_dl, fList_dt, fList_a, fLen_row, fLen_lr, fLen_ar, fLen_dl, fLen_dt, fLen_a, wipeD,
  sp_plus, sp_minus, sp_times, sp_over, sp__law_plus, sp__law_minus, sp__law_prod, sp__law_per, fEq_ff, fNe_ff, fEq_i, fNe_i, fEq_rr, fNe_rr, fEq_r0, fNe_r0, fNe_pe, setIx_eq, own_eq, oq_l, append_eq, dZERO_eq, dONE_eq, dUNIT_eq, stay_row,
  List.getElem?_cons_zero, List.getElem?_cons_succ, List.set_cons_zero, List.set_cons_succ, if_true, Bool.false_eq_true, if_false, Bool.not_true, Bool.not_false])
theorem cut_any {ys : List PyData} {n : Nat} : cutD ys none (some (n : Int)) = ys.take n := by
  show (ys.drop 0).take (HT.sIx ys.length ys.length (some (n : Int)) - 0) = _
  rw [HT.sIx_nat, List.drop_zero, Nat.sub_zero]
  rcases Nat.le_total n ys.length with h | h
  · rw [Nat.min_eq_left h]
  · rw [Nat.min_eq_right h, List.take_of_length_le (Nat.le_refl _), List.take_of_length_le h]
theorem intsOf_map : ∀ ns : List Int, intsOf (ns.map PyData.int) = some ns
  | [] => rfl
  | n :: r => by
    show (match intsOf (r.map PyData.int) with
      | some bs => some (n :: bs)
      | none => none) = _
    rw [intsOf_map r]
theorem fSum_ints {ns : List Int} {R : Rv → Prop} : fSum [.d (.list (ns.map PyData.int))] R = R (.d (.int ns.sum)) := by
  show (match intsOf (ns.map PyData.int) with
    | some bs => R (.d (.int bs.sum))
    | none => False) = _
  rw [intsOf_map]
theorem pr__law_well : Pr dt__law_well 5 2 sp__law_well := by
  rintro rs w k - ⟨ns, i, rfl, ⟨h0, h1, hl⟩, q⟩
  show dt__law_well _ ⟨[some (.d (.list (ns.map PyData.int))), some (.d (.int i)), none, none, none], w⟩
  have e10 : cutD (ns.map PyData.int) none (some 10) = (ns.take 10).map PyData.int := by
    rw [show (10 : Int) = ((10 : Nat) : Int) from rfl, cut_any, List.map_take]
  have e7 : cutD (ns.map PyData.int) none (some 7) = (ns.take 7).map PyData.int := by
    rw [show (7 : Int) = ((7 : Nat) : Int) from rfl, cut_any, List.map_take]
  have m1 : CMulW 8461 i := cmulW_of (a := 20) (b := 20) (by decide) (by omega) (by decide)
  have m2 : CMulW 4007 i := cmulW_of (a := 20) (b := 20) (by decide) (by omega) (by decide)
  unfold dt__law_well
  rw [seq_eq]
  have tail : ∀ (u : TSD) (c : Int), u = (dSeq (dSet 3 (dOp (fI0 fun i j => .int (i + j)) (dC (.int 52181)) (dOp (fI CMulW fun i j => .int (i * j)) (dC (.int 4007)) (dVar 1)))) (dSeq (dFor (diSeq (dOp fCat (dSl (dVar 0) doNone (doSome (dC (.int 10)))) (dLst (ddCons (dVar 2) ddNil)))) (tgN 4) (dSet 3 (dOp (fI (fun _ j => 0 < j) fun i j => .int (i % j)) (dCB (f1I fun i => i) (daCons (dOp (fI0 fun i j => .int (i + j)) (dOp (fI0 fun i j => .int (i + j)) (dOp (fI CMulW fun i j => .int (i * j)) (dVar 3) (dC (.int 42461))) (dOp (fI (fun _ j => 0 < j) fun i j => .int (i % j)) (dCB (f1I fun i => i) (daCons (dVar 4) daNil)) (dC (.int 2147483543)))) (dC (.int 41))) daNil)) (dC (.int 2147483543))))) (dRet (dLst (ddCons (dIf (dOrT (dTst (dOp fLt (dVar 2) (dC (.int 0)))) (dTst (dOp fGe (dVar 2) (dOp (fI CPow fun i j => .int (i ^ j.toNat)) (dC (.int 10)) (dC (.int 18)))))) (dCB (f1I fun i => (i.natAbs : Int)) (daCons (dVar 2) daNil)) (dC (.int 0))) (ddCons (dVar 3) (ddCons (dC (.int 0)) ddNil))))))) →
      u { nx := fun s => k (.d .none) s.w, rt := k } ⟨[some (.d (.list (ns.map PyData.int))), some (.d (.int i)), some (.d (.int c)), none, none], w⟩ := by
    rintro u c rfl
    walk_at "dx"
    rw [e10]
    refine ⟨m2, by rw [List.length_map, List.length_take]; show _ + 1 ≤ _; omega, ?_⟩
    rw [show (ns.take 10).map PyData.int ++ [PyData.int c] = (ns.take 10 ++ [c]).map PyData.int from by simp]
    refine loopD_inv (fun j s => ∃ (b : Int) (o : Option Rv), s = ⟨[some (.d (.list (ns.map PyData.int))), some (.d (.int i)), some (.d (.int c)), some (.d (.int b)), o], w⟩ ∧ 0 ≤ b ∧ b < 2147483648) _ ?_ ?_ ⟨_, none, rfl, by omega, by omega⟩
    · rintro j x s K hx ⟨b, o, rfl, b0, b1⟩ hK
      rw [List.getElem?_map] at hx
      obtain ⟨y, _, rfl⟩ := Option.map_eq_some_iff.mp hx
      walk_at "dx"
      refine ⟨cmulW_of (a := 32) (b := 20) (by omega) (by decide) (by decide), by decide, by decide, hK _ ⟨_, _, rfl, Int.emod_nonneg _ (by decide), Int.lt_trans (Int.emod_lt_of_pos _ (show (0 : Int) < 2147483543 by decide)) (by decide)⟩⟩
    · rintro s ⟨b, o, rfl, b0, b1⟩
      walk_at "dx"
      by_cases hc : c < 0
      · rw [if_pos (decide_eq_true hc)]
        exact q _ b (Int.natCast_nonneg _) b0 b1
      · rw [if_neg (by simp [hc])]
        refine ⟨⟨by decide, by decide, by decide⟩, ?_⟩
        split
        · exact q _ b (Int.natCast_nonneg _) b0 b1
        · exact q 0 b (Int.le_refl _) b0 b1
  rw [set_eq]
  simp -implicitDefEqProofs only [ifx_eq, tst_eq, op_eq_, var_eq, vq_d, c_eq, cB_eq, daCons_eq, daNil_eq, argOf_d, argOf_l, fLen_dl, fI0_eq, fI_eq, tru_eq, wl_eq, f1I_eq, sl_eq, doNone_eq, doSome_eq, asInt_eq, fSl_dl, List.getElem?_cons_zero, List.getElem?_cons_succ, List.set_cons_zero, List.set_cons_succ]
  rw [List.length_map]
  by_cases hi : i < (ns.length : Int)
  · obtain ⟨z, hz⟩ : ∃ z, ns[i.toNat]? = some z := ⟨ns[i.toNat]'(by omega), List.getElem?_eq_getElem (by omega)⟩
    refine ev_pos hi ?_
    rw [fIx_int (x := .d (.list (ns.map PyData.int))) rfl h0 (show (ns.map PyData.int)[i.toNat]? = some (.int z) by rw [List.getElem?_map, hz]; rfl)]
    exact tail _ z rfl
  · refine ev_neg hi ⟨m1, ?_⟩
    rw [e7, fSum_ints]
    refine ⟨(by decide : (0 : Int) < 1000081), ?_⟩
    exact tail _ _ rfl
end DL
namespace DL
open PySem PySem.Spec PyProof.Rows L2
local macro_rules | `(tactic| walk_at "dx") => `(tactic| simp -implicitDefEqProofs only [wl_eq, var_eq, vq_d, vq_l, vq_a, vq_w, c_eq, op_eq_, un_eq_, fI_eq, fI0_eq, fU_eq, f1I_eq, f2I_eq, fIx_t0, fIx_t1, fIx_fr0, fIx_fr1, daNil_eq, daCons_eq, argOf_d, argOf_l, argOf_a, argOf_p, argOf_w, ddNil_eq, ddCons_eq, kp_d, kp_l, call1_eq, call2_eq, call3_eq, cB_eq,
  tup_eq, lst_eq, small0, small1, small2, small3, small4, small6, small7, seq_eq, next_eq, never_eq, ret_eq, retk_d, retk_l, retV_eq, set_eq, par_eq, sto_d, sto_l, sto_a, asg_eq, tgN_eq, tgTup2_eq, ifS_eq, ifx_eq, tst_eq, tru_eq, andT_eq, orT_eq, notT_eq, andV_eq, orV_eq, notV_eq, drop_eq, isN_eq, sp2_eq,
  for_eq, diSeq_eq, diRng1_eq, diRng2_eq, diRevR_eq, diRev_eq, diZip_eq, revL_eq, lsQ_dl, lsQ_a, lsQ_l, lsQ_p, revT_eq, tpQ_t, tpQ_row, sl_eq, doNone_eq, doSome_eq, fSl_t, fSl_dl, fSl_a, fSl_l, fSl_p, fz_own, diEnumT_eq2, enQ_row, fRep_l, fCat_ll, fCat_lp, asInt_eq, stay_dl, stay_dt, stay_l, stay_a, stayL_dl, stayL_l, stayL_a, comp_eq, yes_eq, isI_eq, isQ_ii, isQ_ib, isQ_tt, isQ_row, fTuple_dl, fTuple_dt, fTuple_a, fList_row, fTuple_row, fList_dl, fList_dt, fList_a, fLen_row, fLen_lr, fLen_ar, fLen_dl, fLen_dt, fLen_a, wipeD,
  sp_plus, sp_minus, sp_times, sp_over, sp__law_plus, sp__law_minus, sp__law_prod, sp__law_per, fEq_ff, fNe_ff, fEq_i, fNe_i, fEq_rr, fNe_rr, fEq_r0, fNe_r0, fNe_pe, setIx_eq, own_eq, oq_l, append_eq, dZERO_eq, dONE_eq, dUNIT_eq, stay_row,
  List.getElem?_cons_zero, List.getElem?_cons_succ, List.set_cons_zero, List.set_cons_succ, if_true, Bool.false_eq_true, if_false, Bool.not_true, Bool.not_false])
theorem mulZ_all {u : List Rat} (h : MulZ u) : lcd u < 2 ^ 1000 := by
  have := h.d u.length
  rwa [List.take_length] at this
theorem mulZ_nz {u : List Rat} (h : MulZ u) (i : Nat) : (ci (numz u) i).natAbs < 2 ^ 2000 := by
  by_cases hi : i < u.length
  · have e : (numz u)[i]? = some ((co u i).num * ((lcd u / (co u i).den : Nat) : Int)) := by
      unfold numz
      rw [List.getElem?_map, co_some hi]
      rfl
    have e2 := ci_some (a := numz u) (n := i) (by rw [numz_len]; exact hi)
    rw [e] at e2
    rw [← Option.some.inj e2]
    refine lt_two_pow_mul (a := 1000) (b := 1000) (h.s _ (co_mem hi)).1 ?_
    rw [Int.natAbs_natCast]
    exact Nat.lt_of_le_of_lt (Nat.div_le_self _ _) (mulZ_all h)
  · rw [ci_ge (by rw [numz_len]; omega)]
    exact Nat.two_pow_pos _
theorem ints_i {xs : List Rat} {Q : Rv → W3 → Prop} {w : W3} (h : MulZ xs) (q : Q (.d (.tuple [.list ((numz xs).map PyData.int), .int (lcd xs : Int)])) w) : sp__law_ints [.d (row xs)] w Q :=
  ⟨xs, rfl, ⟨by have := h.l; omega, fun x hx => (h.s x hx).mono (by decide), fun i => lt_two_pow_mono (h.d i) (by decide)⟩, q⟩
theorem repI_zero (n : Nat) (f : Nat → Int) (h : ∀ k, f k = 0) : repD [PyData.int 0] n = tabI n f := by
  unfold tabI
  induction n with
  | zero => rfl
  | succ n ih =>
    show [PyData.int 0] ++ repD [PyData.int 0] n = _
    rw [ih, List.range_succ_eq_map, List.map_cons, List.map_map, h 0]
    show PyData.int 0 :: _ = PyData.int 0 :: _
    congr 1
    refine List.map_congr_left fun k _ => ?_
    show PyData.int (f k) = PyData.int (f (k + 1))
    rw [h, h]
theorem pr__law_mul : Pr dt__law_mul 10 2 sp__law_mul := by
  rintro rs w k - ⟨xs, ys, rfl, ⟨mx, my⟩, q⟩
  show dt__law_mul _ ⟨[some (.d (row xs)), some (.d (row ys)), none, none, none, none, none, none, none, none], w⟩
  have lx := mx.l
  have ly := my.l
  have hx := mx.ne
  have hy := my.ne
  have tx := mx.t
  have ty := my.t
  have px : 0 < xs.length := List.length_pos_iff.mpr hx
  have py : 0 < ys.length := List.length_pos_iff.mpr hy
  unfold dt__law_mul
  walk_at "dx"
  refine ev_neg hx ?_
  refine ev_neg hy ?_
  refine ints_i mx ?_
  walk_at "dx"
  refine ints_i my ?_
  walk_at "dx"
  rw [List.length_map, List.length_map, numz_len, numz_len, show ((xs.length : Int) + (ys.length : Int) - 1).toNat = xs.length + ys.length - 1 by omega, repI_zero _ (pci (numz xs) (numz ys) 0) fun _ => rfl, Int.toNat_natCast]
  refine ⟨⟨cnt_of (by omega) (by omega), by show 1 * _ ≤ _; omega⟩, cnt_of (by omega) (by omega), ?_⟩
  refine loopD_inv (fun i s => i ≤ xs.length ∧ ∃ a b, s = ⟨[some (.d (row xs)), some (.d (row ys)), some (.d (.list ((numz xs).map PyData.int))), some (.d (.int (lcd xs : Int))), some (.d (.list ((numz ys).map PyData.int))), some (.d (.int (lcd ys : Int))), some (.l (tabI (xs.length + ys.length - 1) (pci (numz xs) (numz ys) i))), a, b, none], w⟩) _ ?_ ?_ ⟨Nat.zero_le _, none, none, rfl⟩
  · rintro i x s K hx1 ⟨hi, a, b, rfl⟩ hK
    obtain ⟨hi2, rfl⟩ := rng_get hx1
    walk_at "dx"
    rw [List.length_map, numz_len, Int.toNat_natCast]
    refine ⟨cnt_of (by omega) (by omega), ?_⟩
    refine loopD_inv (fun j s => j ≤ ys.length ∧ ∃ b, s = ⟨[some (.d (row xs)), some (.d (row ys)), some (.d (.list ((numz xs).map PyData.int))), some (.d (.int (lcd xs : Int))), some (.d (.list ((numz ys).map PyData.int))), some (.d (.int (lcd ys : Int))), some (.l (tabI (xs.length + ys.length - 1) (midI (numz xs) (numz ys) i j))), some (.d (.int (i : Int))), b, none], w⟩) _ ?_ ?_ ⟨Nat.zero_le _, b, ?_⟩
    · rintro j y s K2 hy1 ⟨hj, b, rfl⟩ hK2
      obtain ⟨hj2, rfl⟩ := rng_get hy1
      walk_at "dx"
      have e0 : ((i : Int) + (j : Int)).toNat = i + j := by omega
      rw [fIx_int rfl (by omega) (by rw [e0]; exact tabI_get (by omega))]
      rw [fIx_int (x := .d (.list ((numz xs).map PyData.int))) rfl (by omega) (show ((numz xs).map PyData.int)[((i : Int)).toNat]? = some (.int (ci (numz xs) i)) by rw [Int.toNat_natCast, List.getElem?_map, ci_some (by rw [numz_len]; omega)]; rfl)]
      rw [fIx_int (x := .d (.list ((numz ys).map PyData.int))) rfl (by omega) (show ((numz ys).map PyData.int)[((j : Int)).toNat]? = some (.int (ci (numz ys) j)) by rw [Int.toNat_natCast, List.getElem?_map, ci_some (by rw [numz_len]; omega)]; rfl)]
      walk_at "dx"
      refine ⟨cmulW_of (a := 2000) (b := 2000) (mulZ_nz mx i) (mulZ_nz my j) (by decide), ?_⟩
      refine ixq_of (by omega) (by rw [tabI_len]; omega) ?_
      rw [e0, midI_at, tabI_set (g := midI (numz xs) (numz ys) i (j + 1)) (by omega) (midI_succ _ _ i j) (midI_ne _ _ i j)]
      exact hK2 _ ⟨hj2, _, rfl⟩
    · rintro s ⟨_, b, rfl⟩
      rw [intsBy_len, tabI_congr (g := pci (numz xs) (numz ys) (i + 1)) fun k => by rw [← numz_len ys]; exact midI_end _ _ i k]
      exact hK _ ⟨hi2, _, _, rfl⟩
    · rw [tabI_congr (g := pci (numz xs) (numz ys) i) fun k => midI_zero _ _ i k]
  · rintro s ⟨_, a, b, rfl⟩
    rw [intsBy_len]
    walk_at "dx"
    have cD : CMulW (lcd xs : Int) (lcd ys : Int) := cmulW_of (a := 1000) (b := 1000) (by rw [Int.natAbs_natCast]; exact mulZ_all mx) (by rw [Int.natAbs_natCast]; exact mulZ_all my) (by decide)
    have dne : (lcd xs : Int) * (lcd ys : Int) ≠ 0 := Int.mul_ne_zero (by have := lcd_pos xs; omega) (by have := lcd_pos ys; omega)
    have dlt : ((lcd xs : Int) * (lcd ys : Int)).natAbs < 2 ^ 9000 := lt_two_pow_mono (lt_two_pow_mul (a := 1000) (b := 1000) (by rw [Int.natAbs_natCast]; exact mulZ_all mx) (by rw [Int.natAbs_natCast]; exact mulZ_all my)) (by decide)
    refine ⟨by rw [tabI_len]; omega, ?_⟩
    unfold tabI
    refine comp_mapF (fun k : Nat => PyData.int (pci (numz xs) (numz ys) xs.length k)) (fun k => fr (cv xs ys k)) (List.range (xs.length + ys.length - 1)) [] (fun x hx K hK => ?_) ?_
    · walk_at "dx"
      refine ⟨cD, low_i dne dlt ?_⟩
      rw [pci_div]
      exact hK
    · rw [List.nil_append, pmul_row hx hy tx ty] at *
      rw [show (List.range (xs.length + ys.length - 1)).map (fun k => fr (cv xs ys k)) = (tab (xs.length + ys.length - 1) (cv xs ys)).map fr from by unfold tab; rw [List.map_map]; rfl]
      exact q
end DL
namespace DL
open PySem PySem.Spec PyProof.Rows L2
local macro_rules | `(tactic| walk_at "dx") => `(tactic| simp -implicitDefEqProofs only [wl_eq, var_eq, vq_d, vq_l, vq_a, vq_w, c_eq, op_eq_, un_eq_, fI_eq, fI0_eq, fU_eq, f1I_eq, f2I_eq, fIx_t0, fIx_t1, fIx_fr0, fIx_fr1, daNil_eq, daCons_eq, argOf_d, argOf_l, argOf_a, argOf_p, argOf_w, ddNil_eq, ddCons_eq, kp_d, kp_l, call1_eq, call2_eq, call3_eq, cB_eq,
  tup_eq, lst_eq, small0, small1, small2, small3, small4, small6, small7, seq_eq, next_eq, never_eq, ret_eq, retk_d, retk_l, retV_eq, set_eq, par_eq, sto_d, sto_l, sto_a, asg_eq, tgN_eq, tgTup2_eq, ifS_eq, ifx_eq, tst_eq, tru_eq, andT_eq, orT_eq, notT_eq, andV_eq, orV_eq, notV_eq, drop_eq, isN_eq, sp2_eq,
  for_eq, diSeq_eq, diRng1_eq, diRng2_eq, diRevR_eq, diRev_eq, diZip_eq, revL_eq, lsQ_dl, lsQ_a, lsQ_l, lsQ_p, revT_eq, tpQ_t, tpQ_row, sl_eq, doNone_eq, doSome_eq, fSl_t, fSl_dl, fSl_a, fSl_l, fSl_p, fz_own, diEnumT_eq2, enQ_row, fRep_l, fCat_ll, fCat_lp, asInt_eq, stay_dl, stay_dt, stay_l, stay_a, stayL_dl, stayL_l, stayL_a, comp_eq, yes_eq, isI_eq, isQ_ii, isQ_ib, isQ_tt, isQ_row, fTuple_dl, fTuple_dt, fTuple_a, fList_row, fTuple_row, fList_dl, fList_dt, fList_a, fLen_row, fLen_lr, fLen_ar, fLen_dl, fLen_dt, fLen_a, wipeD,
  sp_plus, sp_minus, sp_times, sp_over, sp__law_plus, sp__law_minus, sp__law_prod, sp__law_per, fEq_ff, fNe_ff, fEq_i, fNe_i, fEq_rr, fNe_rr, fEq_r0, fNe_r0, fNe_pe, setIx_eq, own_eq, oq_l, append_eq, dZERO_eq, dONE_eq, dUNIT_eq, stay_row,
  List.getElem?_cons_zero, List.getElem?_cons_succ, List.set_cons_zero, List.set_cons_succ, if_true, Bool.false_eq_true, if_false, Bool.not_true, Bool.not_false])
theorem fr_of {x : Rat} {a : Int} {b : Nat} (h1 : x.num = a) (h2 : x.den = b) : PyData.tuple [.int a, .int (b : Int)] = fr x := by
  subst h1 h2
  rfl
theorem ifs_neg {a b A B : Prop} [Decidable a] [Decidable b] (h : ¬ (a ∧ b)) (q : B) : if decide a = true then (if decide b = true then A else B) else B := by
  by_cases ha : a
  · rw [if_pos (decide_eq_true ha)]
    by_cases hb : b
    · exact absurd ⟨ha, hb⟩ h
    · rw [if_neg (by simpa using hb)]
      exact q
  · rw [if_neg (by simpa using ha)]
    exact q
theorem fr_int (s : Int) : PyData.tuple [.int s, .int 1] = fr (s : Rat) := rfl
theorem in4 {v : Int} (h0 : 3 ≤ v) (h5 : v ≤ 5) {z : PyData} (h : z ∈ [PyData.int 2, .int 2, .int 3, .int v]) : ∃ a : Int, z = .int a ∧ 0 < a ∧ a ≤ v := by
  simp only [List.mem_cons, List.not_mem_nil, or_false] at h
  rcases h with rfl | rfl | rfl | rfl
  · exact ⟨_, rfl, by decide, by omega⟩
  · exact ⟨_, rfl, by decide, by omega⟩
  · exact ⟨_, rfl, by decide, by omega⟩
  · exact ⟨_, rfl, by omega, by omega⟩
theorem pr__law_within : Pr dt__law_within 4 2 sp__law_within := by
  rintro rs w k - ⟨v, n, rfl, ⟨h0, h5, hw, hn⟩, q⟩
  show dt__law_within _ ⟨[some .w, some (.d (.int v)), none, none], w⟩
  unfold dt__law_within
  walk_at "dx"
  refine pick_i (n := n) (by simp) (by show 4 ≤ 1000; decide) hw (by omega) fun z w1 hz hw1 => ?_
  obtain ⟨a, rfl, a0, a1⟩ := in4 h0 h5 hz
  walk_at "dx"
  refine draw_i (n := n + 1) a0 (by omega) hw1 (by omega) fun r w2 r0 r1 hw2 => ?_
  walk_at "dx"
  refine draw_i (n := n + 2) (by omega) (by omega) hw2 (by omega) fun t w3 t0 t1 hw3 => ?_
  walk_at "dx"
  refine draw_i (n := n + 3) (by decide) (by decide) hw3 (by omega) fun d w4 d0 d1 hw4 => ?_
  walk_at "dx"
  have hb : (2 + r) ≠ 0 ∧ (2 + r).natAbs < 2 ^ 9000 := ⟨by omega, lt_two_pow_mono (a := 4) (by omega) (by decide)⟩
  by_cases hd : 0 < d
  · exact ev_pos hd (low_i hb.1 hb.2 (q _ w4 ⟨1 + t, 2 + r, rfl, by omega, by omega, by omega⟩ hw4))
  · exact ev_neg hd (low_i hb.1 hb.2 (q _ w4 ⟨0 - (1 + t), 2 + r, rfl, by omega, by omega, by omega⟩ hw4))
theorem pr__law_pair_factor : Pr dt__law_pair_factor 2 2 sp__law_pair_factor := by
  rintro rs w k - ⟨t, c, rfl, ⟨ht, hc⟩, q⟩
  show dt__law_pair_factor _ ⟨[some (.d (fr t)), some (.d (fr c))], w⟩
  unfold dt__law_pair_factor
  walk_at "dx"
  have h1 : sm 4000 t := ht.mono (by decide)
  have h2 : sm 4000 c := hc.mono (by decide)
  refine ⟨⟨h1, h2⟩, ?_⟩
  show sp2 _ _ [.d (fr (-2)), .d (fr (t * c))] w _
  rw [sp2_eq]
  refine ⟨⟨⟨by decide, by decide⟩, (ht.mul hc).mono (by decide)⟩, ?_⟩
  rw [kp_d]
  refine ⟨⟨h1, h1⟩, ?_⟩
  exact q
theorem okW_abs {x : Rat} (h : okW 4 x) : okT (rabs x) := by
  obtain ⟨a, b, rfl, h1, h2, h3⟩ := h
  have key : ∀ (m : Nat) (b : Int), 1 ≤ m → (m : Int) < b → b ≤ 5 → okT ((m : Int) / (b : Rat)) := by
    intro m b h1 h2 h3
    have hb : b = 2 ∨ b = 3 ∨ b = 4 ∨ b = 5 := by omega
    have hm : m = 1 ∨ m = 2 ∨ m = 3 ∨ m = 4 := by omega
    rcases hb with rfl | rfl | rfl | rfl <;> rcases hm with rfl | rfl | rfl | rfl <;> first | omega | (unfold okT; decide +kernel)
  have hb : (0 : Rat) < (b : Rat) := by
    have : ((0 : Int) : Rat) < (b : Rat) := Rat.intCast_lt_intCast.mpr (by omega)
    exact this
  by_cases ha : 0 ≤ a
  · have e : ((a.natAbs : Int) : Rat) = (a : Rat) := by rw [Int.natAbs_of_nonneg ha]
    have := key a.natAbs b h1 h2 (by omega)
    rw [e] at this
    have h0 : 0 ≤ (a : Rat) / (b : Rat) := by
      rw [le_div_i hb]
      have : ((0 : Int) : Rat) ≤ (a : Rat) := Rat.intCast_le_intCast.mpr ha
      have e0 : ((0 : Int) : Rat) = 0 := rfl
      grind
    rw [rabs_of_nn h0]
    exact this
  · have e : ((a.natAbs : Int) : Rat) = -(a : Rat) := by rw [show (a.natAbs : Int) = -a by omega, Rat.intCast_neg]
    have := key a.natAbs b h1 h2 (by omega)
    rw [e] at this
    have h0 : 0 ≤ -(a : Rat) / (b : Rat) := by
      rw [le_div_i hb]
      have : (a : Rat) ≤ ((0 : Int) : Rat) := Rat.intCast_le_intCast.mpr (by omega)
      have e0 : ((0 : Int) : Rat) = 0 := rfl
      grind
    have e2 : (a : Rat) / (b : Rat) = -(-(a : Rat) / (b : Rat)) := by grind
    rw [e2, rabs_neg, rabs_of_nn h0]
    exact this
theorem okT.sm {t : Rat} (h : okT t) : sm 100 t := by
  have : (Ts.all (smB 100)) = true := by decide +kernel
  exact smB_ok (List.all_eq_true.mp this t h)
theorem okC.sm {c : Rat} (h : okC c) : sm 100 c := by
  have : (Cs.all (smB 100)) = true := by decide +kernel
  exact smB_ok (List.all_eq_true.mp this c h)
theorem six {z : PyData} (h : z ∈ [PyData.tuple [.int 0, .int 1], .tuple [.int 1, .int 2], .tuple [.int (-1), .int 2], .tuple [.int 3, .int 5], .tuple [.int (-1), .int 1], .tuple [.int 1, .int 4]]) : ∃ c, z = fr c ∧ okC c := by
  simp only [List.mem_cons, List.not_mem_nil, or_false] at h
  unfold okC
  rcases h with rfl | rfl | rfl | rfl | rfl | rfl
  · exact ⟨0, rfl, by decide +kernel⟩
  · exact ⟨1 / 2, fr_of (a := 1) (b := 2) (by decide +kernel) (by decide +kernel), by decide +kernel⟩
  · exact ⟨-1 / 2, fr_of (a := (-1)) (b := 2) (by decide +kernel) (by decide +kernel), by decide +kernel⟩
  · exact ⟨3 / 5, fr_of (a := 3) (b := 5) (by decide +kernel) (by decide +kernel), by decide +kernel⟩
  · exact ⟨-1, fr_of (a := (-1)) (b := 1) (by decide +kernel) (by decide +kernel), by decide +kernel⟩
  · exact ⟨1 / 4, fr_of (a := 1) (b := 4) (by decide +kernel) (by decide +kernel), by decide +kernel⟩
theorem CalmB.z {u : List Rat} (h : CalmB u) : MulZ u := by
  have m := h.m
  unfold mulB at m
  rw [Bool.and_eq_true, Bool.and_eq_true, decide_eq_true_eq, List.all_eq_true, List.all_eq_true] at m
  refine ⟨h.ne, h.t, by omega, fun x hx => (smB_ok (m.2.1 x hx)).mono (by decide), fun i => ?_⟩
  have key : ∀ j, j < 7 → lcd (u.take j) < 2 ^ 1000 := fun j hj => Nat.lt_of_lt_of_le (of_decide_eq_true (m.2.2 j (List.mem_range.mpr hj))) (Nat.pow_le_pow_right (by decide) (by decide))
  by_cases hi : i < 7
  · exact key i hi
  · have := key 6 (by decide)
    rw [List.take_of_length_le (by omega)] at this ⊢
    exact this
theorem lmul_i {xs ys : List Rat} {Q : Rv → W3 → Prop} {w : W3} (hx : MulZ xs) (hy : MulZ ys) (q : Q (.d (row (pmul xs ys))) w) : sp__law_mul [.d (row xs), .d (row ys)] w Q :=
  ⟨xs, ys, rfl, ⟨hx, hy⟩, q⟩
theorem pr__law_calm : Pr dt__law_calm 6 2 sp__law_calm := by
  rintro rs w k - ⟨m, n, rfl, ⟨h0, h2, hw, hn⟩, q⟩
  show dt__law_calm _ ⟨[some .w, some (.d (.int (m : Int))), none, none, none, none], w⟩
  unfold dt__law_calm
  walk_at "dx"
  refine draw_i (n := n) (by decide) (by decide) hw (by omega) fun r w1 r0 r1 hw1 => ?_
  walk_at "dx"
  by_cases hp : r = 0 ∧ (1 : Int) < (m : Int)
  · refine ev_pos hp.1 ?_
    refine ev_pos hp.2 ?_
    refine ⟨4, n + 1, rfl, ⟨by decide, by decide, hw1, by omega⟩, fun x w2 hx hw2 => ?_⟩
    walk_at "dx"
    refine ⟨x, rfl, ?_⟩
    walk_at "dx"
    refine pick_i (n := n + 5) (by simp) (by decide) hw2 (by omega) fun z w3 hz hw3 => ?_
    obtain ⟨c, rfl, hc⟩ := six hz
    have ht := okW_abs hx
    refine ⟨rabs x, c, rfl, ⟨ht.sm, hc.sm⟩, ?_⟩
    exact q _ w3 (.inr ⟨by omega, _, c, ht, hc, rfl⟩) (hw3.mono (by omega))
  · refine ifs_neg hp ?_
    refine draw_i (n := n + 1) (by omega) (by omega) hw1 (by omega) fun j w2 j0 j1 hw2 => ?_
    walk_at "dx"
    refine ⟨cnt_of j0 (by omega), ?_⟩
    rw [t11]
    refine loopD_inv (fun i s => ∃ (as : List Rat) (o : Option Rv) (wi : W3), s = ⟨[some .w, some (.d (.int (m : Int))), some (.d (.int r)), none, some (.d (row (prodF as))), o], wi⟩ ∧ as.length = i ∧ (∀ a ∈ as, a ∈ A18) ∧ wok (n + 2 + 3 * i) wi) _ ?_ ?_ ⟨[], none, w2, rfl, rfl, (fun a h => by cases h), hw2⟩
    · rintro i x s K hx1 ⟨as, o, wi, rfl, hl, ha, hwi⟩ hK
      obtain ⟨hi2, rfl⟩ := rng_get hx1
      have C : CalmB (prodF as) := (show okCalm 2 (prodF as) from .inl ⟨as, by omega, ha, rfl⟩).b (by decide)
      walk_at "dx"
      refine ⟨n + 2 + 3 * i, rfl, ⟨hwi, by omega⟩, fun z w4 hz hw4 => ?_⟩
      obtain ⟨z1, z2, z3⟩ := a18_of hz
      walk_at "dx"
      refine ⟨z, rfl, ⟨z3, z2.mono (by decide)⟩, ?_⟩
      walk_at "dx"
      rw [show ([1, -1 / z] : List Rat) = fac (1 / z) by unfold fac; congr 2; grind]
      refine lmul_i C.z (fac18_b z1).z ?_
      rw [← prodF_snoc, sto_d]
      refine hK _ ⟨_, _, w4, rfl, by rw [List.length_append, hl]; rfl, fun a h => ?_, hw4⟩
      rcases List.mem_append.mp h with h | h
      · exact ha a h
      · rw [List.mem_singleton.mp h]
        exact z1
    · rintro s ⟨as, o, wi, rfl, hl, ha, hwi⟩
      rw [intsBy_len] at hl hwi
      walk_at "dx"
      exact q _ wi (.inl ⟨as, by omega, ha, rfl⟩) (hwi.mono (by omega))
theorem pr__law_numbers : Pr dt__law_numbers 8 2 sp__law_numbers := by
  rintro rs w k - ⟨top, under, many, rfl, ⟨h0, h1, hne, hl, ok⟩, q⟩
  show dt__law_numbers _ ⟨[some (.d (.tuple [row top, row under])), some (.d (.int many)), none, none, none, none, none, none], w⟩
  have hp : 0 < under.length := List.length_pos_iff.mpr hne
  unfold dt__law_numbers
  rw [seq_eq, par3_eq]
  walk_at "dx"
  rw [ddQ_d, ddQ_d]
  refine ⟨cnt_of h0 (by omega), ?_⟩
  refine loopD_inv (fun i s => i ≤ many.toNat ∧ ∃ a b c, s = ⟨[some (.d (.tuple [row top, row under])), some (.d (.int many)), some (.d (row top)), some (.d (row under)), some (.l ((ser top under i).map fr)), a, b, c], w⟩) _ ?_ ?_ ⟨Nat.zero_le _, none, none, none, rfl⟩
  · rintro i x s K hx ⟨hi, a, b, c, rfl⟩ hK
    obtain ⟨hi2, rfl⟩ := rng_get hx
    walk_at "dx"
    have tail : ∀ (x0 : Rat), x0 = co top i → loopD (tgN 7)
        (dSet 6 (dCall 2 (sp2 (fun x y => sm 4000 x ∧ sm 4000 y) fun x y => x - y) (daCons (dVar 6) (daCons (dCall 2 (sp2 (fun x y => sm 4000 x ∧ sm 4000 y) fun x y => x * y) (daCons (dOp fIx (dVar 3) (dVar 7)) (daCons (dOp fIx (dVar 4) (dOp (fI0 fun i j => PyData.int (i - j)) (dVar 5) (dVar 7))) daNil))) daNil))))
        { nx := dAppend 4 (dVar 6) { nx := K, rt := k, ct := K, bk := dRetV 4 { nx := fun s => k (Rv.d PyData.none) s.w, rt := k } }, rt := k, ct := K, bk := dRetV 4 { nx := fun s => k (Rv.d PyData.none) s.w, rt := k } } (intsBy 1 1 (min i (under.length - 1)))
        ⟨[some (.d (.tuple [row top, row under])), some (.d (.int many)), some (.d (row top)), some (.d (row under)), some (.l ((ser top under i).map fr)), some (.d (.int (i : Int))), some (.d (fr x0)), c], w⟩ := by
      rintro x0 rfl
      refine loopD_inv (fun j s => j ≤ min i (under.length - 1) ∧ ∃ c, s = ⟨[some (.d (.tuple [row top, row under])), some (.d (.int many)), some (.d (row top)), some (.d (row under)), some (.l ((ser top under i).map fr)), some (.d (.int (i : Int))), some (.d (fr (rec_ top under (ser top under i) i j))), c], w⟩) _ ?_ ?_ ⟨Nat.zero_le _, c, rfl⟩
      · rintro j y s K2 hy ⟨hj, c, rfl⟩ hK2
        obtain ⟨hj2, rfl⟩ := rng_get2 hy
        walk_at "dx"
        have e1 : ((1 : Int) + (j : Int)).toNat = j + 1 := by omega
        have e2 : ((i : Int) - (1 + (j : Int))).toNat = i - (j + 1) := by omega
        rw [fIx_row (by omega) (by rw [e1]; exact co_some (by omega))]
        walk_at "dx"
        rw [fIx_pr (by omega) (by rw [e2]; exact co_some (by rw [ser_len]; omega))]
        walk_at "dx"
        refine ⟨⟨ok.und _, ok.num i hi2 _⟩, ⟨ok.par i hi2 j (by omega), ok.pro i hi2 (j + 1) (by omega)⟩, hK2 _ ⟨by omega, _, rfl⟩⟩
      · rintro s ⟨_, c, rfl⟩
        rw [intsBy_len]
        walk_at "dx"
        refine ⟨by rw [List.length_map, ser_len]; omega, ?_⟩
        rw [lst_snoc]
        exact hK _ ⟨by omega, _, _, _, rfl⟩
    rw [numbers_min hp]
    by_cases hi3 : (i : Int) < (top.length : Int)
    · refine ev_pos hi3 ?_
      rw [fIx_row (by omega) (by rw [Int.toNat_natCast]; exact co_some (by omega))]
      exact ⟨⟨cnt_of (by decide) (by decide), cnt_of (by omega) (by omega)⟩, tail _ rfl⟩
    · refine ev_neg hi3 ?_
      exact ⟨⟨cnt_of (by decide) (by decide), cnt_of (by omega) (by omega)⟩, tail 0 (co_ge (by omega)).symm⟩
  · rintro s ⟨_, a, b, c, rfl⟩
    rw [intsBy_len]
    walk_at "dx"
    exact q
theorem repD_zero (n : Nat) : repD [PyData.tuple [.int 0, .int 1]] n = (List.replicate n (0 : Rat)).map fr := by
  induction n with
  | zero => rfl
  | succ n ih =>
    show [PyData.tuple [.int 0, .int 1]] ++ repD [PyData.tuple [.int 0, .int 1]] n = _
    rw [ih]
    rfl
theorem pad_get (xs : List Rat) {W i : Nat} (hi : i < W) (hW : xs.length ≤ W) : (xs ++ List.replicate (W - xs.length) (0 : Rat))[i]? = some (co xs i) := by
  by_cases h : i < xs.length
  · rw [List.getElem?_append_left h, co_some h]
  · rw [List.getElem?_append_right (by omega), List.getElem?_replicate, if_pos (by omega), co_ge (by omega)]
theorem co_sm {xs : List Rat} {b : Nat} (h : ∀ x ∈ xs, sm b x) (i : Nat) (hb : 0 < b := by decide) : sm b (co xs i) := by
  by_cases hi : i < xs.length
  · exact h _ (co_mem hi)
  · rw [co_ge (by omega)]
    exact sm0 hb
theorem pr__law_add : Pr dt__law_add 7 2 sp__law_add := by
  rintro rs w k - ⟨xs, ys, rfl, ⟨lx, ly, hx, hy⟩, q⟩
  show dt__law_add _ ⟨[some (.d (row xs)), some (.d (row ys)), none, none, none, none, none], w⟩
  unfold dt__law_add
  walk_at "dx"
  have eW : max (xs.length : Int) (ys.length : Int) = ((max xs.length ys.length : Nat) : Int) := by omega
  rw [eW]
  have w1 : xs.length ≤ max xs.length ys.length := Nat.le_max_left _ _
  have w2 : ys.length ≤ max xs.length ys.length := Nat.le_max_right _ _
  have w3 : max xs.length ys.length ≤ 500 := Nat.max_le.mpr ⟨lx, ly⟩
  generalize hW : max xs.length ys.length = W at *
  rw [show ((W : Int) - (xs.length : Int)).toNat = W - xs.length by omega, show ((W : Int) - (ys.length : Int)).toNat = W - ys.length by omega, repD_zero, repD_zero, Int.toNat_natCast, ← List.map_append, ← List.map_append]
  refine ⟨⟨cnt_of (by omega) (by omega), by show 1 * _ ≤ _; omega⟩, by rw [List.length_map, List.length_map, List.length_replicate]; omega, ⟨cnt_of (by omega) (by omega), by show 1 * _ ≤ _; omega⟩, by rw [List.length_map, List.length_map, List.length_replicate]; omega, cnt_of (by omega) (by omega), by rw [intsBy_len]; omega, comp_rng (fun k => fr (co xs k + co ys k)) (fun i hi K hK => ?_) ?_⟩
  · walk_at "dx"
    rw [fIx_pr (by omega) (by rw [Int.toNat_natCast]; exact pad_get xs hi w1)]
    walk_at "dx"
    rw [fIx_pr (by omega) (by rw [Int.toNat_natCast]; exact pad_get ys hi w2)]
    walk_at "dx"
    exact ⟨⟨co_sm hx i, co_sm hy i⟩, hK⟩
  · refine ⟨_, padd xs ys, rfl, .inl ?_, ?_, q⟩
    · unfold padd tab
      rw [hW, List.map_map]
      rfl
    · unfold padd
      rw [tab_len, hW]
      omega
theorem pr__law_less : Pr dt__law_less 2 2 sp__law_less := by
  rintro rs w k - ⟨xs, ys, rfl, ⟨lx, ly, hx, hy⟩, q⟩
  show dt__law_less _ ⟨[some (.d (row xs)), some (.d (row ys))], w⟩
  unfold dt__law_less
  walk_at "dx"
  have sn : sm 4000 (-1 : Rat) := ⟨by decide +kernel, by decide +kernel⟩
  refine ⟨ys, -1, rfl, ⟨by omega, sn, hy⟩, ?_⟩
  have lp : (pscale (-1) ys).length ≤ ys.length := pscale_len _ _
  walk_at "dx"
  refine ⟨xs, pscale (-1) ys, rfl, ⟨lx, by omega, hx, fun y h => ?_⟩, ?_⟩
  · obtain ⟨z, hz, rfl⟩ := List.mem_map.mp (mem_trim h)
    rw [show -1 * z = -z by grind]
    have := hy z hz
    exact ⟨by rw [Rat.neg_num, Int.natAbs_neg]; exact this.1, by rw [Rat.neg_den]; exact this.2⟩
  · rw [show trim (padd xs (pscale (-1) ys)) = psub xs ys from trimd_ext (trim_trimd _) (trim_trimd _) fun n => by rw [co_trim, co_padd, co_pscale, co_psub]; grind]
    exact q
theorem pr__law_do_meet : Pr dt__law_do_meet 2 2 sp__law_do_meet := by
  rintro rs w k - ⟨a, b, c, d, rfl, ⟨⟨ha, hb, hc, hd⟩, h1, h2⟩, q⟩
  show dt__law_do_meet _ ⟨[some (.d (.tuple [fr a, fr b])), some (.d (.tuple [fr c, fr d]))], w⟩
  unfold dt__law_do_meet
  walk_at "dx"
  refine ⟨b, c, rfl, ⟨hb, hc⟩, ?_⟩
  rw [decide_eq_false (show ¬ b < c by grind)]
  try dsimp only
  rw [tru_eq, if_pos (by decide)]
  refine ⟨d, a, rfl, ⟨hd, ha⟩, ?_⟩
  rw [decide_eq_false (show ¬ d < a by grind)]
  exact q
theorem pr__law_are_bounds : Pr dt__law_are_bounds 2 2 sp__law_are_bounds := by
  rintro rs w k - ⟨lo, hi, m, rfl, ⟨m1, m2, sl, sh⟩, ⟨sd, h1, h2⟩, q⟩
  show dt__law_are_bounds _ ⟨[some (.d (.tuple [fr lo, fr hi])), some (.d (.int m))], w⟩
  unfold dt__law_are_bounds
  walk_at "dx"
  show if (!decide (((2 : Nat) : Int) = 2)) = true then _ else _
  rw [if_neg (by decide)]
  refine ⟨lo, rfl, ?_⟩
  try dsimp only
  rw [tru_eq, if_neg (by decide)]
  refine ⟨hi, rfl, ?_⟩
  try dsimp only
  rw [tru_eq, if_neg (by decide)]
  refine ⟨⟨sh, sl⟩, ?_⟩
  rw [one_over (by omega)]
  have s1 : sm 20 (1 / (m : Rat)) := by
    have : sm 20 (((1 : Int) : Rat) / (m : Rat)) := sm.frac (by omega) (by decide) (by omega)
    exact this
  refine ⟨1 / (m : Rat), hi - lo, rfl, ⟨s1.mono (by decide), sd⟩, ?_⟩
  rw [decide_eq_false h1]
  try dsimp only
  rw [tru_eq, if_pos (by decide)]
  refine ⟨hi, lo, rfl, ⟨sh.mono (by decide), sl.mono (by decide)⟩, ?_⟩
  rw [decide_eq_false (show ¬ hi < lo by grind)]
  exact q
theorem numb_i {under : List Rat} {Q : Rv → W3 → Prop} {w : W3} (hne : under ≠ []) (hl : under.length ≤ 500) (hs : serOk [1] under 24) (q : Q (.l ((DL.ser [1] under 24).map fr)) w) : sp__law_numbers [.d (.tuple [row [1], row under]), .d (.int ((24 : Nat) : Int))] w Q :=
  ⟨[1], under, ((24 : Nat) : Int), rfl, ⟨by decide, by decide, hne, hl, by rw [Int.toNat_natCast]; exact hs⟩, by rw [Int.toNat_natCast]; exact q⟩
theorem cut24_i {under : List Rat} {Q : Rv → W3 → Prop} {w : W3} (q : Q (.d (row (rwn under 24))) w) : sp__law_cut [.d (.list ((DL.ser [1] under 24).map fr))] w Q :=
  ⟨_, DL.ser [1] under 24, rfl, .inl rfl, by rw [ser_len]; decide, q⟩
theorem pr__law_own_bounds : Pr dt__law_own_bounds 6 2 sp__law_own_bounds := by
  rintro rs w k - ⟨top, under, rfl, ⟨ne, tne, lu, lt, ser, mu_, mt, mh, e, s1, s2, ss, su⟩, q⟩
  show dt__law_own_bounds _ ⟨[some (.d (.tuple [row top, row under])), some (.d (.int 24)), none, none, none, none], w⟩
  unfold dt__law_own_bounds
  walk_at "dx"
  have hl := rwn_len under 24
  refine numb_i ne (by omega) ser ?_
  walk_at "dx"
  refine cut24_i ?_
  clear ser
  generalize rwn under 24 = h at *
  have h1 := pmul_len' under h
  have h2 := pmul_len' top h
  have h3 := psub_len' [1] (pmul under h)
  have h4 : max [(1 : Rat)].length (pmul under h).length ≤ 200 := by show max 1 _ ≤ _; omega
  walk_at "dx"
  refine lmul_i mu_ mh ?_
  walk_at "dx"
  refine ⟨[1], pmul under h, rfl, ⟨by decide, by omega, fun x h => by rw [List.mem_singleton.mp h]; exact sm1 (by decide), e⟩, ?_⟩
  walk_at "dx"
  refine ⟨_, psub [1] (pmul under h), rfl, .inr (.inl rfl), ⟨by omega, s1⟩, ?_⟩
  walk_at "dx"
  refine lmul_i mt mh ?_
  walk_at "dx"
  refine ⟨_, pmul top h, rfl, .inr (.inl rfl), ⟨by omega, s2⟩, ?_⟩
  walk_at "dx"
  refine ⟨share under h, 1, rfl, ⟨ss.mono (by decide), sm1 (by decide)⟩, ?_⟩
  by_cases hs : share under h < 1
  · rw [decide_eq_true hs]
    walk_at "dx"
    rw [t11]
    walk_at "dx"
    refine ⟨⟨sm1 (by decide), ss.mono (by decide)⟩, ⟨su.mono (by decide), ((sm1 (b := 1) (by decide)).add ss).mono (by decide), one_add_ne (share_nn _ _)⟩, ⟨sm1 (by decide), ss.mono (by decide)⟩, ⟨su.mono (by decide), ((sm1 (b := 1) (by decide)).sub ss).mono (by decide), one_sub_ne' hs⟩, ?_⟩
    unfold bnds at q
    rw [if_pos hs] at q
    exact q
  · rw [decide_eq_false hs]
    walk_at "dx"
    unfold bnds at q
    rw [if_neg hs] at q
    exact q
def sps1 : FSpec := fun rs w k => ∃ a : Rat, rs = [.d (fr a), .d (fr a)] ∧ k (.d (.bool true)) w
def sps0 : FSpec := fun rs w k => ∃ a : Int, rs = [.d (.int a), .d (.int a)] ∧ k (.d (.bool true)) w
theorem isQ_ti {a : Int} {k : Bool → Prop} : isQ "tuple" (.d (.int a)) k = k false := by
  unfold isQ
  show (match kitB "int" "tuple" with
    | some b => k b
    | none => False) = _
  rw [show kitB "int" "tuple" = some false by decide +kernel]
theorem fEq_bb {x y : Bool} {R : Rv → Prop} : fEq false (.d (.bool x)) (.d (.bool y)) R = R (.d (.bool (x == y))) := by
  rw [fEq_of rfl rfl rfl rfl]
  have e : PyData.eqv (.bool x) (.bool y) = (x == y) := by
    simp only [PyData.eqv]
    try cases x <;> cases y <;> rfl
  rw [e]
  rfl
theorem pr_same0 : Pr (dt__law_same fun _ _ _ => False) 4 2 sps0 := by
  rintro rs w k - ⟨a, rfl, q⟩
  show dt__law_same _ _ ⟨[some (.d (.int a)), some (.d (.int a)), none, none], w⟩
  unfold dt__law_same
  walk_at "dx"
  rw [isQ_ti, if_neg (by decide)]
  simp only [datOf, isNoneD]
  walk_at "dx"
  rw [fEq_bb]
  walk_at "dx"
  rw [if_pos (by decide), fEq_bb]
  walk_at "dx"
  rw [if_pos (by decide), decide_eq_true trivial]
  exact q
theorem fBools_tt {g : List Bool → Bool} {R : Rv → Prop} : fBools g [.d (.list [.bool true, .bool true])] R = R (.d (.bool (g [true, true]))) := rfl
theorem pr_same1 : Pr (dt__law_same sps0) 4 2 sps1 := by
  rintro rs w k - ⟨a, rfl, q⟩
  show dt__law_same _ _ ⟨[some (.d (.tuple [.int a.num, .int (a.den : Int)])), some (.d (.tuple [.int a.num, .int (a.den : Int)])), none, none], w⟩
  unfold dt__law_same
  walk_at "dx"
  rw [if_neg (by simp)]
  refine ⟨cnt_of (show (0 : Int) ≤ ((2 : Nat) : Int) by decide) (show ((2 : Nat) : Int) ≤ _ by decide), by show 2 < 16777216; decide, ?_⟩
  refine comp_mapF PyData.int (fun _ : Int => PyData.bool true) [0, 1] [] (fun i hi K hK => ?_) ?_
  · have hi2 : i = 0 ∨ i = 1 := by simpa using hi
    rcases hi2 with rfl | rfl
    · walk_at "dx"
      exact ⟨_, rfl, hK⟩
    · walk_at "dx"
      exact ⟨_, rfl, hK⟩
  · show fBools _ [.d (.list [.bool true, .bool true])] _
    rw [fBools_tt]
    exact q
theorem pr__law_same : Pr (dt__law_same sps1) 4 2 sp__law_same := by
  rintro rs w k - ⟨a, b, rfl, q⟩
  show dt__law_same _ _ ⟨[some (.d (.tuple [fr a, fr b])), some (.d (.tuple [fr a, fr b])), none, none], w⟩
  unfold dt__law_same
  walk_at "dx"
  rw [if_neg (by simp)]
  refine ⟨cnt_of (show (0 : Int) ≤ ((2 : Nat) : Int) by decide) (show ((2 : Nat) : Int) ≤ _ by decide), by show 2 < 16777216; decide, ?_⟩
  refine comp_mapF PyData.int (fun _ : Int => PyData.bool true) [0, 1] [] (fun i hi K hK => ?_) ?_
  · have hi2 : i = 0 ∨ i = 1 := by simpa using hi
    rcases hi2 with rfl | rfl
    · walk_at "dx"
      exact ⟨_, rfl, hK⟩
    · walk_at "dx"
      exact ⟨_, rfl, hK⟩
  · show fBools _ [.d (.list [.bool true, .bool true])] _
    rw [fBools_tt]
    exact q
end DL
namespace DL
open PySem PySem.Spec PyProof.Rows L2
local macro_rules | `(tactic| walk_at "dx") => `(tactic| simp -implicitDefEqProofs only [wl_eq, var_eq, vq_d, vq_l, vq_a, vq_w, c_eq, op_eq_, un_eq_, fI_eq, fI0_eq, fU_eq, f1I_eq, f2I_eq, fIx_t0, fIx_t1, fIx_fr0, fIx_fr1, daNil_eq, daCons_eq, argOf_d, argOf_l, argOf_a, argOf_p, argOf_w, ddNil_eq, ddCons_eq, kp_d, kp_l, call1_eq, call2_eq, call3_eq, cB_eq,
  tup_eq, lst_eq, small0, small1, small2, small3, small4, small6, small7, seq_eq, next_eq, never_eq, ret_eq, retk_d, retk_l, retV_eq, set_eq, par_eq, sto_d, sto_l, sto_a, asg_eq, tgN_eq, tgTup2_eq, ifS_eq, ifx_eq, tst_eq, tru_eq, andT_eq, orT_eq, notT_eq, andV_eq, orV_eq, notV_eq, drop_eq, isN_eq, sp2_eq,
  for_eq, diSeq_eq, diRng1_eq, diRng2_eq, diRevR_eq, diRev_eq, diZip_eq, revL_eq, lsQ_dl, lsQ_a, lsQ_l, lsQ_p, revT_eq, tpQ_t, tpQ_row, sl_eq, doNone_eq, doSome_eq, fSl_t, fSl_dl, fSl_a, fSl_l, fSl_p, fz_own, diEnumT_eq2, enQ_row, fRep_l, fCat_ll, fCat_lp, asInt_eq, stay_dl, stay_dt, stay_l, stay_a, stayL_dl, stayL_l, stayL_a, comp_eq, yes_eq, isI_eq, isQ_ii, isQ_ib, isQ_tt, isQ_row, fTuple_dl, fTuple_dt, fTuple_a, fList_row, fTuple_row, fList_dl, fList_dt, fList_a, fLen_row, fLen_lr, fLen_ar, fLen_dl, fLen_dt, fLen_a, wipeD,
  sp_plus, sp_minus, sp_times, sp_over, sp__law_plus, sp__law_minus, sp__law_prod, sp__law_per, fEq_ff, fNe_ff, fEq_i, fNe_i, fEq_rr, fNe_rr, fEq_r0, fNe_r0, fNe_pe, setIx_eq, own_eq, oq_l, append_eq, dZERO_eq, dONE_eq, dUNIT_eq, stay_row,
  List.getElem?_cons_zero, List.getElem?_cons_succ, List.set_cons_zero, List.set_cons_succ, if_true, Bool.false_eq_true, if_false, Bool.not_true, Bool.not_false])
theorem seven {d : Int} (h0 : 0 ≤ d) (h1 : d < 997) {z : PyData} (h : z ∈ [PyData.int 1, .int 2, .int 10, .int 100, .int 1000, .int 1000000, .int (1 + d)]) : ∃ m : Int, z = .int m ∧ 1 ≤ m ∧ m ≤ 1000000 := by
  simp only [List.mem_cons, List.not_mem_nil, or_false] at h
  rcases h with rfl | rfl | rfl | rfl | rfl | rfl | rfl
  · exact ⟨_, rfl, by decide, by decide⟩
  · exact ⟨_, rfl, by decide, by decide⟩
  · exact ⟨_, rfl, by decide, by decide⟩
  · exact ⟨_, rfl, by decide, by decide⟩
  · exact ⟨_, rfl, by decide, by decide⟩
  · exact ⟨_, rfl, by decide, by decide⟩
  · exact ⟨_, rfl, by omega, by omega⟩
theorem callK2_eq {Sp : FSpec} {a b : TD} {s : S} {Q : Rv → W3 → Prop} : dCallK 2 Sp (daCons a (daCons b daNil)) s Q = a s fun x w1 => b (s.wl w1) fun y w2 => Sp [argOf y, argOf x] w2 Q := rfl
section
variable {t u : List Rat} {X : Sq} {m : Int} {J i : Nat}
theorem told_sm (B : BOk2 t u (rwn u i)) (hs : share u (rwn u i) < 1) : sm 3970 (loB t u (rwn u i)) ∧ sm 3970 (hiB t u (rwn u i)) :=
  ⟨(B.su.div ((sm1 (b := 1) (by decide)).add B.ss) (one_add_ne (share_nn _ _))).mono (by decide), (B.su.div ((sm1 (b := 1) (by decide)).sub B.ss) (one_sub_ne' hs)).mono (by decide)⟩
theorem meets {m2 : Int} {J2 n1 n2 : Nat} (K1 : Kq t u X m J) (K2 : Kq t u X m2 J2) (hs : share u (rwn u n2) < 1) : loB t u (rwn u n1) ≤ hiB t u (rwn u n2) := by
  have a := K1.lo n1 (Nat.le_refl _)
  have b := K2.hi hs (pmul t (rwn u n1)).length
  grind
theorem are_i {n : Nat} {w : W3} {Q : Rv → W3 → Prop} (K : Kq t u X m J) (m1 : 1 ≤ m) (m2 : m ≤ 1000000) (B : BOk2 t u (rwn u n)) (hn : near t u (rwn u n) m) (q : Q (.d (.bool true)) w) : sp__law_are_bounds [.d (.tuple [fr (loB t u (rwn u n)), fr (hiB t u (rwn u n))]), .d (.int m)] w Q := by
  obtain ⟨sl, sh⟩ := told_sm B hn.1
  exact ⟨_, _, m, rfl, ⟨m1, m2, sl.mono (by decide), sh.mono (by decide)⟩, ⟨(sh.sub sl).mono (by decide), hn.2, meets K K hn.1⟩, q⟩
theorem own_i {n : Nat} {w : W3} {Q : Rv → W3 → Prop} (O : OwnOk t u) (K : Kq t u X m J) (hn : share u (rwn u n) < 1) (q1 : ∀ lo hi, sm 3970 lo → sm 3970 hi → lo ≤ hiB t u (rwn u n) → loB t u (rwn u n) ≤ hi → Q (.d (.tuple [fr lo, fr hi])) w) (q2 : Q (.d .none) w) : sp__law_own_bounds [.d (.tuple [row t, row u]), .d (.int 24)] w Q := by
  have e1 : share u (rwn u 24) < 1 → loB t u (rwn u n) ≤ hiB t u (rwn u 24) := fun h => meets K K h
  have e2 : loB t u (rwn u 24) ≤ hiB t u (rwn u n) := meets K K hn
  have ss := O.ss
  have su := O.su
  refine ⟨t, u, rfl, O, ?_⟩
  clear O
  generalize rwn u 24 = h at *
  unfold bnds
  by_cases hs : share u h < 1
  · rw [if_pos hs]
    exact q1 _ _ ((su.div ((sm1 (b := 1) (by decide)).add ss) (one_add_ne (share_nn _ _))).mono (by decide)) ((su.div ((sm1 (b := 1) (by decide)).sub ss) (one_sub_ne' hs)).mono (by decide)) e2 (e1 hs)
  · rw [if_neg hs]
    exact q2
theorem tot_scale (y : Rat) (N : Nat) : tot (fun k => rabs (mu (pscale y t) X k)) N = rabs y * tot (fun k => rabs (mu t X k)) N := by
  rw [← tot_smul]
  exact tot_congr fun k _ => by rw [mu_pscale, rabs_mul]
end
theorem numb12_i {t u : List Rat} {Q : Rv → W3 → Prop} {w : W3} (hne : u ≠ []) (hl : u.length ≤ 500) (hs : serOk t u 12) (q : Q (.l ((DL.ser t u 12).map fr)) w) : sp__law_numbers [.d (.tuple [row t, row u]), .d (.int ((12 : Nat) : Int))] w Q :=
  ⟨t, u, ((12 : Nat) : Int), rfl, ⟨by decide, by decide, hne, hl, by rw [Int.toNat_natCast]; exact hs⟩, by rw [Int.toNat_natCast]; exact q⟩
theorem pr__law_right : Pr dt__law_right 11 1 sp__law_right := by
  rintro rs w k - ⟨rfl, hw, q⟩
  show dt__law_right _ ⟨[some .w, none, none, none, none, none, none, none, none, none, none], w⟩
  unfold dt__law_right
  walk_at "dx"
  refine ⟨3, 0, rfl, ⟨by decide, by decide, hw, by decide⟩, fun top w1 h1 tt tne tl hw1 => ?_⟩
  have T := Tp.of h1 tt (by omega)
  refine ⟨1, 100, rfl, ⟨by decide, by decide, hw1.mono (by decide), by decide⟩, fun u1 w2 c1 hw2 => ?_⟩
  refine ⟨2, 200, rfl, ⟨by decide, by decide, hw2, by decide⟩, fun u2 w3 c2 hw3 => ?_⟩
  have C1 := c1.b (by decide)
  have C2 := c2.b (by decide)
  obtain ⟨r, as, p, G, ew⟩ := und_gz c1 c2
  have w0 : co (pmul u1 u2) 0 = 1 := by rw [head_mu (z := co (pmul u1 u2) 0) C1.one (co_pmul u1 u2 0), C2.one]
  walk_at "dx"
  refine lmul_i C1.z C2.z ?_
  walk_at "dx"
  refine ⟨top, pmul u1 u2, 11, 11, 11, 9, rfl, first_nm T (G.sub3 (trim_trimd _) ew) w0, fun t u g N _ _ => ?_⟩
  obtain ⟨X, A⟩ := aq_of T (by omega) tne G (trim_trimd _) ew w0 N
  have AA := A.ans
  obtain ⟨as2, p2, S2⟩ := A.sub
  have CB := S2.chk.b
  walk_at "dx"
  refine draw_i (n := 300) (by decide) (by decide) hw3 (by decide) fun d w4 d0 d1 hw4 => ?_
  walk_at "dx"
  refine pick_i (n := 301) (by simp) (by show 7 ≤ 1000; decide) hw4 (by decide) fun z w5 hz hw5 => ?_
  obtain ⟨m, rfl, m1, m2⟩ := seven d0 d1 hz
  obtain ⟨J, K⟩ := A.kq m m1 m2
  walk_at "dx"
  refine ⟨t, u, m, J, rfl, ⟨⟨m1, m2⟩, AA, CB, K.bd m1⟩, fun i hi hiJ => ?_⟩
  walk_at "dx"
  have hp : 2 ^ i ≤ 2 ^ J := Nat.pow_le_pow_right (by decide) hi
  have B := K.bok hp
  have hn := hiJ.1
  obtain ⟨sl, sh⟩ := told_sm B hn.1
  have O := A.own
  refine are_i K m1 m2 B hn ?_
  walk_at "dx"
  rw [callK2_eq]
  walk_at "dx"
  refine ⟨t, u, m, J, rfl, ⟨⟨m1, m2⟩, AA, CB, K.bd m1⟩, fun i' hi' hiJ' => ?_⟩
  have ei := hiJ'.one hiJ
  subst ei
  walk_at "dx"
  refine ⟨_, _, rfl, ?_⟩
  walk_at "dx"
  refine own_i O K hn.1 (fun lo4 hi4 os1 os2 om1 om2 => ?_) ?_
  case' refine_1 =>
    simp only [datOf, isNoneD]
    walk_at "dx"
    refine ⟨_, _, _, _, rfl, ⟨⟨os1.mono (by decide), os2.mono (by decide), sl.mono (by decide), sh.mono (by decide)⟩, om2, om1⟩, ?_⟩
    walk_at "dx"
    generalize (some (Rv.d (PyData.tuple [fr lo4, fr hi4])) : Option Rv) = ob
  case' refine_2 =>
    simp only [datOf, isNoneD]
    walk_at "dx"
    generalize (some (Rv.d PyData.none) : Option Rv) = ob
  all_goals
    obtain ⟨so, sn, DA, MA, ⟨f1, f2, f3⟩, fL⟩ := A.nums
    refine numb12_i K.ne (by have := K.lu; omega) so ?_
    have ll := ser_len t u 12
    have hiS := K.hi hn.1
    obtain ⟨N0, loS⟩ : ∃ N0, ∀ N, N0 ≤ N → loB t u (rwn u (2 ^ i')) ≤ tot (fun k => rabs (mu t X k)) N := ⟨_, fun N h => K.lo (2 ^ i') h⟩
    generalize hL : DL.ser t u 12 = L at *
    walk_at "dx"
    generalize hlo : loB t u (rwn u (2 ^ i')) = lo at *
    generalize hhi : hiB t u (rwn u (2 ^ i')) = hi at *
    rw [t01]
    refine loopD_inv (fun j s => j ≤ L.length ∧ ∃ o, s = ⟨[some .w, some (.d (.tuple [row t, row u])), some (.d (.int m)), some (.d (.tuple [fr lo, fr hi])), ob, some (.d (fr (tot (fun k => rabs (co L k)) j))), o, none, none, none, none], w5⟩) _ ?_ ?_ ⟨Nat.zero_le _, none, rfl⟩
    · rintro j x s K2 hx ⟨hj, o, rfl⟩ hK
      rw [List.getElem?_map] at hx
      obtain ⟨y, ey, rfl⟩ := Option.map_eq_some_iff.mp hx
      have hjl : j < L.length := (List.getElem?_eq_some_iff.mp ey).1
      have ey2 := co_lt ey
      have sT : ∀ n, n ≤ 12 → sm 400 (tot (fun k => rabs (co L k)) n) := fun n hn2 => ((FB.tot (fun k => (fL k).abs) n).mono (Nat.mul_le_mul_right MA hn2)).sm f1 (upp f2 (by decide)) (upp (mulp (show 12 < 2 ^ 4 by decide) f3) (by decide))
      have sy : sm 400 (rabs y) := by
        rw [← ey2]
        exact ((fL j).abs).sm f1 (upp f2 (by decide)) (upp f3 (by decide))
      walk_at "dx"
      refine ⟨y, rfl, ?_⟩
      walk_at "dx"
      refine ⟨⟨(sT j (by omega)).mono (by decide), sy.mono (by decide)⟩, ?_⟩
      have et : tot (fun k => rabs (co L k)) j + rabs y = tot (fun k => rabs (co L k)) (j + 1) := by rw [← ey2]; rfl
      rw [et]
      refine ⟨hi, _, rfl, ⟨sh.mono (by decide), (sT (j + 1) (by omega)).mono (by decide)⟩, ?_⟩
      have nl : ¬ hi < tot (fun k => rabs (co L k)) (j + 1) := by
        rw [tot_congr (g := fun k => rabs (mu t X k)) fun k hk => by rw [sn, if_pos (by omega)]]
        have := hiS (j + 1)
        grind
      rw [decide_eq_false nl]
      walk_at "dx"
      exact hK _ ⟨hjl, _, rfl⟩
    · rintro s ⟨_, o, rfl⟩
      walk_at "dx"
      refine ⟨302, rfl, ⟨hw5, by decide⟩, fun y w6 hy y0 hw6 => ?_⟩
      have fy := okN_fb hy
      have sy : sm 100 y := fy.sm (by decide) (by decide) (by decide)
      obtain ⟨Js, Ks⟩ := A.sc y fy
      have AS := A.anS fy y0
      walk_at "dx"
      refine ⟨t, y, rfl, ⟨by have := A.lt; omega, sy.mono (by decide), by assumption⟩, ?_⟩
      walk_at "dx"
      refine ⟨pscale y t, u, 5, Js, rfl, ⟨⟨by decide, by decide⟩, AS, CB, Ks.bd (by decide)⟩, fun i5 hi5 hj5 => ?_⟩
      have Bs := Ks.bok (Nat.pow_le_pow_right (show 0 < 2 by decide) hi5)
      walk_at "dx"
      refine ⟨y, rfl, ?_⟩
      walk_at "dx"
      refine are_i Ks (by decide) (by decide) Bs hj5.1 ?_
      walk_at "dx"
      have ry : 0 ≤ rabs y := rabs_nn y
      have sry : sm 100 (rabs y) := sy.abs
      obtain ⟨sl5, sh5⟩ := told_sm Bs hj5.1.1
      refine ⟨⟨sl.mono (by decide), sry.mono (by decide)⟩, ⟨sh.mono (by decide), sry.mono (by decide)⟩, ?_⟩
      have m5a : lo * rabs y ≤ hiB (pscale y t) u (rwn u (2 ^ i5)) := by
        have a1 := loS N0 (Nat.le_refl _)
        have a2 := Ks.hi hj5.1.1 N0
        rw [tot_scale] at a2
        have a3 := Rat.mul_nonneg (show 0 ≤ tot (fun k => rabs (mu t X k)) N0 - lo by grind) ry
        grind
      have m5b : loB (pscale y t) u (rwn u (2 ^ i5)) ≤ hi * rabs y := by
        have a1 := Ks.lo (2 ^ i5) (Nat.le_refl _)
        rw [tot_scale] at a1
        have a2 := hiS (pmul (pscale y t) (rwn u (2 ^ i5))).length
        have a3 := Rat.mul_nonneg (show 0 ≤ hi - tot (fun k => rabs (mu t X k)) (pmul (pscale y t) (rwn u (2 ^ i5))).length by grind) ry
        grind
      refine ⟨_, _, _, _, rfl, ⟨⟨sl5.mono (by decide), sh5.mono (by decide), (sl.mul sry).mono (by decide), (sh.mul sry).mono (by decide)⟩, m5a, m5b⟩, ?_⟩
      walk_at "dx"
      obtain ⟨J1, K1⟩ := A.kq 1 (by decide) (by decide)
      refine ⟨t, u, 1, J1, rfl, ⟨⟨by decide, by decide⟩, AA, CB, K1.bd (by decide)⟩, fun i1 hi1 hj1 => ?_⟩
      have B1 := K1.bok (Nat.pow_le_pow_right (show 0 < 2 by decide) hi1)
      obtain ⟨sl1, sh1⟩ := told_sm B1 hj1.1.1
      walk_at "dx"
      refine are_i K1 (by decide) (by decide) B1 hj1.1 ?_
      walk_at "dx"
      have m1a : lo ≤ hiB t u (rwn u (2 ^ i1)) := by
        have a1 := loS N0 (Nat.le_refl _)
        have a2 := K1.hi hj1.1.1 N0
        grind
      have m1b : loB t u (rwn u (2 ^ i1)) ≤ hi := by
        have a1 := K1.lo (2 ^ i1) (Nat.le_refl _)
        have a2 := hiS (pmul t (rwn u (2 ^ i1))).length
        grind
      refine ⟨_, _, _, _, rfl, ⟨⟨sl1.mono (by decide), sh1.mono (by decide), sl.mono (by decide), sh.mono (by decide)⟩, m1a, m1b⟩, ?_⟩
      exact q _
end DL
namespace DL
open PySem PySem.Spec PyProof.Rows L2
local macro_rules | `(tactic| walk_at "dx") => `(tactic| simp -implicitDefEqProofs only [wl_eq, var_eq, vq_d, vq_l, vq_a, vq_w, c_eq, op_eq_, un_eq_, fI_eq, fI0_eq, fU_eq, f1I_eq, f2I_eq, fIx_t0, fIx_t1, fIx_fr0, fIx_fr1, daNil_eq, daCons_eq, argOf_d, argOf_l, argOf_a, argOf_p, argOf_w, ddNil_eq, ddCons_eq, kp_d, kp_l, call1_eq, call2_eq, call3_eq, cB_eq,
  tup_eq, lst_eq, small0, small1, small2, small3, small4, small6, small7, seq_eq, next_eq, never_eq, ret_eq, retk_d, retk_l, retV_eq, set_eq, par_eq, sto_d, sto_l, sto_a, asg_eq, tgN_eq, tgTup2_eq, ifS_eq, ifx_eq, tst_eq, tru_eq, andT_eq, orT_eq, notT_eq, andV_eq, orV_eq, notV_eq, drop_eq, isN_eq, sp2_eq,
  for_eq, diSeq_eq, diRng1_eq, diRng2_eq, diRevR_eq, diRev_eq, diZip_eq, revL_eq, lsQ_dl, lsQ_a, lsQ_l, lsQ_p, revT_eq, tpQ_t, tpQ_row, sl_eq, doNone_eq, doSome_eq, fSl_t, fSl_dl, fSl_a, fSl_l, fSl_p, fz_own, diEnumT_eq2, enQ_row, fRep_l, fCat_ll, fCat_lp, asInt_eq, stay_dl, stay_dt, stay_l, stay_a, stayL_dl, stayL_l, stayL_a, comp_eq, yes_eq, isI_eq, isQ_ii, isQ_ib, isQ_tt, isQ_row, fTuple_dl, fTuple_dt, fTuple_a, fList_row, fTuple_row, fList_dl, fList_dt, fList_a, fLen_row, fLen_lr, fLen_ar, fLen_dl, fLen_dt, fLen_a, wipeD,
  sp_plus, sp_minus, sp_times, sp_over, sp__law_plus, sp__law_minus, sp__law_prod, sp__law_per, fEq_ff, fNe_ff, fEq_i, fNe_i, fEq_rr, fNe_rr, fEq_r0, fNe_r0, fNe_pe, setIx_eq, own_eq, oq_l, append_eq, dZERO_eq, dONE_eq, dUNIT_eq, stay_row,
  List.getElem?_cons_zero, List.getElem?_cons_succ, List.set_cons_zero, List.set_cons_succ, if_true, Bool.false_eq_true, if_false, Bool.not_true, Bool.not_false])
theorem callW_eq {Sp : FSpec} {t : TD} {s : S} {Q : Rv → W3 → Prop} : dCallW Sp t s Q = t s fun r w => match r with
  | .l [.int a, .int b, .int c] => Sp [.w] (a, b, c) fun r2 _ => Q r2 w
  | _ => False := rfl
theorem pr_law : Pr dt_law 2 1 sp_law := by
  rintro rs w k - ⟨ns, rfl, hl, q⟩
  show dt_law _ ⟨[some (.d (.list (ns.map PyData.int))), none], w⟩
  unfold dt_law
  walk_at "dx"
  refine ⟨cnt_of (by decide) (by decide), by decide, ?_⟩
  refine comp_mapF PyData.int (fun _ : Int => PyData.bool true) [0, 1] [] (fun i hi K hK => ?_) ?_
  · have hi2 : i = 0 ∨ i = 1 := by simpa using hi
    walk_at "dx"
    rw [callW_eq]
    walk_at "dx"
    refine ⟨ns, i, rfl, ⟨by omega, by omega, by omega⟩, fun a b ha hb hb2 => ?_⟩
    show sp__law_right [.w] (a, b, 0) _
    exact ⟨rfl, ⟨ha, ⟨hb, hb2⟩, Int.le_refl 0, Int.le_refl 0⟩, fun _ => hK⟩
  · show fBools _ [.d (.list [.bool true, .bool true])] _
    rw [fBools_tt]
    exact q w
end DL
namespace DL
open PySem PySem.Spec PyProof.Rows L2
def At (K : PySem.W.Frag) (mg : PySem.Str → Option Value) (x : PySem.Str) (i : Nat) : Prop := mg x = some (.ref (He.fAd K (x, none))) ∧ ∃ fd, FunD K x x (defArgs (top i)) (defBody (top i)) (defScope (top i)) [] [] (He.fAd K (x, none)) fd
def AllD (K : PySem.W.Frag) (mg : PySem.Str → Option Value) : Prop := ∀ (j : Nat) (p : PySem.Str × Nat), tbl[j]? = some p → At K mg p.1 p.2
theorem has__law_cut {P : Program} {w : World} {K : PySem.W.Frag} {mg : PySem.Str → Option Value} {base : Heap} (B : Fre mg) (c : Csts K mg) (D : AllD K mg) : Has P w K mg base 1 "_law_cut" ["some"] 1 sp__law_cut := by
  obtain ⟨hm, fd, F⟩ := D 0 ("_law_cut", 72) rfl
  have F' : FnS K "_law_cut" s__law_cut (He.fAd K ("_law_cut", none)) fd := Eq.mpr (congrArg (fun s : Stmt => FnS K "_law_cut" s (He.fAd K ("_law_cut", none)) fd) z__law_cut.property) F
  exact has_of F' sc__law_cut hm bd__law_cut (fun cdv A outer s H E hr => wk__law_cut B c  cdv A outer s H E hr) pr__law_cut
theorem has__law_deep {P : Program} {w : World} {K : PySem.W.Frag} {mg : PySem.Str → Option Value} {base : Heap} (B : Fre mg) (c : Csts K mg) (D : AllD K mg) : Has P w K mg base 1 "_law_deep" ["one", "two"] 2 sp__law_deep := by
  obtain ⟨hm, fd, F⟩ := D 1 ("_law_deep", 61) rfl
  have F' : FnS K "_law_deep" s__law_deep (He.fAd K ("_law_deep", none)) fd := Eq.mpr (congrArg (fun s : Stmt => FnS K "_law_deep" s (He.fAd K ("_law_deep", none)) fd) z__law_deep.property) F
  exact has_of F' sc__law_deep hm bd__law_deep (fun cdv A outer s H E hr => wk__law_deep B c  cdv A outer s H E hr) pr__law_deep
theorem has__law_low {P : Program} {w : World} {K : PySem.W.Frag} {mg : PySem.Str → Option Value} {base : Heap} (B : Fre mg) (c : Csts K mg) (D : AllD K mg) : Has P w K mg base 2 "_law_low" ["top", "under"] 2 sp__law_low := by
  obtain ⟨hm, fd, F⟩ := D 2 ("_law_low", 62) rfl
  have F' : FnS K "_law_low" s__law_low (He.fAd K ("_law_low", none)) fd := Eq.mpr (congrArg (fun s : Stmt => FnS K "_law_low" s (He.fAd K ("_law_low", none)) fd) z__law_low.property) F
  exact has_of F' sc__law_low hm bd__law_low (fun cdv A outer s H E hr => wk__law_low B c (has__law_deep B c D) cdv A outer s H E hr) pr__law_low
theorem has__law_prod {P : Program} {w : World} {K : PySem.W.Frag} {mg : PySem.Str → Option Value} {base : Heap} (B : Fre mg) (c : Csts K mg) (D : AllD K mg) : Has P w K mg base 3 "_law_prod" ["one", "two"] 2 sp__law_prod := by
  obtain ⟨hm, fd, F⟩ := D 3 ("_law_prod", 65) rfl
  have F' : FnS K "_law_prod" s__law_prod (He.fAd K ("_law_prod", none)) fd := Eq.mpr (congrArg (fun s : Stmt => FnS K "_law_prod" s (He.fAd K ("_law_prod", none)) fd) z__law_prod.property) F
  exact has_of F' sc__law_prod hm bd__law_prod (fun cdv A outer s H E hr => wk__law_prod B c (has__law_low B c D) cdv A outer s H E hr) pr__law_prod
theorem has__law_times {P : Program} {w : World} {K : PySem.W.Frag} {mg : PySem.Str → Option Value} {base : Heap} (B : Fre mg) (c : Csts K mg) (D : AllD K mg) : Has P w K mg base 4 "_law_times" ["one", "by"] 2 sp__law_times := by
  obtain ⟨hm, fd, F⟩ := D 4 ("_law_times", 74) rfl
  have F' : FnS K "_law_times" s__law_times (He.fAd K ("_law_times", none)) fd := Eq.mpr (congrArg (fun s : Stmt => FnS K "_law_times" s (He.fAd K ("_law_times", none)) fd) z__law_times.property) F
  exact has_of F' sc__law_times hm bd__law_times (fun cdv A outer s H E hr => wk__law_times B c (has__law_cut B c D) (has__law_prod B c D) cdv A outer s H E hr) pr__law_times
theorem has__law_per {P : Program} {w : World} {K : PySem.W.Frag} {mg : PySem.Str → Option Value} {base : Heap} (B : Fre mg) (c : Csts K mg) (D : AllD K mg) : Has P w K mg base 3 "_law_per" ["one", "two"] 2 sp__law_per := by
  obtain ⟨hm, fd, F⟩ := D 5 ("_law_per", 66) rfl
  have F' : FnS K "_law_per" s__law_per (He.fAd K ("_law_per", none)) fd := Eq.mpr (congrArg (fun s : Stmt => FnS K "_law_per" s (He.fAd K ("_law_per", none)) fd) z__law_per.property) F
  exact has_of F' sc__law_per hm bd__law_per (fun cdv A outer s H E hr => wk__law_per B c (has__law_low B c D) cdv A outer s H E hr) pr__law_per
theorem has__law_lowest_one {P : Program} {w : World} {K : PySem.W.Frag} {mg : PySem.Str → Option Value} {base : Heap} (B : Fre mg) (c : Csts K mg) (D : AllD K mg) : Has P w K mg base 5 "_law_lowest_one" ["one"] 1 sp__law_lowest_one := by
  obtain ⟨hm, fd, F⟩ := D 6 ("_law_lowest_one", 78) rfl
  have F' : FnS K "_law_lowest_one" s__law_lowest_one (He.fAd K ("_law_lowest_one", none)) fd := Eq.mpr (congrArg (fun s : Stmt => FnS K "_law_lowest_one" s (He.fAd K ("_law_lowest_one", none)) fd) z__law_lowest_one.property) F
  exact has_of F' sc__law_lowest_one hm bd__law_lowest_one (fun cdv A outer s H E hr => wk__law_lowest_one B c (has__law_times B c D) (has__law_per B c D) cdv A outer s H E hr) pr__law_lowest_one
theorem has__law_minus {P : Program} {w : World} {K : PySem.W.Frag} {mg : PySem.Str → Option Value} {base : Heap} (B : Fre mg) (c : Csts K mg) (D : AllD K mg) : Has P w K mg base 3 "_law_minus" ["one", "two"] 2 sp__law_minus := by
  obtain ⟨hm, fd, F⟩ := D 7 ("_law_minus", 64) rfl
  have F' : FnS K "_law_minus" s__law_minus (He.fAd K ("_law_minus", none)) fd := Eq.mpr (congrArg (fun s : Stmt => FnS K "_law_minus" s (He.fAd K ("_law_minus", none)) fd) z__law_minus.property) F
  exact has_of F' sc__law_minus hm bd__law_minus (fun cdv A outer s H E hr => wk__law_minus B c (has__law_low B c D) cdv A outer s H E hr) pr__law_minus
theorem has__law_parted {P : Program} {w : World} {K : PySem.W.Frag} {mg : PySem.Str → Option Value} {base : Heap} (B : Fre mg) (c : Csts K mg) (D : AllD K mg) : Has P w K mg base 4 "_law_parted" ["one", "two"] 2 sp__law_parted := by
  obtain ⟨hm, fd, F⟩ := D 8 ("_law_parted", 77) rfl
  have F' : FnS K "_law_parted" s__law_parted (He.fAd K ("_law_parted", none)) fd := Eq.mpr (congrArg (fun s : Stmt => FnS K "_law_parted" s (He.fAd K ("_law_parted", none)) fd) z__law_parted.property) F
  exact has_of F' sc__law_parted hm bd__law_parted (fun cdv A outer s H E hr => wk__law_parted B c (has__law_per B c D) (has__law_minus B c D) (has__law_prod B c D) (has__law_cut B c D) cdv A outer s H E hr) pr__law_parted
theorem has__law_common {P : Program} {w : World} {K : PySem.W.Frag} {mg : PySem.Str → Option Value} {base : Heap} (B : Fre mg) (c : Csts K mg) (D : AllD K mg) : Has P w K mg base 6 "_law_common" ["one", "two"] 2 sp__law_common := by
  obtain ⟨hm, fd, F⟩ := D 9 ("_law_common", 79) rfl
  have F' : FnS K "_law_common" s__law_common (He.fAd K ("_law_common", none)) fd := Eq.mpr (congrArg (fun s : Stmt => FnS K "_law_common" s (He.fAd K ("_law_common", none)) fd) z__law_common.property) F
  exact has_of F' sc__law_common hm bd__law_common (fun cdv A outer s H E hr => wk__law_common B c (has__law_parted B c D) (has__law_times B c D) (has__law_per B c D) (has__law_lowest_one B c D) cdv A outer s H E hr) pr__law_common
theorem has__law_answer {P : Program} {w : World} {K : PySem.W.Frag} {mg : PySem.Str → Option Value} {base : Heap} (B : Fre mg) (c : Csts K mg) (D : AllD K mg) : Has P w K mg base 7 "_law_answer" ["top", "under"] 2 sp__law_answer := by
  obtain ⟨hm, fd, F⟩ := D 10 ("_law_answer", 80) rfl
  have F' : FnS K "_law_answer" s__law_answer (He.fAd K ("_law_answer", none)) fd := Eq.mpr (congrArg (fun s : Stmt => FnS K "_law_answer" s (He.fAd K ("_law_answer", none)) fd) z__law_answer.property) F
  exact has_of F' sc__law_answer hm bd__law_answer (fun cdv A outer s H E hr => wk__law_answer B c (has__law_common B c D) (has__law_parted B c D) (has__law_per B c D) (has__law_times B c D) cdv A outer s H E hr) pr__law_answer
theorem has__law_draw {P : Program} {w : World} {K : PySem.W.Frag} {mg : PySem.Str → Option Value} {base : Heap} (B : Fre mg) (c : Csts K mg) (D : AllD K mg) : Has P w K mg base 1 "_law_draw" ["well", "top"] 2 sp__law_draw := by
  obtain ⟨hm, fd, F⟩ := D 11 ("_law_draw", 59) rfl
  have F' : FnS K "_law_draw" s__law_draw (He.fAd K ("_law_draw", none)) fd := Eq.mpr (congrArg (fun s : Stmt => FnS K "_law_draw" s (He.fAd K ("_law_draw", none)) fd) z__law_draw.property) F
  exact has_of F' sc__law_draw hm bd__law_draw (fun cdv A outer s H E hr => wk__law_draw B c  cdv A outer s H E hr) pr__law_draw
theorem has__law_pick {P : Program} {w : World} {K : PySem.W.Frag} {mg : PySem.Str → Option Value} {base : Heap} (B : Fre mg) (c : Csts K mg) (D : AllD K mg) : Has P w K mg base 2 "_law_pick" ["well", "some"] 2 sp__law_pick := by
  obtain ⟨hm, fd, F⟩ := D 12 ("_law_pick", 60) rfl
  have F' : FnS K "_law_pick" s__law_pick (He.fAd K ("_law_pick", none)) fd := Eq.mpr (congrArg (fun s : Stmt => FnS K "_law_pick" s (He.fAd K ("_law_pick", none)) fd) z__law_pick.property) F
  exact has_of F' sc__law_pick hm bd__law_pick (fun cdv A outer s H E hr => wk__law_pick B c (has__law_draw B c D) cdv A outer s H E hr) pr__law_pick
theorem has_divisor_of {P : Program} {w : World} {K : PySem.W.Frag} {mg : PySem.Str → Option Value} {base : Heap} (B : Fre mg) (c : Csts K mg) (D : AllD K mg) : Has P w K mg base 1 "divisor_of" ["numbers"] 1 sp_divisor_of := by
  obtain ⟨hm, fd, F⟩ := D 13 ("divisor_of", 10) rfl
  have F' : FnS K "divisor_of" s_divisor_of (He.fAd K ("divisor_of", none)) fd := Eq.mpr (congrArg (fun s : Stmt => FnS K "divisor_of" s (He.fAd K ("divisor_of", none)) fd) z_divisor_of.property) F
  exact has_of F' sc_divisor_of hm bd_divisor_of (fun cdv A outer s H E hr => wk_divisor_of B c  cdv A outer s H E hr) pr_divisor_of
theorem has_lowest {P : Program} {w : World} {K : PySem.W.Frag} {mg : PySem.Str → Option Value} {base : Heap} (B : Fre mg) (c : Csts K mg) (D : AllD K mg) : Has P w K mg base 2 "lowest" ["numbers"] 1 sp_lowest := by
  obtain ⟨hm, fd, F⟩ := D 14 ("lowest", 11) rfl
  have F' : FnS K "lowest" s_lowest (He.fAd K ("lowest", none)) fd := Eq.mpr (congrArg (fun s : Stmt => FnS K "lowest" s (He.fAd K ("lowest", none)) fd) z_lowest.property) F
  exact has_of F' sc_lowest hm bd_lowest (fun cdv A outer s H E hr => wk_lowest B c (has_divisor_of B c D) cdv A outer s H E hr) pr_lowest
theorem has_ratio {P : Program} {w : World} {K : PySem.W.Frag} {mg : PySem.Str → Option Value} {base : Heap} (B : Fre mg) (c : Csts K mg) (D : AllD K mg) : Has P w K mg base 3 "ratio" ["top", "low"] 2 sp_ratio := by
  obtain ⟨hm, fd, F⟩ := D 15 ("ratio", 16) rfl
  have F' : FnS K "ratio" s_ratio (He.fAd K ("ratio", none)) fd := Eq.mpr (congrArg (fun s : Stmt => FnS K "ratio" s (He.fAd K ("ratio", none)) fd) z_ratio.property) F
  exact has_of F' sc_ratio hm bd_ratio (fun cdv A outer s H E hr => wk_ratio B c (has_lowest B c D) cdv A outer s H E hr) pr_ratio
theorem has_plus {P : Program} {w : World} {K : PySem.W.Frag} {mg : PySem.Str → Option Value} {base : Heap} (B : Fre mg) (c : Csts K mg) (D : AllD K mg) : Has P w K mg base 4 "plus" ["one", "two"] 2 sp_plus := by
  obtain ⟨hm, fd, F⟩ := D 16 ("plus", 17) rfl
  have F' : FnS K "plus" s_plus (He.fAd K ("plus", none)) fd := Eq.mpr (congrArg (fun s : Stmt => FnS K "plus" s (He.fAd K ("plus", none)) fd) z_plus.property) F
  exact has_of F' sc_plus hm bd_plus (fun cdv A outer s H E hr => wk_plus B c (has_ratio B c D) cdv A outer s H E hr) pr_plus
theorem has_total {P : Program} {w : World} {K : PySem.W.Frag} {mg : PySem.Str → Option Value} {base : Heap} (B : Fre mg) (c : Csts K mg) (D : AllD K mg) : Has P w K mg base 5 "total" ["fractions"] 1 sp_total := by
  obtain ⟨hm, fd, F⟩ := D 17 ("total", 21) rfl
  have F' : FnS K "total" s_total (He.fAd K ("total", none)) fd := Eq.mpr (congrArg (fun s : Stmt => FnS K "total" s (He.fAd K ("total", none)) fd) z_total.property) F
  exact has_of F' sc_total hm bd_total (fun cdv A outer s H E hr => wk_total B c (has_plus B c D) cdv A outer s H E hr) pr_total
theorem has_size_of {P : Program} {w : World} {K : PySem.W.Frag} {mg : PySem.Str → Option Value} {base : Heap} (B : Fre mg) (c : Csts K mg) (D : AllD K mg) : Has P w K mg base 1 "size_of" ["one"] 1 sp_size_of := by
  obtain ⟨hm, fd, F⟩ := D 18 ("size_of", 23) rfl
  have F' : FnS K "size_of" s_size_of (He.fAd K ("size_of", none)) fd := Eq.mpr (congrArg (fun s : Stmt => FnS K "size_of" s (He.fAd K ("size_of", none)) fd) z_size_of.property) F
  exact has_of F' sc_size_of hm bd_size_of (fun cdv A outer s H E hr => wk_size_of B c  cdv A outer s H E hr) pr_size_of
theorem has_sizes_by {P : Program} {w : World} {K : PySem.W.Frag} {mg : PySem.Str → Option Value} {base : Heap} (B : Fre mg) (c : Csts K mg) (D : AllD K mg) : Has P w K mg base 6 "sizes_by" ["row"] 1 sp_sizes_by := by
  obtain ⟨hm, fd, F⟩ := D 19 ("sizes_by", 51) rfl
  have F' : FnS K "sizes_by" s_sizes_by (He.fAd K ("sizes_by", none)) fd := Eq.mpr (congrArg (fun s : Stmt => FnS K "sizes_by" s (He.fAd K ("sizes_by", none)) fd) z_sizes_by.property) F
  exact has_of F' sc_sizes_by hm bd_sizes_by (fun cdv A outer s H E hr => wk_sizes_by B c (has_total B c D) (has_size_of B c D) cdv A outer s H E hr) pr_sizes_by
theorem has_trimmed {P : Program} {w : World} {K : PySem.W.Frag} {mg : PySem.Str → Option Value} {base : Heap} (B : Fre mg) (c : Csts K mg) (D : AllD K mg) : Has P w K mg base 1 "trimmed" ["numbers"] 1 sp_trimmed := by
  obtain ⟨hm, fd, F⟩ := D 20 ("trimmed", 26) rfl
  have F' : FnS K "trimmed" s_trimmed (He.fAd K ("trimmed", none)) fd := Eq.mpr (congrArg (fun s : Stmt => FnS K "trimmed" s (He.fAd K ("trimmed", none)) fd) z_trimmed.property) F
  exact has_of F' sc_trimmed hm bd_trimmed (fun cdv A outer s H E hr => wk_trimmed B c  cdv A outer s H E hr) pr_trimmed
theorem has_minus {P : Program} {w : World} {K : PySem.W.Frag} {mg : PySem.Str → Option Value} {base : Heap} (B : Fre mg) (c : Csts K mg) (D : AllD K mg) : Has P w K mg base 4 "minus" ["one", "two"] 2 sp_minus := by
  obtain ⟨hm, fd, F⟩ := D 21 ("minus", 18) rfl
  have F' : FnS K "minus" s_minus (He.fAd K ("minus", none)) fd := Eq.mpr (congrArg (fun s : Stmt => FnS K "minus" s (He.fAd K ("minus", none)) fd) z_minus.property) F
  exact has_of F' sc_minus hm bd_minus (fun cdv A outer s H E hr => wk_minus B c (has_ratio B c D) cdv A outer s H E hr) pr_minus
theorem has_number_at {P : Program} {w : World} {K : PySem.W.Frag} {mg : PySem.Str → Option Value} {base : Heap} (B : Fre mg) (c : Csts K mg) (D : AllD K mg) : Has P w K mg base 1 "number_at" ["row", "place"] 2 sp_number_at := by
  obtain ⟨hm, fd, F⟩ := D 22 ("number_at", 27) rfl
  have F' : FnS K "number_at" s_number_at (He.fAd K ("number_at", none)) fd := Eq.mpr (congrArg (fun s : Stmt => FnS K "number_at" s (He.fAd K ("number_at", none)) fd) z_number_at.property) F
  exact has_of F' sc_number_at hm bd_number_at (fun cdv A outer s H E hr => wk_number_at B c  cdv A outer s H E hr) pr_number_at
theorem has_lessened {P : Program} {w : World} {K : PySem.W.Frag} {mg : PySem.Str → Option Value} {base : Heap} (B : Fre mg) (c : Csts K mg) (D : AllD K mg) : Has P w K mg base 5 "lessened" ["row", "other"] 2 sp_lessened := by
  obtain ⟨hm, fd, F⟩ := D 23 ("lessened", 29) rfl
  have F' : FnS K "lessened" s_lessened (He.fAd K ("lessened", none)) fd := Eq.mpr (congrArg (fun s : Stmt => FnS K "lessened" s (He.fAd K ("lessened", none)) fd) z_lessened.property) F
  exact has_of F' sc_lessened hm bd_lessened (fun cdv A outer s H E hr => wk_lessened B c (has_trimmed B c D) (has_minus B c D) (has_number_at B c D) cdv A outer s H E hr) pr_lessened
theorem has_is_below {P : Program} {w : World} {K : PySem.W.Frag} {mg : PySem.Str → Option Value} {base : Heap} (B : Fre mg) (c : Csts K mg) (D : AllD K mg) : Has P w K mg base 1 "is_below" ["one", "two"] 2 sp_is_below := by
  obtain ⟨hm, fd, F⟩ := D 24 ("is_below", 22) rfl
  have F' : FnS K "is_below" s_is_below (He.fAd K ("is_below", none)) fd := Eq.mpr (congrArg (fun s : Stmt => FnS K "is_below" s (He.fAd K ("is_below", none)) fd) z_is_below.property) F
  exact has_of F' sc_is_below hm bd_is_below (fun cdv A outer s H E hr => wk_is_below B c  cdv A outer s H E hr) pr_is_below
theorem has_times {P : Program} {w : World} {K : PySem.W.Frag} {mg : PySem.Str → Option Value} {base : Heap} (B : Fre mg) (c : Csts K mg) (D : AllD K mg) : Has P w K mg base 4 "times" ["one", "two"] 2 sp_times := by
  obtain ⟨hm, fd, F⟩ := D 25 ("times", 19) rfl
  have F' : FnS K "times" s_times (He.fAd K ("times", none)) fd := Eq.mpr (congrArg (fun s : Stmt => FnS K "times" s (He.fAd K ("times", none)) fd) z_times.property) F
  exact has_of F' sc_times hm bd_times (fun cdv A outer s H E hr => wk_times B c (has_ratio B c D) cdv A outer s H E hr) pr_times
theorem has_multiplied {P : Program} {w : World} {K : PySem.W.Frag} {mg : PySem.Str → Option Value} {base : Heap} (B : Fre mg) (c : Csts K mg) (D : AllD K mg) : Has P w K mg base 5 "multiplied" ["row", "other"] 2 sp_multiplied := by
  obtain ⟨hm, fd, F⟩ := D 26 ("multiplied", 30) rfl
  have F' : FnS K "multiplied" s_multiplied (He.fAd K ("multiplied", none)) fd := Eq.mpr (congrArg (fun s : Stmt => FnS K "multiplied" s (He.fAd K ("multiplied", none)) fd) z_multiplied.property) F
  exact has_of F' sc_multiplied hm bd_multiplied (fun cdv A outer s H E hr => wk_multiplied B c (has_plus B c D) (has_times B c D) (has_trimmed B c D) cdv A outer s H E hr) pr_multiplied
theorem has_over {P : Program} {w : World} {K : PySem.W.Frag} {mg : PySem.Str → Option Value} {base : Heap} (B : Fre mg) (c : Csts K mg) (D : AllD K mg) : Has P w K mg base 4 "over" ["one", "two"] 2 sp_over := by
  obtain ⟨hm, fd, F⟩ := D 27 ("over", 20) rfl
  have F' : FnS K "over" s_over (He.fAd K ("over", none)) fd := Eq.mpr (congrArg (fun s : Stmt => FnS K "over" s (He.fAd K ("over", none)) fd) z_over.property) F
  exact has_of F' sc_over hm bd_over (fun cdv A outer s H E hr => wk_over B c (has_ratio B c D) cdv A outer s H E hr) pr_over
theorem has_bounds_by {P : Program} {w : World} {K : PySem.W.Frag} {mg : PySem.Str → Option Value} {base : Heap} (B : Fre mg) (c : Csts K mg) (D : AllD K mg) : Has P w K mg base 7 "bounds_by" ["answer", "row"] 2 sp_bounds_by := by
  obtain ⟨hm, fd, F⟩ := D 28 ("bounds_by", 52) rfl
  have F' : FnS K "bounds_by" s_bounds_by (He.fAd K ("bounds_by", none)) fd := Eq.mpr (congrArg (fun s : Stmt => FnS K "bounds_by" s (He.fAd K ("bounds_by", none)) fd) z_bounds_by.property) F
  exact has_of F' sc_bounds_by hm bd_bounds_by (fun cdv A outer s H E hr => wk_bounds_by B c (has_sizes_by B c D) (has_lessened B c D) (has_multiplied B c D) (has_is_below B c D) (has_over B c D) (has_minus B c D) (has_plus B c D) cdv A outer s H E hr) pr_bounds_by
theorem has_scaled {P : Program} {w : World} {K : PySem.W.Frag} {mg : PySem.Str → Option Value} {base : Heap} (B : Fre mg) (c : Csts K mg) (D : AllD K mg) : Has P w K mg base 5 "scaled" ["number", "row"] 2 sp_scaled := by
  obtain ⟨hm, fd, F⟩ := D 29 ("scaled", 28) rfl
  have F' : FnS K "scaled" s_scaled (He.fAd K ("scaled", none)) fd := Eq.mpr (congrArg (fun s : Stmt => FnS K "scaled" s (He.fAd K ("scaled", none)) fd) z_scaled.property) F
  exact has_of F' sc_scaled hm bd_scaled (fun cdv A outer s H E hr => wk_scaled B c (has_trimmed B c D) (has_times B c D) cdv A outer s H E hr) pr_scaled
theorem has_first_of {P : Program} {w : World} {K : PySem.W.Frag} {mg : PySem.Str → Option Value} {base : Heap} (B : Fre mg) (c : Csts K mg) (D : AllD K mg) : Has P w K mg base 1 "first_of" ["row"] 1 sp_first_of := by
  obtain ⟨hm, fd, F⟩ := D 30 ("first_of", 33) rfl
  have F' : FnS K "first_of" s_first_of (He.fAd K ("first_of", none)) fd := Eq.mpr (congrArg (fun s : Stmt => FnS K "first_of" s (He.fAd K ("first_of", none)) fd) z_first_of.property) F
  exact has_of F' sc_first_of hm bd_first_of (fun cdv A outer s H E hr => wk_first_of B c  cdv A outer s H E hr) pr_first_of
theorem has_parted_by {P : Program} {w : World} {K : PySem.W.Frag} {mg : PySem.Str → Option Value} {base : Heap} (B : Fre mg) (c : Csts K mg) (D : AllD K mg) : Has P w K mg base 5 "parted_by" ["row", "other"] 2 sp_parted_by := by
  obtain ⟨hm, fd, F⟩ := D 31 ("parted_by", 31) rfl
  have F' : FnS K "parted_by" s_parted_by (He.fAd K ("parted_by", none)) fd := Eq.mpr (congrArg (fun s : Stmt => FnS K "parted_by" s (He.fAd K ("parted_by", none)) fd) z_parted_by.property) F
  exact has_of F' sc_parted_by hm bd_parted_by (fun cdv A outer s H E hr => wk_parted_by B c (has_over B c D) (has_minus B c D) (has_times B c D) (has_trimmed B c D) cdv A outer s H E hr) pr_parted_by
theorem has_divisor_by {P : Program} {w : World} {K : PySem.W.Frag} {mg : PySem.Str → Option Value} {base : Heap} (B : Fre mg) (c : Csts K mg) (D : AllD K mg) : Has P w K mg base 6 "divisor_by" ["row", "other"] 2 sp_divisor_by := by
  obtain ⟨hm, fd, F⟩ := D 32 ("divisor_by", 34) rfl
  have F' : FnS K "divisor_by" s_divisor_by (He.fAd K ("divisor_by", none)) fd := Eq.mpr (congrArg (fun s : Stmt => FnS K "divisor_by" s (He.fAd K ("divisor_by", none)) fd) z_divisor_by.property) F
  exact has_of F' sc_divisor_by hm bd_divisor_by (fun cdv A outer s H E hr => wk_divisor_by B c (has_parted_by B c D) (has_scaled B c D) (has_over B c D) (has_first_of B c D) cdv A outer s H E hr) pr_divisor_by
theorem has_quotient_of {P : Program} {w : World} {K : PySem.W.Frag} {mg : PySem.Str → Option Value} {base : Heap} (B : Fre mg) (c : Csts K mg) (D : AllD K mg) : Has P w K mg base 6 "quotient_of" ["row", "other"] 2 sp_quotient_of := by
  obtain ⟨hm, fd, F⟩ := D 33 ("quotient_of", 32) rfl
  have F' : FnS K "quotient_of" s_quotient_of (He.fAd K ("quotient_of", none)) fd := Eq.mpr (congrArg (fun s : Stmt => FnS K "quotient_of" s (He.fAd K ("quotient_of", none)) fd) z_quotient_of.property) F
  exact has_of F' sc_quotient_of hm bd_quotient_of (fun cdv A outer s H E hr => wk_quotient_of B c (has_parted_by B c D) cdv A outer s H E hr) pr_quotient_of
theorem has_normal_of {P : Program} {w : World} {K : PySem.W.Frag} {mg : PySem.Str → Option Value} {base : Heap} (B : Fre mg) (c : Csts K mg) (D : AllD K mg) : Has P w K mg base 7 "normal_of" ["top", "under"] 2 sp_normal_of := by
  obtain ⟨hm, fd, F⟩ := D 34 ("normal_of", 40) rfl
  have F' : FnS K "normal_of" s_normal_of (He.fAd K ("normal_of", none)) fd := Eq.mpr (congrArg (fun s : Stmt => FnS K "normal_of" s (He.fAd K ("normal_of", none)) fd) z_normal_of.property) F
  exact has_of F' sc_normal_of hm bd_normal_of (fun cdv A outer s H E hr => wk_normal_of B c (has_divisor_by B c D) (has_quotient_of B c D) (has_over B c D) (has_scaled B c D) cdv A outer s H E hr) pr_normal_of
theorem has_is_whole {P : Program} {w : World} {K : PySem.W.Frag} {mg : PySem.Str → Option Value} {base : Heap} (B : Fre mg) (c : Csts K mg) (D : AllD K mg) : Has P w K mg base 1 "is_whole" ["value"] 1 sp_is_whole := by
  obtain ⟨hm, fd, F⟩ := D 35 ("is_whole", 7) rfl
  have F' : FnS K "is_whole" s_is_whole (He.fAd K ("is_whole", none)) fd := Eq.mpr (congrArg (fun s : Stmt => FnS K "is_whole" s (He.fAd K ("is_whole", none)) fd) z_is_whole.property) F
  exact has_of F' sc_is_whole hm bd_is_whole (fun cdv A outer s H E hr => wk_is_whole B c  cdv A outer s H E hr) pr_is_whole
theorem has_are_wholes {P : Program} {w : World} {K : PySem.W.Frag} {mg : PySem.Str → Option Value} {base : Heap} (B : Fre mg) (c : Csts K mg) (D : AllD K mg) : Has P w K mg base 2 "are_wholes" ["value", "many"] 2 sp_are_wholes := by
  obtain ⟨hm, fd, F⟩ := D 36 ("are_wholes", 9) rfl
  have F' : FnS K "are_wholes" s_are_wholes (He.fAd K ("are_wholes", none)) fd := Eq.mpr (congrArg (fun s : Stmt => FnS K "are_wholes" s (He.fAd K ("are_wholes", none)) fd) z_are_wholes.property) F
  exact has_of F' sc_are_wholes hm bd_are_wholes (fun cdv A outer s H E hr => wk_are_wholes B c (has_is_whole B c D) cdv A outer s H E hr) pr_are_wholes
theorem has_is_ratio {P : Program} {w : World} {K : PySem.W.Frag} {mg : PySem.Str → Option Value} {base : Heap} (B : Fre mg) (c : Csts K mg) (D : AllD K mg) : Has P w K mg base 3 "is_ratio" ["value"] 1 sp_is_ratio := by
  obtain ⟨hm, fd, F⟩ := D 37 ("is_ratio", 15) rfl
  have F' : FnS K "is_ratio" s_is_ratio (He.fAd K ("is_ratio", none)) fd := Eq.mpr (congrArg (fun s : Stmt => FnS K "is_ratio" s (He.fAd K ("is_ratio", none)) fd) z_is_ratio.property) F
  exact has_of F' sc_is_ratio hm bd_is_ratio (fun cdv A outer s H E hr => wk_is_ratio B c (has_are_wholes B c D) (has_divisor_of B c D) cdv A outer s H E hr) pr_is_ratio
theorem has_is_row {P : Program} {w : World} {K : PySem.W.Frag} {mg : PySem.Str → Option Value} {base : Heap} (B : Fre mg) (c : Csts K mg) (D : AllD K mg) : Has P w K mg base 4 "is_row" ["value"] 1 sp_is_row := by
  obtain ⟨hm, fd, F⟩ := D 38 ("is_row", 43) rfl
  have F' : FnS K "is_row" s_is_row (He.fAd K ("is_row", none)) fd := Eq.mpr (congrArg (fun s : Stmt => FnS K "is_row" s (He.fAd K ("is_row", none)) fd) z_is_row.property) F
  exact has_of F' sc_is_row hm bd_is_row (fun cdv A outer s H E hr => wk_is_row B c (has_is_ratio B c D) cdv A outer s H E hr) pr_is_row
theorem has_is_led_by {P : Program} {w : World} {K : PySem.W.Frag} {mg : PySem.Str → Option Value} {base : Heap} (B : Fre mg) (c : Csts K mg) (D : AllD K mg) : Has P w K mg base 1 "is_led_by" ["row"] 1 sp_is_led_by := by
  obtain ⟨hm, fd, F⟩ := D 39 ("is_led_by", 35) rfl
  have F' : FnS K "is_led_by" s_is_led_by (He.fAd K ("is_led_by", none)) fd := Eq.mpr (congrArg (fun s : Stmt => FnS K "is_led_by" s (He.fAd K ("is_led_by", none)) fd) z_is_led_by.property) F
  exact has_of F' sc_is_led_by hm bd_is_led_by (fun cdv A outer s H E hr => wk_is_led_by B c  cdv A outer s H E hr) pr_is_led_by
theorem has_is_led {P : Program} {w : World} {K : PySem.W.Frag} {mg : PySem.Str → Option Value} {base : Heap} (B : Fre mg) (c : Csts K mg) (D : AllD K mg) : Has P w K mg base 5 "is_led" ["value"] 1 sp_is_led := by
  obtain ⟨hm, fd, F⟩ := D 40 ("is_led", 44) rfl
  have F' : FnS K "is_led" s_is_led (He.fAd K ("is_led", none)) fd := Eq.mpr (congrArg (fun s : Stmt => FnS K "is_led" s (He.fAd K ("is_led", none)) fd) z_is_led.property) F
  exact has_of F' sc_is_led hm bd_is_led (fun cdv A outer s H E hr => wk_is_led B c (has_is_row B c D) (has_is_led_by B c D) cdv A outer s H E hr) pr_is_led
theorem has_is_answer {P : Program} {w : World} {K : PySem.W.Frag} {mg : PySem.Str → Option Value} {base : Heap} (B : Fre mg) (c : Csts K mg) (D : AllD K mg) : Has P w K mg base 8 "is_answer" ["value"] 1 sp_is_answer := by
  obtain ⟨hm, fd, F⟩ := D 41 ("is_answer", 46) rfl
  have F' : FnS K "is_answer" s_is_answer (He.fAd K ("is_answer", none)) fd := Eq.mpr (congrArg (fun s : Stmt => FnS K "is_answer" s (He.fAd K ("is_answer", none)) fd) z_is_answer.property) F
  exact has_of F' sc_is_answer hm bd_is_answer (fun cdv A outer s H E hr => wk_is_answer B c (has_is_row B c D) (has_is_led B c D) (has_normal_of B c D) cdv A outer s H E hr) pr_is_answer
theorem has_check_answer {P : Program} {w : World} {K : PySem.W.Frag} {mg : PySem.Str → Option Value} {base : Heap} (B : Fre mg) (c : Csts K mg) (D : AllD K mg) : Has P w K mg base 9 "check_answer" ["value"] 1 sp_check_answer := by
  obtain ⟨hm, fd, F⟩ := D 42 ("check_answer", 47) rfl
  have F' : FnS K "check_answer" s_check_answer (He.fAd K ("check_answer", none)) fd := Eq.mpr (congrArg (fun s : Stmt => FnS K "check_answer" s (He.fAd K ("check_answer", none)) fd) z_check_answer.property) F
  exact has_of F' sc_check_answer hm bd_check_answer (fun cdv A outer s H E hr => wk_check_answer B c (has_is_answer B c D) cdv A outer s H E hr) pr_check_answer
theorem has_is_between {P : Program} {w : World} {K : PySem.W.Frag} {mg : PySem.Str → Option Value} {base : Heap} (B : Fre mg) (c : Csts K mg) (D : AllD K mg) : Has P w K mg base 2 "is_between" ["value", "low", "high"] 3 sp_is_between := by
  obtain ⟨hm, fd, F⟩ := D 43 ("is_between", 8) rfl
  have F' : FnS K "is_between" s_is_between (He.fAd K ("is_between", none)) fd := Eq.mpr (congrArg (fun s : Stmt => FnS K "is_between" s (He.fAd K ("is_between", none)) fd) z_is_between.property) F
  exact has_of F' sc_is_between hm bd_is_between (fun cdv A outer s H E hr => wk_is_between B c (has_is_whole B c D) cdv A outer s H E hr) pr_is_between
theorem has_check_many {P : Program} {w : World} {K : PySem.W.Frag} {mg : PySem.Str → Option Value} {base : Heap} (B : Fre mg) (c : Csts K mg) (D : AllD K mg) : Has P w K mg base 3 "check_many" ["value"] 1 sp_check_many := by
  obtain ⟨hm, fd, F⟩ := D 44 ("check_many", 50) rfl
  have F' : FnS K "check_many" s_check_many (He.fAd K ("check_many", none)) fd := Eq.mpr (congrArg (fun s : Stmt => FnS K "check_many" s (He.fAd K ("check_many", none)) fd) z_check_many.property) F
  exact has_of F' sc_check_many hm bd_check_many (fun cdv A outer s H E hr => wk_check_many B c (has_is_between B c D) cdv A outer s H E hr) pr_check_many
theorem has_are_near {P : Program} {w : World} {K : PySem.W.Frag} {mg : PySem.Str → Option Value} {base : Heap} (B : Fre mg) (c : Csts K mg) (D : AllD K mg) : Has P w K mg base 5 "are_near" ["bounds", "many"] 2 sp_are_near := by
  obtain ⟨hm, fd, F⟩ := D 45 ("are_near", 53) rfl
  have F' : FnS K "are_near" s_are_near (He.fAd K ("are_near", none)) fd := Eq.mpr (congrArg (fun s : Stmt => FnS K "are_near" s (He.fAd K ("are_near", none)) fd) z_are_near.property) F
  exact has_of F' sc_are_near hm bd_are_near (fun cdv A outer s H E hr => wk_are_near B c (has_is_below B c D) (has_minus B c D) cdv A outer s H E hr) pr_are_near
theorem has_numbers_by {P : Program} {w : World} {K : PySem.W.Frag} {mg : PySem.Str → Option Value} {base : Heap} (B : Fre mg) (c : Csts K mg) (D : AllD K mg) : Has P w K mg base 5 "numbers_by" ["answer", "many"] 2 sp_numbers_by := by
  obtain ⟨hm, fd, F⟩ := D 46 ("numbers_by", 41) rfl
  have F' : FnS K "numbers_by" s_numbers_by (He.fAd K ("numbers_by", none)) fd := Eq.mpr (congrArg (fun s : Stmt => FnS K "numbers_by" s (He.fAd K ("numbers_by", none)) fd) z_numbers_by.property) F
  exact has_of F' sc_numbers_by hm bd_numbers_by (fun cdv A outer s H E hr => wk_numbers_by B c (has_number_at B c D) (has_minus B c D) (has_times B c D) cdv A outer s H E hr) pr_numbers_by
theorem has_bounding_by {P : Program} {w : World} {K : PySem.W.Frag} {mg : PySem.Str → Option Value} {base : Heap} (B : Fre mg) (c : Csts K mg) (D : AllD K mg) : Has P w K mg base 8 "bounding_by" ["answer", "many"] 2 sp_bounding_by := by
  obtain ⟨hm, fd, F⟩ := D 47 ("bounding_by", 54) rfl
  have F' : FnS K "bounding_by" s_bounding_by (He.fAd K ("bounding_by", none)) fd := Eq.mpr (congrArg (fun s : Stmt => FnS K "bounding_by" s (He.fAd K ("bounding_by", none)) fd) z_bounding_by.property) F
  exact has_of F' sc_bounding_by hm bd_bounding_by (fun cdv A outer s H E hr => wk_bounding_by B c (has_are_near B c D) (has_bounds_by B c D) (has_trimmed B c D) (has_numbers_by B c D) cdv A outer s H E hr) pr_bounding_by
theorem has_next_numbers {P : Program} {w : World} {K : PySem.W.Frag} {mg : PySem.Str → Option Value} {base : Heap} (B : Fre mg) (c : Csts K mg) (D : AllD K mg) : Has P w K mg base 5 "next_numbers" ["numbers", "bend"] 2 sp_next_numbers := by
  obtain ⟨hm, fd, F⟩ := D 48 ("next_numbers", 37) rfl
  have F' : FnS K "next_numbers" s_next_numbers (He.fAd K ("next_numbers", none)) fd := Eq.mpr (congrArg (fun s : Stmt => FnS K "next_numbers" s (He.fAd K ("next_numbers", none)) fd) z_next_numbers.property) F
  exact has_of F' sc_next_numbers hm bd_next_numbers (fun cdv A outer s H E hr => wk_next_numbers B c (has_minus B c D) (has_times B c D) (has_over B c D) cdv A outer s H E hr) pr_next_numbers
theorem has_led_by {P : Program} {w : World} {K : PySem.W.Frag} {mg : PySem.Str → Option Value} {base : Heap} (B : Fre mg) (c : Csts K mg) (D : AllD K mg) : Has P w K mg base 6 "led_by" ["row"] 1 sp_led_by := by
  obtain ⟨hm, fd, F⟩ := D 49 ("led_by", 36) rfl
  have F' : FnS K "led_by" s_led_by (He.fAd K ("led_by", none)) fd := Eq.mpr (congrArg (fun s : Stmt => FnS K "led_by" s (He.fAd K ("led_by", none)) fd) z_led_by.property) F
  exact has_of F' sc_led_by hm bd_led_by (fun cdv A outer s H E hr => wk_led_by B c (has_scaled B c D) (has_over B c D) cdv A outer s H E hr) pr_led_by
theorem has_bends_by {P : Program} {w : World} {K : PySem.W.Frag} {mg : PySem.Str → Option Value} {base : Heap} (B : Fre mg) (c : Csts K mg) (D : AllD K mg) : Has P w K mg base 7 "bends_by" ["row"] 1 sp_bends_by := by
  obtain ⟨hm, fd, F⟩ := D 50 ("bends_by", 38) rfl
  have F' : FnS K "bends_by" s_bends_by (He.fAd K ("bends_by", none)) fd := Eq.mpr (congrArg (fun s : Stmt => FnS K "bends_by" s (He.fAd K ("bends_by", none)) fd) z_bends_by.property) F
  exact has_of F' sc_bends_by hm bd_bends_by (fun cdv A outer s H E hr => wk_bends_by B c (has_led_by B c D) (has_next_numbers B c D) cdv A outer s H E hr) pr_bends_by
theorem has_is_steady_by {P : Program} {w : World} {K : PySem.W.Frag} {mg : PySem.Str → Option Value} {base : Heap} (B : Fre mg) (c : Csts K mg) (D : AllD K mg) : Has P w K mg base 8 "is_steady_by" ["row"] 1 sp_is_steady_by := by
  obtain ⟨hm, fd, F⟩ := D 51 ("is_steady_by", 39) rfl
  have F' : FnS K "is_steady_by" s_is_steady_by (He.fAd K ("is_steady_by", none)) fd := Eq.mpr (congrArg (fun s : Stmt => FnS K "is_steady_by" s (He.fAd K ("is_steady_by", none)) fd) z_is_steady_by.property) F
  exact has_of F' sc_is_steady_by hm bd_is_steady_by (fun cdv A outer s H E hr => wk_is_steady_by B c (has_bends_by B c D) cdv A outer s H E hr) pr_is_steady_by
theorem has_worst_row {P : Program} {w : World} {K : PySem.W.Frag} {mg : PySem.Str → Option Value} {base : Heap} (B : Fre mg) (c : Csts K mg) (D : AllD K mg) : Has P w K mg base 10 "worst_row" ["answer", "many"] 2 sp_worst_row := by
  obtain ⟨hm, fd, F⟩ := D 52 ("worst_row", 56) rfl
  have F' : FnS K "worst_row" s_worst_row (He.fAd K ("worst_row", none)) fd := Eq.mpr (congrArg (fun s : Stmt => FnS K "worst_row" s (He.fAd K ("worst_row", none)) fd) z_worst_row.property) F
  exact has_of F' sc_worst_row hm bd_worst_row (fun cdv A outer s H E hr => wk_worst_row B c (has_check_answer B c D) (has_check_many B c D) (has_is_steady_by B c D) (has_bounding_by B c D) cdv A outer s H E hr) pr_worst_row
theorem has_worst_near {P : Program} {w : World} {K : PySem.W.Frag} {mg : PySem.Str → Option Value} {base : Heap} (B : Fre mg) (c : Csts K mg) (D : AllD K mg) : Has P w K mg base 11 "worst_near" ["answer", "many"] 2 sp_worst_near := by
  obtain ⟨hm, fd, F⟩ := D 53 ("worst_near", 55) rfl
  have F' : FnS K "worst_near" s_worst_near (He.fAd K ("worst_near", none)) fd := Eq.mpr (congrArg (fun s : Stmt => FnS K "worst_near" s (He.fAd K ("worst_near", none)) fd) z_worst_near.property) F
  exact has_of F' sc_worst_near hm bd_worst_near (fun cdv A outer s H E hr => wk_worst_near B c (has_bounds_by B c D) (has_worst_row B c D) cdv A outer s H E hr) pr_worst_near
theorem hasK_worst_near {P : Program} {w : World} {K : PySem.W.Frag} {mg : PySem.Str → Option Value} {base : Heap} (B : Fre mg) (c : Csts K mg) (D : AllD K mg) : HasK P w K mg base 11 "worst_near" ["answer", "many"] ["many", "answer"] 2 sp_worst_near := by
  obtain ⟨hm, fd, F⟩ := D 53 ("worst_near", 55) rfl
  have F' : FnS K "worst_near" s_worst_near (He.fAd K ("worst_near", none)) fd := Eq.mpr (congrArg (fun s : Stmt => FnS K "worst_near" s (He.fAd K ("worst_near", none)) fd) z_worst_near.property) F
  exact hasK_of F' sc_worst_near hm bk_worst_near rfl (fun cdv A outer s H E hr => wk_worst_near B c (has_bounds_by B c D) (has_worst_row B c D) cdv A outer s H E hr) pr_worst_near
theorem has__law_plus {P : Program} {w : World} {K : PySem.W.Frag} {mg : PySem.Str → Option Value} {base : Heap} (B : Fre mg) (c : Csts K mg) (D : AllD K mg) : Has P w K mg base 3 "_law_plus" ["one", "two"] 2 sp__law_plus := by
  obtain ⟨hm, fd, F⟩ := D 54 ("_law_plus", 63) rfl
  have F' : FnS K "_law_plus" s__law_plus (He.fAd K ("_law_plus", none)) fd := Eq.mpr (congrArg (fun s : Stmt => FnS K "_law_plus" s (He.fAd K ("_law_plus", none)) fd) z__law_plus.property) F
  exact has_of F' sc__law_plus hm bd__law_plus (fun cdv A outer s H E hr => wk__law_plus B c (has__law_low B c D) cdv A outer s H E hr) pr__law_plus
theorem has__law_add {P : Program} {w : World} {K : PySem.W.Frag} {mg : PySem.Str → Option Value} {base : Heap} (B : Fre mg) (c : Csts K mg) (D : AllD K mg) : Has P w K mg base 4 "_law_add" ["one", "two"] 2 sp__law_add := by
  obtain ⟨hm, fd, F⟩ := D 55 ("_law_add", 75) rfl
  have F' : FnS K "_law_add" s__law_add (He.fAd K ("_law_add", none)) fd := Eq.mpr (congrArg (fun s : Stmt => FnS K "_law_add" s (He.fAd K ("_law_add", none)) fd) z__law_add.property) F
  exact has_of F' sc__law_add hm bd__law_add (fun cdv A outer s H E hr => wk__law_add B c (has__law_cut B c D) (has__law_plus B c D) cdv A outer s H E hr) pr__law_add
theorem has__law_less {P : Program} {w : World} {K : PySem.W.Frag} {mg : PySem.Str → Option Value} {base : Heap} (B : Fre mg) (c : Csts K mg) (D : AllD K mg) : Has P w K mg base 5 "_law_less" ["one", "two"] 2 sp__law_less := by
  obtain ⟨hm, fd, F⟩ := D 56 ("_law_less", 76) rfl
  have F' : FnS K "_law_less" s__law_less (He.fAd K ("_law_less", none)) fd := Eq.mpr (congrArg (fun s : Stmt => FnS K "_law_less" s (He.fAd K ("_law_less", none)) fd) z__law_less.property) F
  exact has_of F' sc__law_less hm bd__law_less (fun cdv A outer s H E hr => wk__law_less B c (has__law_add B c D) (has__law_times B c D) cdv A outer s H E hr) pr__law_less
theorem has__law_numbers {P : Program} {w : World} {K : PySem.W.Frag} {mg : PySem.Str → Option Value} {base : Heap} (B : Fre mg) (c : Csts K mg) (D : AllD K mg) : Has P w K mg base 4 "_law_numbers" ["answer2", "many2"] 2 sp__law_numbers := by
  obtain ⟨hm, fd, F⟩ := D 57 ("_law_numbers", 81) rfl
  have F' : FnS K "_law_numbers" s__law_numbers (He.fAd K ("_law_numbers", none)) fd := Eq.mpr (congrArg (fun s : Stmt => FnS K "_law_numbers" s (He.fAd K ("_law_numbers", none)) fd) z__law_numbers.property) F
  exact has_of F' sc__law_numbers hm bd__law_numbers (fun cdv A outer s H E hr => wk__law_numbers B c (has__law_minus B c D) (has__law_prod B c D) cdv A outer s H E hr) pr__law_numbers
theorem has__law_ints {P : Program} {w : World} {K : PySem.W.Frag} {mg : PySem.Str → Option Value} {base : Heap} (B : Fre mg) (c : Csts K mg) (D : AllD K mg) : Has P w K mg base 2 "_law_ints" ["some"] 1 sp__law_ints := by
  obtain ⟨hm, fd, F⟩ := D 58 ("_law_ints", 71) rfl
  have F' : FnS K "_law_ints" s__law_ints (He.fAd K ("_law_ints", none)) fd := Eq.mpr (congrArg (fun s : Stmt => FnS K "_law_ints" s (He.fAd K ("_law_ints", none)) fd) z__law_ints.property) F
  exact has_of F' sc__law_ints hm bd__law_ints (fun cdv A outer s H E hr => wk__law_ints B c (has__law_deep B c D) cdv A outer s H E hr) pr__law_ints
theorem has__law_mul {P : Program} {w : World} {K : PySem.W.Frag} {mg : PySem.Str → Option Value} {base : Heap} (B : Fre mg) (c : Csts K mg) (D : AllD K mg) : Has P w K mg base 3 "_law_mul" ["one", "two"] 2 sp__law_mul := by
  obtain ⟨hm, fd, F⟩ := D 59 ("_law_mul", 73) rfl
  have F' : FnS K "_law_mul" s__law_mul (He.fAd K ("_law_mul", none)) fd := Eq.mpr (congrArg (fun s : Stmt => FnS K "_law_mul" s (He.fAd K ("_law_mul", none)) fd) z__law_mul.property) F
  exact has_of F' sc__law_mul hm bd__law_mul (fun cdv A outer s H E hr => wk__law_mul B c (has__law_ints B c D) (has__law_low B c D) cdv A outer s H E hr) pr__law_mul
theorem has__law_all {P : Program} {w : World} {K : PySem.W.Frag} {mg : PySem.Str → Option Value} {base : Heap} (B : Fre mg) (c : Csts K mg) (D : AllD K mg) : Has P w K mg base 4 "_law_all" ["some"] 1 sp__law_all := by
  obtain ⟨hm, fd, F⟩ := D 60 ("_law_all", 69) rfl
  have F' : FnS K "_law_all" s__law_all (He.fAd K ("_law_all", none)) fd := Eq.mpr (congrArg (fun s : Stmt => FnS K "_law_all" s (He.fAd K ("_law_all", none)) fd) z__law_all.property) F
  exact has_of F' sc__law_all hm bd__law_all (fun cdv A outer s H E hr => wk__law_all B c (has__law_plus B c D) cdv A outer s H E hr) pr__law_all
theorem has__law_size {P : Program} {w : World} {K : PySem.W.Frag} {mg : PySem.Str → Option Value} {base : Heap} (B : Fre mg) (c : Csts K mg) (D : AllD K mg) : Has P w K mg base 1 "_law_size" ["one"] 1 sp__law_size := by
  obtain ⟨hm, fd, F⟩ := D 61 ("_law_size", 68) rfl
  have F' : FnS K "_law_size" s__law_size (He.fAd K ("_law_size", none)) fd := Eq.mpr (congrArg (fun s : Stmt => FnS K "_law_size" s (He.fAd K ("_law_size", none)) fd) z__law_size.property) F
  exact has_of F' sc__law_size hm bd__law_size (fun cdv A outer s H E hr => wk__law_size B c  cdv A outer s H E hr) pr__law_size
theorem has__law_sizes {P : Program} {w : World} {K : PySem.W.Frag} {mg : PySem.Str → Option Value} {base : Heap} (B : Fre mg) (c : Csts K mg) (D : AllD K mg) : Has P w K mg base 5 "_law_sizes" ["some"] 1 sp__law_sizes := by
  obtain ⟨hm, fd, F⟩ := D 62 ("_law_sizes", 70) rfl
  have F' : FnS K "_law_sizes" s__law_sizes (He.fAd K ("_law_sizes", none)) fd := Eq.mpr (congrArg (fun s : Stmt => FnS K "_law_sizes" s (He.fAd K ("_law_sizes", none)) fd) z__law_sizes.property) F
  exact has_of F' sc__law_sizes hm bd__law_sizes (fun cdv A outer s H E hr => wk__law_sizes B c (has__law_all B c D) (has__law_size B c D) cdv A outer s H E hr) pr__law_sizes
theorem has__law_below {P : Program} {w : World} {K : PySem.W.Frag} {mg : PySem.Str → Option Value} {base : Heap} (B : Fre mg) (c : Csts K mg) (D : AllD K mg) : Has P w K mg base 1 "_law_below" ["one", "two"] 2 sp__law_below := by
  obtain ⟨hm, fd, F⟩ := D 63 ("_law_below", 67) rfl
  have F' : FnS K "_law_below" s__law_below (He.fAd K ("_law_below", none)) fd := Eq.mpr (congrArg (fun s : Stmt => FnS K "_law_below" s (He.fAd K ("_law_below", none)) fd) z__law_below.property) F
  exact has_of F' sc__law_below hm bd__law_below (fun cdv A outer s H E hr => wk__law_below B c  cdv A outer s H E hr) pr__law_below
theorem has__law_own_bounds {P : Program} {w : World} {K : PySem.W.Frag} {mg : PySem.Str → Option Value} {base : Heap} (B : Fre mg) (c : Csts K mg) (D : AllD K mg) : Has P w K mg base 6 "_law_own_bounds" ["answer2", "many2"] 2 sp__law_own_bounds := by
  obtain ⟨hm, fd, F⟩ := D 64 ("_law_own_bounds", 92) rfl
  have F' : FnS K "_law_own_bounds" s__law_own_bounds (He.fAd K ("_law_own_bounds", none)) fd := Eq.mpr (congrArg (fun s : Stmt => FnS K "_law_own_bounds" s (He.fAd K ("_law_own_bounds", none)) fd) z__law_own_bounds.property) F
  exact has_of F' sc__law_own_bounds hm bd__law_own_bounds (fun cdv A outer s H E hr => wk__law_own_bounds B c (has__law_cut B c D) (has__law_numbers B c D) (has__law_less B c D) (has__law_mul B c D) (has__law_sizes B c D) (has__law_below B c D) (has__law_per B c D) (has__law_minus B c D) (has__law_plus B c D) cdv A outer s H E hr) pr__law_own_bounds
theorem has__law_some {P : Program} {w : World} {K : PySem.W.Frag} {mg : PySem.Str → Option Value} {base : Heap} (B : Fre mg) (c : Csts K mg) (D : AllD K mg) : Has P w K mg base 3 "_law_some" ["well"] 1 sp__law_some := by
  obtain ⟨hm, fd, F⟩ := D 65 ("_law_some", 83) rfl
  have F' : FnS K "_law_some" s__law_some (He.fAd K ("_law_some", none)) fd := Eq.mpr (congrArg (fun s : Stmt => FnS K "_law_some" s (He.fAd K ("_law_some", none)) fd) z__law_some.property) F
  exact has_of F' sc__law_some hm bd__law_some (fun cdv A outer s H E hr => wk__law_some B c (has__law_draw B c D) (has__law_pick B c D) (has__law_low B c D) cdv A outer s H E hr) pr__law_some
theorem has__law_any {P : Program} {w : World} {K : PySem.W.Frag} {mg : PySem.Str → Option Value} {base : Heap} (B : Fre mg) (c : Csts K mg) (D : AllD K mg) : Has P w K mg base 3 "_law_any" ["well"] 1 sp__law_any := by
  obtain ⟨hm, fd, F⟩ := D 66 ("_law_any", 82) rfl
  have F' : FnS K "_law_any" s__law_any (He.fAd K ("_law_any", none)) fd := Eq.mpr (congrArg (fun s : Stmt => FnS K "_law_any" s (He.fAd K ("_law_any", none)) fd) z__law_any.property) F
  exact has_of F' sc__law_any hm bd__law_any (fun cdv A outer s H E hr => wk__law_any B c (has__law_pick B c D) (has__law_low B c D) (has__law_draw B c D) cdv A outer s H E hr) pr__law_any
theorem has__law_row {P : Program} {w : World} {K : PySem.W.Frag} {mg : PySem.Str → Option Value} {base : Heap} (B : Fre mg) (c : Csts K mg) (D : AllD K mg) : Has P w K mg base 4 "_law_row" ["well", "most"] 2 sp__law_row := by
  obtain ⟨hm, fd, F⟩ := D 67 ("_law_row", 84) rfl
  have F' : FnS K "_law_row" s__law_row (He.fAd K ("_law_row", none)) fd := Eq.mpr (congrArg (fun s : Stmt => FnS K "_law_row" s (He.fAd K ("_law_row", none)) fd) z__law_row.property) F
  exact has_of F' sc__law_row hm bd__law_row (fun cdv A outer s H E hr => wk__law_row B c (has__law_draw B c D) (has__law_any B c D) (has__law_some B c D) cdv A outer s H E hr) pr__law_row
theorem has__law_is_int {P : Program} {w : World} {K : PySem.W.Frag} {mg : PySem.Str → Option Value} {base : Heap} (B : Fre mg) (c : Csts K mg) (D : AllD K mg) : Has P w K mg base 1 "_law_is_int" ["some"] 1 sp__law_is_int := by
  obtain ⟨hm, fd, F⟩ := D 68 ("_law_is_int", 90) rfl
  have F' : FnS K "_law_is_int" s__law_is_int (He.fAd K ("_law_is_int", none)) fd := Eq.mpr (congrArg (fun s : Stmt => FnS K "_law_is_int" s (He.fAd K ("_law_is_int", none)) fd) z__law_is_int.property) F
  exact has_of F' sc__law_is_int hm bd__law_is_int (fun cdv A outer s H E hr => wk__law_is_int B c  cdv A outer s H E hr) pr__law_is_int
theorem has__law_is_part {P : Program} {w : World} {K : PySem.W.Frag} {mg : PySem.Str → Option Value} {base : Heap} (B : Fre mg) (c : Csts K mg) (D : AllD K mg) : Has P w K mg base 2 "_law_is_part" ["some"] 1 sp__law_is_part := by
  obtain ⟨hm, fd, F⟩ := D 69 ("_law_is_part", 91) rfl
  have F' : FnS K "_law_is_part" s__law_is_part (He.fAd K ("_law_is_part", none)) fd := Eq.mpr (congrArg (fun s : Stmt => FnS K "_law_is_part" s (He.fAd K ("_law_is_part", none)) fd) z__law_is_part.property) F
  exact has_of F' sc__law_is_part hm bd__law_is_part (fun cdv A outer s H E hr => wk__law_is_part B c (has__law_is_int B c D) (has__law_deep B c D) cdv A outer s H E hr) pr__law_is_part
theorem has__law_are_bounds {P : Program} {w : World} {K : PySem.W.Frag} {mg : PySem.Str → Option Value} {base : Heap} (B : Fre mg) (c : Csts K mg) (D : AllD K mg) : Has P w K mg base 4 "_law_are_bounds" ["some", "many2"] 2 sp__law_are_bounds := by
  obtain ⟨hm, fd, F⟩ := D 70 ("_law_are_bounds", 93) rfl
  have F' : FnS K "_law_are_bounds" s__law_are_bounds (He.fAd K ("_law_are_bounds", none)) fd := Eq.mpr (congrArg (fun s : Stmt => FnS K "_law_are_bounds" s (He.fAd K ("_law_are_bounds", none)) fd) z__law_are_bounds.property) F
  exact has_of F' sc__law_are_bounds hm bd__law_are_bounds (fun cdv A outer s H E hr => wk__law_are_bounds B c (has__law_is_part B c D) (has__law_below B c D) (has__law_minus B c D) cdv A outer s H E hr) pr__law_are_bounds
theorem has__law_do_meet {P : Program} {w : World} {K : PySem.W.Frag} {mg : PySem.Str → Option Value} {base : Heap} (B : Fre mg) (c : Csts K mg) (D : AllD K mg) : Has P w K mg base 2 "_law_do_meet" ["one", "two"] 2 sp__law_do_meet := by
  obtain ⟨hm, fd, F⟩ := D 71 ("_law_do_meet", 94) rfl
  have F' : FnS K "_law_do_meet" s__law_do_meet (He.fAd K ("_law_do_meet", none)) fd := Eq.mpr (congrArg (fun s : Stmt => FnS K "_law_do_meet" s (He.fAd K ("_law_do_meet", none)) fd) z__law_do_meet.property) F
  exact has_of F' sc__law_do_meet hm bd__law_do_meet (fun cdv A outer s H E hr => wk__law_do_meet B c (has__law_below B c D) cdv A outer s H E hr) pr__law_do_meet
theorem has__law_pair_factor {P : Program} {w : World} {K : PySem.W.Frag} {mg : PySem.Str → Option Value} {base : Heap} (B : Fre mg) (c : Csts K mg) (D : AllD K mg) : Has P w K mg base 4 "_law_pair_factor" ["t", "c"] 2 sp__law_pair_factor := by
  obtain ⟨hm, fd, F⟩ := D 72 ("_law_pair_factor", 88) rfl
  have F' : FnS K "_law_pair_factor" s__law_pair_factor (He.fAd K ("_law_pair_factor", none)) fd := Eq.mpr (congrArg (fun s : Stmt => FnS K "_law_pair_factor" s (He.fAd K ("_law_pair_factor", none)) fd) z__law_pair_factor.property) F
  exact has_of F' sc__law_pair_factor hm bd__law_pair_factor (fun cdv A outer s H E hr => wk__law_pair_factor B c (has__law_prod B c D) cdv A outer s H E hr) pr__law_pair_factor
theorem has__law_within {P : Program} {w : World} {K : PySem.W.Frag} {mg : PySem.Str → Option Value} {base : Heap} (B : Fre mg) (c : Csts K mg) (D : AllD K mg) : Has P w K mg base 3 "_law_within" ["well", "wide"] 2 sp__law_within := by
  obtain ⟨hm, fd, F⟩ := D 73 ("_law_within", 85) rfl
  have F' : FnS K "_law_within" s__law_within (He.fAd K ("_law_within", none)) fd := Eq.mpr (congrArg (fun s : Stmt => FnS K "_law_within" s (He.fAd K ("_law_within", none)) fd) z__law_within.property) F
  exact has_of F' sc__law_within hm bd__law_within (fun cdv A outer s H E hr => wk__law_within B c (has__law_draw B c D) (has__law_pick B c D) (has__law_low B c D) cdv A outer s H E hr) pr__law_within
theorem has__law_factor {P : Program} {w : World} {K : PySem.W.Frag} {mg : PySem.Str → Option Value} {base : Heap} (B : Fre mg) (c : Csts K mg) (D : AllD K mg) : Has P w K mg base 4 "_law_factor" ["z"] 1 sp__law_factor := by
  obtain ⟨hm, fd, F⟩ := D 74 ("_law_factor", 87) rfl
  have F' : FnS K "_law_factor" s__law_factor (He.fAd K ("_law_factor", none)) fd := Eq.mpr (congrArg (fun s : Stmt => FnS K "_law_factor" s (He.fAd K ("_law_factor", none)) fd) z__law_factor.property) F
  exact has_of F' sc__law_factor hm bd__law_factor (fun cdv A outer s H E hr => wk__law_factor B c (has__law_per B c D) cdv A outer s H E hr) pr__law_factor
theorem has__law_beyond {P : Program} {w : World} {K : PySem.W.Frag} {mg : PySem.Str → Option Value} {base : Heap} (B : Fre mg) (c : Csts K mg) (D : AllD K mg) : Has P w K mg base 3 "_law_beyond" ["well"] 1 sp__law_beyond := by
  obtain ⟨hm, fd, F⟩ := D 75 ("_law_beyond", 86) rfl
  have F' : FnS K "_law_beyond" s__law_beyond (He.fAd K ("_law_beyond", none)) fd := Eq.mpr (congrArg (fun s : Stmt => FnS K "_law_beyond" s (He.fAd K ("_law_beyond", none)) fd) z__law_beyond.property) F
  exact has_of F' sc__law_beyond hm bd__law_beyond (fun cdv A outer s H E hr => wk__law_beyond B c (has__law_draw B c D) (has__law_low B c D) cdv A outer s H E hr) pr__law_beyond
theorem has__law_calm {P : Program} {w : World} {K : PySem.W.Frag} {mg : PySem.Str → Option Value} {base : Heap} (B : Fre mg) (c : Csts K mg) (D : AllD K mg) : Has P w K mg base 5 "_law_calm" ["well", "most"] 2 sp__law_calm := by
  obtain ⟨hm, fd, F⟩ := D 76 ("_law_calm", 89) rfl
  have F' : FnS K "_law_calm" s__law_calm (He.fAd K ("_law_calm", none)) fd := Eq.mpr (congrArg (fun s : Stmt => FnS K "_law_calm" s (He.fAd K ("_law_calm", none)) fd) z__law_calm.property) F
  exact has_of F' sc__law_calm hm bd__law_calm (fun cdv A outer s H E hr => wk__law_calm B c (has__law_draw B c D) (has__law_size B c D) (has__law_within B c D) (has__law_pair_factor B c D) (has__law_pick B c D) (has__law_mul B c D) (has__law_factor B c D) (has__law_beyond B c D) cdv A outer s H E hr) pr__law_calm
theorem has0__law_same {P : Program} {w : World} {K : PySem.W.Frag} {mg : PySem.Str → Option Value} {base : Heap} (B : Fre mg) (c : Csts K mg) (D : AllD K mg) : Has P w K mg base 0 "_law_same" ["told", "due"] 2 (fun _ _ _ => False) := by
  obtain ⟨hm, fd, F⟩ := D 77 ("_law_same", 95) rfl
  have F' : FnS K "_law_same" s__law_same (He.fAd K ("_law_same", none)) fd := Eq.mpr (congrArg (fun s : Stmt => FnS K "_law_same" s (He.fAd K ("_law_same", none)) fd) z__law_same.property) F
  exact ⟨_, fd, ⟨spD_len, fun _ _ _ _ _ _ _ _ _ _ _ _ _ h => by obtain ⟨_, _, _, _, _, _, _, _, _, z, _⟩ := h; exact z.elim⟩, hm, F'.kp, F'.bindsN bd__law_same⟩
theorem has1__law_same {P : Program} {w : World} {K : PySem.W.Frag} {mg : PySem.Str → Option Value} {base : Heap} (B : Fre mg) (c : Csts K mg) (D : AllD K mg) : Has P w K mg base 1 "_law_same" ["told", "due"] 2 sps0 := by
  obtain ⟨hm, fd, F⟩ := D 77 ("_law_same", 95) rfl
  have F' : FnS K "_law_same" s__law_same (He.fAd K ("_law_same", none)) fd := Eq.mpr (congrArg (fun s : Stmt => FnS K "_law_same" s (He.fAd K ("_law_same", none)) fd) z__law_same.property) F
  exact has_of F' sc__law_same hm bd__law_same (fun cdv A outer s H E hr => wk__law_same B c (has0__law_same B c D) cdv A outer s H E hr) pr_same0
theorem has2__law_same {P : Program} {w : World} {K : PySem.W.Frag} {mg : PySem.Str → Option Value} {base : Heap} (B : Fre mg) (c : Csts K mg) (D : AllD K mg) : Has P w K mg base 2 "_law_same" ["told", "due"] 2 sps1 := by
  obtain ⟨hm, fd, F⟩ := D 77 ("_law_same", 95) rfl
  have F' : FnS K "_law_same" s__law_same (He.fAd K ("_law_same", none)) fd := Eq.mpr (congrArg (fun s : Stmt => FnS K "_law_same" s (He.fAd K ("_law_same", none)) fd) z__law_same.property) F
  exact has_of F' sc__law_same hm bd__law_same (fun cdv A outer s H E hr => wk__law_same B c (has1__law_same B c D) cdv A outer s H E hr) pr_same1
theorem has__law_same {P : Program} {w : World} {K : PySem.W.Frag} {mg : PySem.Str → Option Value} {base : Heap} (B : Fre mg) (c : Csts K mg) (D : AllD K mg) : Has P w K mg base 3 "_law_same" ["told", "due"] 2 sp__law_same := by
  obtain ⟨hm, fd, F⟩ := D 77 ("_law_same", 95) rfl
  have F' : FnS K "_law_same" s__law_same (He.fAd K ("_law_same", none)) fd := Eq.mpr (congrArg (fun s : Stmt => FnS K "_law_same" s (He.fAd K ("_law_same", none)) fd) z__law_same.property) F
  exact has_of F' sc__law_same hm bd__law_same (fun cdv A outer s H E hr => wk__law_same B c (has2__law_same B c D) cdv A outer s H E hr) pr__law_same
theorem hasG__law_right {P : Program} {w : World} {K : PySem.W.Frag} {mg : PySem.Str → Option Value} {base : Heap} (B : Fre mg) (c : Csts K mg) (D : AllD K mg) : HasG P w K mg base 12 "_law_right" ["well"] 1 sp__law_right := by
  obtain ⟨hm, fd, F⟩ := D 78 ("_law_right", 96) rfl
  have F' : FnS K "_law_right" s__law_right (He.fAd K ("_law_right", none)) fd := Eq.mpr (congrArg (fun s : Stmt => FnS K "_law_right" s (He.fAd K ("_law_right", none)) fd) z__law_right.property) F
  exact hasG_of F' sc__law_right hm bd__law_right (fun cdv A outer s H E hr hgd => wk__law_right B c (has__law_answer B c D) (has__law_mul B c D) (has__law_calm B c D) (has__law_row B c D) (has__law_pick B c D) (has__law_draw B c D) (has_worst_near B c D) (has__law_are_bounds B c D) (has__law_same B c D) (hasK_worst_near B c D) (has__law_own_bounds B c D) (has__law_do_meet B c D) (has__law_numbers B c D) (has__law_plus B c D) (has__law_size B c D) (has__law_below B c D) (has__law_some B c D) (has__law_times B c D) (has__law_prod B c D) cdv A outer s H E hr) pr__law_right
theorem has__law_well {P : Program} {w : World} {K : PySem.W.Frag} {mg : PySem.Str → Option Value} {base : Heap} (B : Fre mg) (c : Csts K mg) (D : AllD K mg) : Has P w K mg base 1 "_law_well" ["script", "nth"] 2 sp__law_well := by
  obtain ⟨hm, fd, F⟩ := D 79 ("_law_well", 58) rfl
  have F' : FnS K "_law_well" s__law_well (He.fAd K ("_law_well", none)) fd := Eq.mpr (congrArg (fun s : Stmt => FnS K "_law_well" s (He.fAd K ("_law_well", none)) fd) z__law_well.property) F
  exact has_of F' sc__law_well hm bd__law_well (fun cdv A outer s H E hr => wk__law_well B c  cdv A outer s H E hr) pr__law_well
theorem facts {P : Program} {w : World} {K : PySem.W.Frag} {h : Heap} {mg : PySem.Str → Option Value} {f : Addr} (X : K.In h) (G : h.Ns mainGlobals mg) (hfa : mg ("law" : PySem.Str) = some (.ref f)) (c : SaysV fa fn bs K) :
    ∃ fd : FuncData, (∀ (s : Shared) (u : Value), BindsTo s fd ⟨[u], []⟩ [("script", u)]) ∧ ∀ base : Heap, K.In base → base.Ns mainGlobals mg → FnG P w K mg base CX0 13 f fd ["script"] (spD K 1 sp_law) := by
  have D : AllD K mg := fun (j : Nat) (p : PySem.Str × Nat) e => by
    have hj : j < 81 := (List.getElem?_eq_some_iff.mp e).1
    have e1 : fn[j]? = some (mkD p) := by unfold fn; rw [List.getElem?_map, e]; rfl
    have e2 : fa[j]? = some (.glo p.1) := by
      unfold fa
      rw [List.getElem?_append_left (by rw [List.length_map]; exact hj), List.getElem?_map, e]
      rfl
    obtain ⟨fd, F⟩ := c.def_ j e1
    exact ⟨He.glo_ok X G (c.fact j e2), fd, F⟩
  have B : Fre mg := ⟨He.free_ok X G (c.fact 81), He.free_ok X G (c.fact 82), He.free_ok X G (c.fact 83), He.free_ok X G (c.fact 84), He.free_ok X G (c.fact 85), He.free_ok X G (c.fact 86), He.free_ok X G (c.fact 87), He.free_ok X G (c.fact 88), He.free_ok X G (c.fact 89), He.free_ok X G (c.fact 90), He.free_ok X G (c.fact 91), He.free_ok X G (c.fact 92), He.free_ok X G (c.fact 93), He.free_ok X G (c.fact 94), He.free_ok X G (c.fact 95), He.free_ok X G (c.fact 96), He.free_ok X G (c.fact 97), He.free_ok X G (c.fact 98), blt_ok X G (c.bool 3)⟩
  have c_MOST_MANY : Cst K mg "MOST_MANY" (.int 1000000) (.int 1000000) := by
    obtain ⟨t, e⟩ := He.int_ok X G (c.fact 99)
    exact ⟨_, e, ⟨t, rfl⟩, fun F => .int _⟩
  have v_ZERO : Kv K (.ref (He.ga K "ZERO")) dZERO := kv_tup (vs := [.int 0, .int 1]) (c.bool 0) fun F => .cons (.int _) (.cons (.int _) (.nil))
  have c_ZERO : Cst K mg "ZERO" dZERO (.ref (He.ga K "ZERO")) := ⟨_, He.glo_ok X G (c.fact 100), rfl, v_ZERO⟩
  have v_ONE : Kv K (.ref (He.ga K "ONE")) dONE := kv_tup (vs := [.int 1, .int 1]) (c.bool 1) fun F => .cons (.int _) (.cons (.int _) (.nil))
  have c_ONE : Cst K mg "ONE" dONE (.ref (He.ga K "ONE")) := ⟨_, He.glo_ok X G (c.fact 101), rfl, v_ONE⟩
  have v_UNIT : Kv K (.ref (He.ga K "UNIT")) dUNIT := kv_tup (vs := [.glo "ONE"]) (c.bool 2) fun F => .cons (v_ONE F) (.nil)
  have c_UNIT : Cst K mg "UNIT" dUNIT (.ref (He.ga K "UNIT")) := ⟨_, He.glo_ok X G (c.fact 102), rfl, v_UNIT⟩
  have C : Csts K mg := ⟨c_ZERO, c_ONE, c_UNIT, c_MOST_MANY⟩
  obtain ⟨hm, fd, F⟩ := D 80 ("law", 97) rfl
  have F' : FnS K "law" s_law (He.fAd K ("law", none)) fd := Eq.mpr (congrArg (fun s : Stmt => FnS K "law" s (He.fAd K ("law", none)) fd) z_law.property) F
  have e := hfa.symm.trans hm
  cases e
  have b := FunD.bindsA (ps := ["script"]) F' bd_law
  refine ⟨fd, fun s u => b s [u] rfl, fun base _ _ => okG F' sc_law spD_len fun cdv A outer s H vs Q E hr hgd hh => ?_⟩
  obtain ⟨ts, hx⟩ := wk_law B C (hasG__law_right B C D) (has__law_well B C D) cdv A outer s H E hr hgd
  exact ⟨ts, PSs.nox hx.pss, dfn_run (fun A e => hx.ds A e) pr_law vs H Q E hh⟩
theorem h1 : PySem.W.defOf (PySem.W.view R.prog [0, 97]) R.name = some (HandSHeadRun.topDef R.prog 97, []) := by kernel_rfl
theorem h2 : R.prog.theDef R.name = some ((HandSHeadRun.topDef R.prog 97).params, (HandSHeadRun.topDef R.prog 97).body, (HandSHeadRun.topDef R.prog 97).scope) := by kernel_rfl
theorem h3 : PySem.W.kwWritten? (HandSHeadRun.topDef R.prog 97).params.kwonlyargs (HandSHeadRun.topDef R.prog 97).params.kw_defaults = some [] := by rfl
theorem h6 : (PySem.W.chainsOk (PySem.W.view R.prog [0, 97]) && PySem.W.opensWell R.prog && (PySem.W.frees R.toRowW && R.within.isEmpty)) = true := by decide +kernel
theorem h7 : R.prog.bare := ⟨rfl, rfl, rfl, rfl, rfl, by decide +kernel⟩
end DL
open PySem PySem.W PySem.Calls PyProof.Rows
theorem PySem.Challenge.cw_allhelms_k44_whole_bounds_of_the_worst_holds : PySem.Challenge.rw_allhelms_k44_whole_bounds_of_the_worst.Holds := by
  w_on; o_law
  refine HandSHeadRun.head_imp (r := DL.R) (q := view DL.R.prog [0, 97]) (H := DL.hk) (ob := DL.ob) (M := 3600) (loose := DL.loose) (d := HandSHeadRun.topDef DL.R.prog 97) (kwd := []) DL.ob_eq DL.run
    DL.h1 DL.h2 DL.h3 (by decide +kernel) (by assumption) DL.h6 DL.h7 ?hw ?hc
  case hw => w_witness2
  case hc =>
    refine DL.walkG (l := PySem.Challenge.rw_allhelms_k44_whole_bounds_of_the_worst) (n := 63) (k := 13) (x := "script") (CX := L2.CX0) rfl (by decide) (by kernel_rfl) ⟨rfl, by decide, by decide⟩ ?F (fun _ _ _ _ z => z)
    intro w mg fa h Y G hmg0
    obtain ⟨K, KX, c⟩ := Y
    have hmg : mg ("law" : PySem.Str) = some (.ref fa) := by
      have e : (HandSHeadRun.topDef (OpenLaw.row PySem.Challenge.rw_allhelms_k44_whole_bounds_of_the_worst).prog 97).name = ("law" : PySem.Str) := by kernel_rfl
      rw [← e]
      exact hmg0
    obtain ⟨fd, hb, hF⟩ := DL.facts (P := (PySem.Challenge.rw_allhelms_k44_whole_bounds_of_the_worst).prog) (w := w) KX G hmg c
    exact ⟨K, fd, DL.sp_law, KX, hb, fun ns w hl => ⟨ns, rfl, hl, fun _ => rfl⟩, hF⟩
